/- Walks, printed by a program of this claim's author. -/
import Derived.Test.YthlbmkpkgiabnaaDoorChecked
import Derived.Test.YthlbmkpkgiabnaaDoorWb
import Derived.Test.YthlbmkpkgiabnaaDoorFt
import Derived.Test.YthlbmkpkgiabnaaDoorSi
import Derived.Test.YthlbmkpkgiabnaaDoorWf
import Derived.Test.YthlbmkpkgiabnaaDoorG33x
namespace Go.Proofs.YthlbmkpkgiabnaaDoor
open Go Go.RowKit Fw
set_option maxRecDepth 10000
set_option linter.unusedVariables false
theorem ent26 : Ent Tryd.prog 26 := ent_of Tryd.func26 (by decide +kernel) rfl
theorem ent28 : Ent Tryd.prog 28 := ent_of Tryd.func28 (by decide +kernel) rfl
theorem ent54 : Ent Tryd.prog 54 := ent_of Tryd.func54 (by decide +kernel) rfl
theorem ent55 : Ent Tryd.prog 55 := ent_of Tryd.func55 (by decide +kernel) rfl
theorem ent57 : Ent Tryd.prog 57 := ent_of Tryd.func57 (by decide +kernel) rfl
theorem ent58 : Ent Tryd.prog 58 := ent_of Tryd.func58 (by decide +kernel) rfl
theorem ent72 : Ent Tryd.prog 72 := ent_of Tryd.func72 (by decide +kernel) rfl

theorem z_c___spec_l1Cur__logRecord_115 (Lc : List UInt8) (tc : Int) (sc : Int) (nc : Nat) (htc : 0 ≤ tc ∧ tc + 8 ≤ 4611686018427387904) (hbdc : (nc : Int) ≤ 9223372036854775807) (hlec : nc = Lc.length) (v18 : List UInt8) (t19 : Int) (s20 : Int) (ht22 : tc ≤ t19 ∧ t19 ≤ tc + 2) (hq23 : v18 ∈ ([([99, 111, 117, 110, 116] : List UInt8), ([115, 111, 114, 116, 32, 109, 101, 114, 103, 101] : List UInt8), ([120] : List UInt8), ([115, 101, 108, 101, 99, 116, 32, 50] : List UInt8), ([48, 32, 49] : List UInt8)] : List (List UInt8))) (hq26 : v18.length ≤ 40) (v37 : List UInt8) (t38 : Int) (s39 : Int) (ht41 : t19 ≤ t38 ∧ t38 ≤ t19 + 2) (hq42 : v37 ∈ ([([] : List UInt8), ([51] : List UInt8), ([63] : List UInt8), ([97, 64, 98] : List UInt8), ([51, 32, 49, 32, 50] : List UInt8)] : List (List UInt8))) (hq45 : v37.length ≤ 40) (v64 : Int) (t65 : Int) (s66 : Int) (ht68 : t38 ≤ t65 ∧ t65 ≤ t38 + 2) (hq69 : (0 : Int) ≤ v64 ∧ ((v64 : Int) < 24 ∨ (v64 : Int) = 0)) (h72 : v64 = 0) (v94 : List UInt8) (t95 : Int) (s96 : Int) (ht98 : t65 ≤ t95 ∧ t95 ≤ t65 + 2) (hq99 : v94 ∈ ([([] : List UInt8), ([97, 64, 98] : List UInt8), ([97, 35] : List UInt8), ([10] : List UInt8), List.replicate 3 (0 : UInt8)] : List (List UInt8))) (hq102 : v94.length ≤ 40) : v94 = (⟨v94, v37⟩ : LogRecord).Command := by
  first | rfl | omega | grind
theorem z_c___spec_l1Cur__logRecord_116 (Lc : List UInt8) (tc : Int) (sc : Int) (nc : Nat) (htc : 0 ≤ tc ∧ tc + 8 ≤ 4611686018427387904) (hbdc : (nc : Int) ≤ 9223372036854775807) (hlec : nc = Lc.length) (v18 : List UInt8) (t19 : Int) (s20 : Int) (ht22 : tc ≤ t19 ∧ t19 ≤ tc + 2) (hq23 : v18 ∈ ([([99, 111, 117, 110, 116] : List UInt8), ([115, 111, 114, 116, 32, 109, 101, 114, 103, 101] : List UInt8), ([120] : List UInt8), ([115, 101, 108, 101, 99, 116, 32, 50] : List UInt8), ([48, 32, 49] : List UInt8)] : List (List UInt8))) (hq26 : v18.length ≤ 40) (v37 : List UInt8) (t38 : Int) (s39 : Int) (ht41 : t19 ≤ t38 ∧ t38 ≤ t19 + 2) (hq42 : v37 ∈ ([([] : List UInt8), ([51] : List UInt8), ([63] : List UInt8), ([97, 64, 98] : List UInt8), ([51, 32, 49, 32, 50] : List UInt8)] : List (List UInt8))) (hq45 : v37.length ≤ 40) (v64 : Int) (t65 : Int) (s66 : Int) (ht68 : t38 ≤ t65 ∧ t65 ≤ t38 + 2) (hq69 : (0 : Int) ≤ v64 ∧ ((v64 : Int) < 24 ∨ (v64 : Int) = 0)) (h72 : v64 = 0) (v94 : List UInt8) (t95 : Int) (s96 : Int) (ht98 : t65 ≤ t95 ∧ t95 ≤ t65 + 2) (hq99 : v94 ∈ ([([] : List UInt8), ([97, 64, 98] : List UInt8), ([97, 35] : List UInt8), ([10] : List UInt8), List.replicate 3 (0 : UInt8)] : List (List UInt8))) (hq102 : v94.length ≤ 40) : v37 = (⟨v94, v37⟩ : LogRecord).Reply := by
  first | rfl | omega | grind
theorem z_c___spec_l1Cur__logRecord_117 (Lc : List UInt8) (tc : Int) (sc : Int) (nc : Nat) (htc : 0 ≤ tc ∧ tc + 8 ≤ 4611686018427387904) (hbdc : (nc : Int) ≤ 9223372036854775807) (hlec : nc = Lc.length) (v18 : List UInt8) (t19 : Int) (s20 : Int) (ht22 : tc ≤ t19 ∧ t19 ≤ tc + 2) (hq23 : v18 ∈ ([([99, 111, 117, 110, 116] : List UInt8), ([115, 111, 114, 116, 32, 109, 101, 114, 103, 101] : List UInt8), ([120] : List UInt8), ([115, 101, 108, 101, 99, 116, 32, 50] : List UInt8), ([48, 32, 49] : List UInt8)] : List (List UInt8))) (hq26 : v18.length ≤ 40) (v37 : List UInt8) (t38 : Int) (s39 : Int) (ht41 : t19 ≤ t38 ∧ t38 ≤ t19 + 2) (hq42 : v37 ∈ ([([] : List UInt8), ([51] : List UInt8), ([63] : List UInt8), ([97, 64, 98] : List UInt8), ([51, 32, 49, 32, 50] : List UInt8)] : List (List UInt8))) (hq45 : v37.length ≤ 40) (v64 : Int) (t65 : Int) (s66 : Int) (ht68 : t38 ≤ t65 ∧ t65 ≤ t38 + 2) (hq69 : (0 : Int) ≤ v64 ∧ ((v64 : Int) < 24 ∨ (v64 : Int) = 0)) (h72 : v64 = 0) (v94 : List UInt8) (t95 : Int) (s96 : Int) (ht98 : t65 ≤ t95 ∧ t95 ≤ t65 + 2) (hq99 : v94 ∈ ([([] : List UInt8), ([97, 64, 98] : List UInt8), ([97, 35] : List UInt8), ([10] : List UInt8), List.replicate 3 (0 : UInt8)] : List (List UInt8))) (hq102 : v94.length ≤ 40) : (⟨v94, v37⟩ : LogRecord).Command.length ≤ 40 ∧ (⟨v94, v37⟩ : LogRecord).Reply.length ≤ 40 := by
  first | omega | (dsimp only; omega)
theorem z_c___spec_l1Cur__logRecord_151 (Lc : List UInt8) (tc : Int) (sc : Int) (nc : Nat) (htc : 0 ≤ tc ∧ tc + 8 ≤ 4611686018427387904) (hbdc : (nc : Int) ≤ 9223372036854775807) (hlec : nc = Lc.length) (v18 : List UInt8) (t19 : Int) (s20 : Int) (ht22 : tc ≤ t19 ∧ t19 ≤ tc + 2) (hq23 : v18 ∈ ([([99, 111, 117, 110, 116] : List UInt8), ([115, 111, 114, 116, 32, 109, 101, 114, 103, 101] : List UInt8), ([120] : List UInt8), ([115, 101, 108, 101, 99, 116, 32, 50] : List UInt8), ([48, 32, 49] : List UInt8)] : List (List UInt8))) (hq26 : v18.length ≤ 40) (v37 : List UInt8) (t38 : Int) (s39 : Int) (ht41 : t19 ≤ t38 ∧ t38 ≤ t19 + 2) (hq42 : v37 ∈ ([([] : List UInt8), ([51] : List UInt8), ([63] : List UInt8), ([97, 64, 98] : List UInt8), ([51, 32, 49, 32, 50] : List UInt8)] : List (List UInt8))) (hq45 : v37.length ≤ 40) (v64 : Int) (t65 : Int) (s66 : Int) (ht68 : t38 ≤ t65 ∧ t65 ≤ t38 + 2) (hq69 : (0 : Int) ≤ v64 ∧ ((v64 : Int) < 24 ∨ (v64 : Int) = 0)) (h72 : ¬ (v64 = 0)) (h118 : v64 = 1) (v130 : List UInt8) (t131 : Int) (s132 : Int) (ht134 : t65 ≤ t131 ∧ t131 ≤ t65 + 2) (hq135 : v130 ∈ ([([35] : List UInt8), ([10] : List UInt8), ([127] : List UInt8)] : List (List UInt8))) (hq138 : v130.length ≤ 40) : v18 = (⟨v18, v130⟩ : LogRecord).Command := by
  first | rfl | omega | grind
theorem z_c___spec_l1Cur__logRecord_152 (Lc : List UInt8) (tc : Int) (sc : Int) (nc : Nat) (htc : 0 ≤ tc ∧ tc + 8 ≤ 4611686018427387904) (hbdc : (nc : Int) ≤ 9223372036854775807) (hlec : nc = Lc.length) (v18 : List UInt8) (t19 : Int) (s20 : Int) (ht22 : tc ≤ t19 ∧ t19 ≤ tc + 2) (hq23 : v18 ∈ ([([99, 111, 117, 110, 116] : List UInt8), ([115, 111, 114, 116, 32, 109, 101, 114, 103, 101] : List UInt8), ([120] : List UInt8), ([115, 101, 108, 101, 99, 116, 32, 50] : List UInt8), ([48, 32, 49] : List UInt8)] : List (List UInt8))) (hq26 : v18.length ≤ 40) (v37 : List UInt8) (t38 : Int) (s39 : Int) (ht41 : t19 ≤ t38 ∧ t38 ≤ t19 + 2) (hq42 : v37 ∈ ([([] : List UInt8), ([51] : List UInt8), ([63] : List UInt8), ([97, 64, 98] : List UInt8), ([51, 32, 49, 32, 50] : List UInt8)] : List (List UInt8))) (hq45 : v37.length ≤ 40) (v64 : Int) (t65 : Int) (s66 : Int) (ht68 : t38 ≤ t65 ∧ t65 ≤ t38 + 2) (hq69 : (0 : Int) ≤ v64 ∧ ((v64 : Int) < 24 ∨ (v64 : Int) = 0)) (h72 : ¬ (v64 = 0)) (h118 : v64 = 1) (v130 : List UInt8) (t131 : Int) (s132 : Int) (ht134 : t65 ≤ t131 ∧ t131 ≤ t65 + 2) (hq135 : v130 ∈ ([([35] : List UInt8), ([10] : List UInt8), ([127] : List UInt8)] : List (List UInt8))) (hq138 : v130.length ≤ 40) : v130 = (⟨v18, v130⟩ : LogRecord).Reply := by
  first | rfl | omega | grind
theorem z_c___spec_l1Cur__logRecord_153 (Lc : List UInt8) (tc : Int) (sc : Int) (nc : Nat) (htc : 0 ≤ tc ∧ tc + 8 ≤ 4611686018427387904) (hbdc : (nc : Int) ≤ 9223372036854775807) (hlec : nc = Lc.length) (v18 : List UInt8) (t19 : Int) (s20 : Int) (ht22 : tc ≤ t19 ∧ t19 ≤ tc + 2) (hq23 : v18 ∈ ([([99, 111, 117, 110, 116] : List UInt8), ([115, 111, 114, 116, 32, 109, 101, 114, 103, 101] : List UInt8), ([120] : List UInt8), ([115, 101, 108, 101, 99, 116, 32, 50] : List UInt8), ([48, 32, 49] : List UInt8)] : List (List UInt8))) (hq26 : v18.length ≤ 40) (v37 : List UInt8) (t38 : Int) (s39 : Int) (ht41 : t19 ≤ t38 ∧ t38 ≤ t19 + 2) (hq42 : v37 ∈ ([([] : List UInt8), ([51] : List UInt8), ([63] : List UInt8), ([97, 64, 98] : List UInt8), ([51, 32, 49, 32, 50] : List UInt8)] : List (List UInt8))) (hq45 : v37.length ≤ 40) (v64 : Int) (t65 : Int) (s66 : Int) (ht68 : t38 ≤ t65 ∧ t65 ≤ t38 + 2) (hq69 : (0 : Int) ≤ v64 ∧ ((v64 : Int) < 24 ∨ (v64 : Int) = 0)) (h72 : ¬ (v64 = 0)) (h118 : v64 = 1) (v130 : List UInt8) (t131 : Int) (s132 : Int) (ht134 : t65 ≤ t131 ∧ t131 ≤ t65 + 2) (hq135 : v130 ∈ ([([35] : List UInt8), ([10] : List UInt8), ([127] : List UInt8)] : List (List UInt8))) (hq138 : v130.length ≤ 40) : (⟨v18, v130⟩ : LogRecord).Command.length ≤ 40 ∧ (⟨v18, v130⟩ : LogRecord).Reply.length ≤ 40 := by
  first | omega | (dsimp only; omega)
theorem z_c___spec_l1Cur__logRecord_160 (Lc : List UInt8) (tc : Int) (sc : Int) (nc : Nat) (htc : 0 ≤ tc ∧ tc + 8 ≤ 4611686018427387904) (hbdc : (nc : Int) ≤ 9223372036854775807) (hlec : nc = Lc.length) (v18 : List UInt8) (t19 : Int) (s20 : Int) (ht22 : tc ≤ t19 ∧ t19 ≤ tc + 2) (hq23 : v18 ∈ ([([99, 111, 117, 110, 116] : List UInt8), ([115, 111, 114, 116, 32, 109, 101, 114, 103, 101] : List UInt8), ([120] : List UInt8), ([115, 101, 108, 101, 99, 116, 32, 50] : List UInt8), ([48, 32, 49] : List UInt8)] : List (List UInt8))) (hq26 : v18.length ≤ 40) (v37 : List UInt8) (t38 : Int) (s39 : Int) (ht41 : t19 ≤ t38 ∧ t38 ≤ t19 + 2) (hq42 : v37 ∈ ([([] : List UInt8), ([51] : List UInt8), ([63] : List UInt8), ([97, 64, 98] : List UInt8), ([51, 32, 49, 32, 50] : List UInt8)] : List (List UInt8))) (hq45 : v37.length ≤ 40) (v64 : Int) (t65 : Int) (s66 : Int) (ht68 : t38 ≤ t65 ∧ t65 ≤ t38 + 2) (hq69 : (0 : Int) ≤ v64 ∧ ((v64 : Int) < 24 ∨ (v64 : Int) = 0)) (h72 : ¬ (v64 = 0)) (h118 : ¬ (v64 = 1)) : v18 = (⟨v18, v37⟩ : LogRecord).Command := by
  first | rfl | omega | grind
theorem z_c___spec_l1Cur__logRecord_161 (Lc : List UInt8) (tc : Int) (sc : Int) (nc : Nat) (htc : 0 ≤ tc ∧ tc + 8 ≤ 4611686018427387904) (hbdc : (nc : Int) ≤ 9223372036854775807) (hlec : nc = Lc.length) (v18 : List UInt8) (t19 : Int) (s20 : Int) (ht22 : tc ≤ t19 ∧ t19 ≤ tc + 2) (hq23 : v18 ∈ ([([99, 111, 117, 110, 116] : List UInt8), ([115, 111, 114, 116, 32, 109, 101, 114, 103, 101] : List UInt8), ([120] : List UInt8), ([115, 101, 108, 101, 99, 116, 32, 50] : List UInt8), ([48, 32, 49] : List UInt8)] : List (List UInt8))) (hq26 : v18.length ≤ 40) (v37 : List UInt8) (t38 : Int) (s39 : Int) (ht41 : t19 ≤ t38 ∧ t38 ≤ t19 + 2) (hq42 : v37 ∈ ([([] : List UInt8), ([51] : List UInt8), ([63] : List UInt8), ([97, 64, 98] : List UInt8), ([51, 32, 49, 32, 50] : List UInt8)] : List (List UInt8))) (hq45 : v37.length ≤ 40) (v64 : Int) (t65 : Int) (s66 : Int) (ht68 : t38 ≤ t65 ∧ t65 ≤ t38 + 2) (hq69 : (0 : Int) ≤ v64 ∧ ((v64 : Int) < 24 ∨ (v64 : Int) = 0)) (h72 : ¬ (v64 = 0)) (h118 : ¬ (v64 = 1)) : v37 = (⟨v18, v37⟩ : LogRecord).Reply := by
  first | rfl | omega | grind
theorem z_c___spec_l1Cur__logRecord_162 (Lc : List UInt8) (tc : Int) (sc : Int) (nc : Nat) (htc : 0 ≤ tc ∧ tc + 8 ≤ 4611686018427387904) (hbdc : (nc : Int) ≤ 9223372036854775807) (hlec : nc = Lc.length) (v18 : List UInt8) (t19 : Int) (s20 : Int) (ht22 : tc ≤ t19 ∧ t19 ≤ tc + 2) (hq23 : v18 ∈ ([([99, 111, 117, 110, 116] : List UInt8), ([115, 111, 114, 116, 32, 109, 101, 114, 103, 101] : List UInt8), ([120] : List UInt8), ([115, 101, 108, 101, 99, 116, 32, 50] : List UInt8), ([48, 32, 49] : List UInt8)] : List (List UInt8))) (hq26 : v18.length ≤ 40) (v37 : List UInt8) (t38 : Int) (s39 : Int) (ht41 : t19 ≤ t38 ∧ t38 ≤ t19 + 2) (hq42 : v37 ∈ ([([] : List UInt8), ([51] : List UInt8), ([63] : List UInt8), ([97, 64, 98] : List UInt8), ([51, 32, 49, 32, 50] : List UInt8)] : List (List UInt8))) (hq45 : v37.length ≤ 40) (v64 : Int) (t65 : Int) (s66 : Int) (ht68 : t38 ≤ t65 ∧ t65 ≤ t38 + 2) (hq69 : (0 : Int) ≤ v64 ∧ ((v64 : Int) < 24 ∨ (v64 : Int) = 0)) (h72 : ¬ (v64 = 0)) (h118 : ¬ (v64 = 1)) : (⟨v18, v37⟩ : LogRecord).Command.length ≤ 40 ∧ (⟨v18, v37⟩ : LogRecord).Reply.length ≤ 40 := by
  first | omega | (dsimp only; omega)
theorem c___spec_l1Cur__logRecord (w : World) {gc ec : Nat} {Ac : Option Addr} {nc cc Bc : Nat} (Lc : List UInt8) (tc sc : Int) (hc : Blk w gc ec [.slice Ac nc cc, .int .i64 tc, .int .u64 sc]) (hLc : SlR w Bc encB 1 Ac nc cc Lc) (hgc : Bc ≤ gc) (htc : 0 ≤ tc ∧ tc + 8 ≤ 4611686018427387904) : Calls Tryd.prog 54 #[.pointer (some ⟨gc, 0, none⟩)] w fun e w' => ∃ (r : LogRecord) (tc' sc' : Int), e = .returned (.agg (List.toArray [str r.Command, str r.Reply])) ∧ Blk w' gc ec [.slice Ac nc cc, .int .i64 tc', .int .u64 sc'] ∧ (tc ≤ tc' ∧ tc' ≤ tc + 8) ∧ (r.Command.length ≤ 40 ∧ r.Reply.length ≤ 40) ∧ Kp (fun b_ => b_ = gc) w w' := by
  refine calls_W 28 Tryd.func54 rfl rfl rfl ?_
  have hBlc := hc.lt
  have hbdc := hLc.bound
  have hlec := hLc.len
  have hBbc := hLc.bd
  refine W.seq ?_
  refine W.regS (SR.alloc (l := [str ([] : List UInt8), str ([] : List UInt8)]) tz27 rfl ?_)
  intro g1 w2 hg3 hk4 hs5 hb6
  have hz7 := hk4.size
  have hB8 := (Kp.refl w : Kp (fun b_ => b_ = gc) w w).lo hk4
  refine SR.nil ?_
  refine W.seq ?_
  refine W.regS (SR.q' (r_mv (v := .pointer (some _)) rfl) <| SR.lit (vs := [str ([99, 111, 117, 110, 116] : List UInt8), str ([115, 111, 114, 116, 32, 109, 101, 114, 103, 101] : List UInt8), str ([120] : List UInt8), str ([115, 101, 108, 101, 99, 116, 32, 50] : List UInt8), str ([48, 32, 49] : List UInt8)]) (L := ([([99, 111, 117, 110, 116] : List UInt8), ([115, 111, 114, 116, 32, 109, 101, 114, 103, 101] : List UInt8), ([120] : List UInt8), ([115, 101, 108, 101, 99, 116, 32, 50] : List UInt8), ([48, 32, 49] : List UInt8)] : List (List UInt8))) (enc := encS) tel85 (fun _ => rfl) rfl rfl rfl (by decide) ?_)
  intro g9 w10 hg11 hk12 hO13
  have hz14 := hk12.size
  have hB15 := hB8.lo hk12
  refine SR.call ent72 (c___spec_l1Cur__of w10 Lc tc sc (((hc).lo hk4).lo hk12) ((((hLc).lo hk4).lo hk12)) (by omega) (by omega) ([([99, 111, 117, 110, 116] : List UInt8), ([115, 111, 114, 116, 32, 109, 101, 114, 103, 101] : List UInt8), ([120] : List UInt8), ([115, 101, 108, 101, 99, 116, 32, 50] : List UInt8), ([48, 32, 49] : List UInt8)] : List (List UInt8)) (((hO13).rd)) (by omega) (by omega) (show ¬ g9 = gc from by omega)) rfl ?_
  rintro e w16 ⟨v18, t19, s20, rfl, hb21, ht22, hq23, hk17⟩
  refine ⟨_, rfl, ?_⟩
  have hz24 := hk17.size
  have hB25 := hB15.step hk17 (fun i_ hi_ e' => e')
  have hq26 := mem_le (n := 40) (by decide) hq23
  refine SR.q' (r_mv (v := .pointer (some _)) rfl) <| SR.lit (vs := [str ([] : List UInt8), str ([51] : List UInt8), str ([63] : List UInt8), str ([97, 64, 98] : List UInt8), str ([51, 32, 49, 32, 50] : List UInt8)]) (L := ([([] : List UInt8), ([51] : List UInt8), ([63] : List UInt8), ([97, 64, 98] : List UInt8), ([51, 32, 49, 32, 50] : List UInt8)] : List (List UInt8))) (enc := encS) tel85 (fun _ => rfl) rfl rfl rfl (by decide) ?_
  intro g27 w28 hg29 hk30 hO31
  have hz32 := hk30.size
  have hB33 := hB25.lo hk30
  have hd34 : ¬ (some (⟨g9, 0, none⟩ : Addr)) = some ⟨g27, 0, none⟩ := fun e' => by have := ((hO13).kp hk17 (fun b_ hb e' => by have e'' : b_ = gc := e'; have := (hO13).base_le hb; omega)).base_le e'; omega
  refine SR.call ent72 (c___spec_l1Cur__of w28 Lc t19 s20 ((hb21).lo hk30) ((((((hLc).lo hk4).lo hk12).kp hk17 (fun b_ hb e' => by have e'' : b_ = gc := e'; omega)).lo hk30)) (by omega) (by omega) ([([] : List UInt8), ([51] : List UInt8), ([63] : List UInt8), ([97, 64, 98] : List UInt8), ([51, 32, 49, 32, 50] : List UInt8)] : List (List UInt8)) (((hO31).rd)) (by omega) (by omega) (show ¬ g27 = gc from by omega)) rfl ?_
  rintro e w35 ⟨v37, t38, s39, rfl, hb40, ht41, hq42, hk36⟩
  refine ⟨_, rfl, ?_⟩
  have hz43 := hk36.size
  have hB44 := hB33.step hk36 (fun i_ hi_ e' => e')
  have hq45 := mem_le (n := 40) (by decide) hq42
  refine SR.q' (r_build (vs := [(0, str v18), (1, str v37)]) rfl (bld27_0_1 _ _)) <| SR.alloc (l := [str ([] : List UInt8), str ([] : List UInt8)]) tz27 rfl ?_
  intro g46 w47 hg48 hk49 hs50 hb51
  have hz52 := hk49.size
  have hB53 := hB44.lo hk49
  have hd54 : ¬ (some (⟨g9, 0, none⟩ : Addr)) = some ⟨g46, 0, none⟩ := fun e' => by have := ((((hO13).kp hk17 (fun b_ hb e' => by have e'' : b_ = gc := e'; have := (hO13).base_le hb; omega)).lo hk30).kp hk36 (fun b_ hb e' => by have e'' : b_ = gc := e'; have := (((hO13).kp hk17 (fun b_ hb e' => by have e'' : b_ = gc := e'; have := (hO13).base_le hb; omega)).lo hk30).base_le hb; omega)).base_le e'; omega
  have hd55 : ¬ (some (⟨g27, 0, none⟩ : Addr)) = some ⟨g46, 0, none⟩ := fun e' => by have := ((hO31).kp hk36 (fun b_ hb e' => by have e'' : b_ = gc := e'; have := (hO31).base_le hb; omega)).base_le e'; omega
  refine SR.store (o := 0) (vs := [str v18, str v37]) agg27.2 rfl rfl rfl rfl (hb51) (Nat.le_of_ble_eq_true rfl) rfl ?_
  intro w56 hk57 hs58 hb59
  have hz60 := hk57.size
  have hB61 := hB53.new hk57 (by omega)
  refine SR.nil ?_
  refine W.seq ?_
  refine W.seq ?_
  refine W.regS (SR.q' (r_mv (v := .pointer (some _)) rfl) <| SR.call ent56 (c___spec_l1Cur__pick w56 Lc t38 s39 (((hb40).lo hk49).kp hk57 (fun e' => by have e'' : gc = g46 := e'; omega)) (((((((((hLc).lo hk4).lo hk12).kp hk17 (fun b_ hb e' => by have e'' : b_ = gc := e'; omega)).lo hk30).kp hk36 (fun b_ hb e' => by have e'' : b_ = gc := e'; omega)).lo hk49).kp hk57 (fun b_ hb e' => by have e'' : b_ = g46 := e'; omega))) (by omega) (by omega) 24 (by first | omega | (simp only [List.length_append, List.length_cons, List.length_nil, List.length_take, List.length_drop]; omega))) rfl ?_)
  rintro e w62 ⟨v64, t65, s66, rfl, hb67, ht68, hq69, hk63⟩
  refine ⟨_, rfl, ?_⟩
  have hz70 := hk63.size
  have hB71 := hB61.step hk63 (fun i_ hi_ e' => e')
  refine SR.nil ?_
  refine W.block ?_
  refine W.seq ?_
  refine W.regS (SR.q' (r_eq rfl rfl) <| SR.q' (r_as (v := .bool _) rfl) <| SR.nil ?_)
  refine W.cond_d rfl (fun h72 => ?_) (fun h72 => ?_)
  · refine W.regS (SR.q' (r_mv (v := .pointer (some _)) rfl) <| SR.make (m := 3) (zx := (0 : UInt8)) (enc := encB) tel53 rfl (fun _ => rfl) rfl rfl (by omega) (by omega) ?_)
    intro g73 w74 hg75 hk76 hO77
    have hz78 := hk76.size
    have hB79 := hB71.lo hk76
    have hd80 : ¬ (some (⟨g9, 0, none⟩ : Addr)) = some ⟨g73, 0, none⟩ := fun e' => by have := (((((((hO13).kp hk17 (fun b_ hb e' => by have e'' : b_ = gc := e'; have := (hO13).base_le hb; omega)).lo hk30).kp hk36 (fun b_ hb e' => by have e'' : b_ = gc := e'; have := (((hO13).kp hk17 (fun b_ hb e' => by have e'' : b_ = gc := e'; have := (hO13).base_le hb; omega)).lo hk30).base_le hb; omega)).lo hk49).kp hk57 (fun b_ hb e' => hd54 (by have e'' : b_ = g46 := e'; rw [← e'']; exact hb))).kp hk63 (fun b_ hb e' => by have e'' : b_ = gc := e'; have := ((((((hO13).kp hk17 (fun b_ hb e' => by have e'' : b_ = gc := e'; have := (hO13).base_le hb; omega)).lo hk30).kp hk36 (fun b_ hb e' => by have e'' : b_ = gc := e'; have := (((hO13).kp hk17 (fun b_ hb e' => by have e'' : b_ = gc := e'; have := (hO13).base_le hb; omega)).lo hk30).base_le hb; omega)).lo hk49).kp hk57 (fun b_ hb e' => hd54 (by have e'' : b_ = g46 := e'; rw [← e'']; exact hb))).base_le hb; omega)).base_le e'; omega
    have hd81 : ¬ (some (⟨g27, 0, none⟩ : Addr)) = some ⟨g73, 0, none⟩ := fun e' => by have := (((((hO31).kp hk36 (fun b_ hb e' => by have e'' : b_ = gc := e'; have := (hO31).base_le hb; omega)).lo hk49).kp hk57 (fun b_ hb e' => hd55 (by have e'' : b_ = g46 := e'; rw [← e'']; exact hb))).kp hk63 (fun b_ hb e' => by have e'' : b_ = gc := e'; have := ((((hO31).kp hk36 (fun b_ hb e' => by have e'' : b_ = gc := e'; have := (hO31).base_le hb; omega)).lo hk49).kp hk57 (fun b_ hb e' => hd55 (by have e'' : b_ = g46 := e'; rw [← e'']; exact hb))).base_le hb; omega)).base_le e'; omega
    refine SR.q' (r_ofB und53 und5 und9 rfl ((hO77).rd)) <| SR.lit (vs := [str ([] : List UInt8), str ([97, 64, 98] : List UInt8), str ([97, 35] : List UInt8), str ([10] : List UInt8), str (List.replicate 3 (0 : UInt8))]) (L := ([([] : List UInt8), ([97, 64, 98] : List UInt8), ([97, 35] : List UInt8), ([10] : List UInt8), List.replicate 3 (0 : UInt8)] : List (List UInt8))) (enc := encS) tel85 (fun _ => rfl) rfl rfl rfl (by decide) ?_
    intro g82 w83 hg84 hk85 hO86
    have hz87 := hk85.size
    have hB88 := hB79.lo hk85
    have hd89 : ¬ (some (⟨g9, 0, none⟩ : Addr)) = some ⟨g82, 0, none⟩ := fun e' => by have := ((((((((hO13).kp hk17 (fun b_ hb e' => by have e'' : b_ = gc := e'; have := (hO13).base_le hb; omega)).lo hk30).kp hk36 (fun b_ hb e' => by have e'' : b_ = gc := e'; have := (((hO13).kp hk17 (fun b_ hb e' => by have e'' : b_ = gc := e'; have := (hO13).base_le hb; omega)).lo hk30).base_le hb; omega)).lo hk49).kp hk57 (fun b_ hb e' => hd54 (by have e'' : b_ = g46 := e'; rw [← e'']; exact hb))).kp hk63 (fun b_ hb e' => by have e'' : b_ = gc := e'; have := ((((((hO13).kp hk17 (fun b_ hb e' => by have e'' : b_ = gc := e'; have := (hO13).base_le hb; omega)).lo hk30).kp hk36 (fun b_ hb e' => by have e'' : b_ = gc := e'; have := (((hO13).kp hk17 (fun b_ hb e' => by have e'' : b_ = gc := e'; have := (hO13).base_le hb; omega)).lo hk30).base_le hb; omega)).lo hk49).kp hk57 (fun b_ hb e' => hd54 (by have e'' : b_ = g46 := e'; rw [← e'']; exact hb))).base_le hb; omega)).lo hk76).base_le e'; omega
    have hd90 : ¬ (some (⟨g27, 0, none⟩ : Addr)) = some ⟨g82, 0, none⟩ := fun e' => by have := ((((((hO31).kp hk36 (fun b_ hb e' => by have e'' : b_ = gc := e'; have := (hO31).base_le hb; omega)).lo hk49).kp hk57 (fun b_ hb e' => hd55 (by have e'' : b_ = g46 := e'; rw [← e'']; exact hb))).kp hk63 (fun b_ hb e' => by have e'' : b_ = gc := e'; have := ((((hO31).kp hk36 (fun b_ hb e' => by have e'' : b_ = gc := e'; have := (hO31).base_le hb; omega)).lo hk49).kp hk57 (fun b_ hb e' => hd55 (by have e'' : b_ = g46 := e'; rw [← e'']; exact hb))).base_le hb; omega)).lo hk76).base_le e'; omega
    have hd91 : ¬ (some (⟨g73, 0, none⟩ : Addr)) = some ⟨g82, 0, none⟩ := fun e' => by have := (hO77).base_le e'; omega
    refine SR.call ent72 (c___spec_l1Cur__of w83 Lc t65 s66 (((hb67).lo hk76).lo hk85) ((((((((((((hLc).lo hk4).lo hk12).kp hk17 (fun b_ hb e' => by have e'' : b_ = gc := e'; omega)).lo hk30).kp hk36 (fun b_ hb e' => by have e'' : b_ = gc := e'; omega)).lo hk49).kp hk57 (fun b_ hb e' => by have e'' : b_ = g46 := e'; omega)).kp hk63 (fun b_ hb e' => by have e'' : b_ = gc := e'; omega)).lo hk76).lo hk85)) (by omega) (by omega) ([([] : List UInt8), ([97, 64, 98] : List UInt8), ([97, 35] : List UInt8), ([10] : List UInt8), List.replicate 3 (0 : UInt8)] : List (List UInt8)) (((hO86).rd)) (by omega) (by omega) (show ¬ g82 = gc from by omega)) rfl ?_
    rintro e w92 ⟨v94, t95, s96, rfl, hb97, ht98, hq99, hk93⟩
    refine ⟨_, rfl, ?_⟩
    have hz100 := hk93.size
    have hB101 := hB88.step hk93 (fun i_ hi_ e' => e')
    have hq102 := mem_le (n := 40) (by decide) hq99
    refine SR.q' (r_fa fa27_0 rfl) <| SR.store (o := 0) (vs := [str v94]) sca9.2 rfl rfl rfl rfl (((((hb59).kp hk63 (fun e' => by have e'' : g46 = gc := e'; omega)).lo hk76).lo hk85).kp hk93 (fun e' => by have e'' : g46 = gc := e'; omega)) (Nat.le_of_ble_eq_true rfl) rfl ?_
    intro w103 hk104 hs105 hb106
    have hz107 := hk104.size
    have hB108 := hB101.new hk104 (by omega)
    refine SR.nil ?_
    refine W.seq ?_
    refine W.regS (SR.q' (r_lda (l := [str v94, str v37]) agg27 rfl (fun _ _ hu => (hb106).cell hu) rfl) <| SR.store (o := 0) (vs := [str v94, str v37]) agg27.2 rfl rfl rfl rfl ((((((((((((hb6).lo hk12).kp hk17 (fun e' => by have e'' : g1 = gc := e'; omega)).lo hk30).kp hk36 (fun e' => by have e'' : g1 = gc := e'; omega)).lo hk49).kp hk57 (fun e' => by have e'' : g1 = g46 := e'; omega)).kp hk63 (fun e' => by have e'' : g1 = gc := e'; omega)).lo hk76).lo hk85).kp hk93 (fun e' => by have e'' : g1 = gc := e'; omega)).kp hk104 (fun e' => by have e'' : g1 = g46 := e'; omega)) (Nat.le_of_ble_eq_true rfl) rfl ?_)
    intro w109 hk110 hs111 hb112
    have hz113 := hk110.size
    have hB114 := hB108.new hk110 (by omega)
    refine SR.nil ?_
    refine W.ret ?_
    refine retC rfl rfl agg27 (hb112) rfl ?_
    exact ⟨(⟨v94, v37⟩ : LogRecord), t95, s96, eR (eA (eC (eS (z_c___spec_l1Cur__logRecord_115 Lc tc sc nc htc hbdc hlec v18 t19 s20 ht22 hq23 hq26 v37 t38 s39 ht41 hq42 hq45 v64 t65 s66 ht68 hq69 h72 v94 t95 s96 ht98 hq99 hq102)) (eC (eS (z_c___spec_l1Cur__logRecord_116 Lc tc sc nc htc hbdc hlec v18 t19 s20 ht22 hq23 hq26 v37 t38 s39 ht41 hq42 hq45 v64 t65 s66 ht68 hq69 h72 v94 t95 s96 ht98 hq99 hq102)) rfl))), (((hb97).kp hk104 (fun e' => by have e'' : gc = g46 := e'; omega)).kp hk110 (fun e' => by have e'' : gc = g1 := e'; omega)), ⟨by omega, by omega⟩, (z_c___spec_l1Cur__logRecord_117 Lc tc sc nc htc hbdc hlec v18 t19 s20 ht22 hq23 hq26 v37 t38 s39 ht41 hq42 hq45 v64 t65 s66 ht68 hq69 h72 v94 t95 s96 ht98 hq99 hq102), hB114⟩
  · refine W.seq ?_
    refine W.regS (SR.q' (r_eq rfl rfl) <| SR.q' (r_as (v := .bool _) rfl) <| SR.nil ?_)
    refine W.cond_d rfl (fun h118 => ?_) (fun h118 => ?_)
    · refine W.regS (SR.q' (r_mv (v := .pointer (some _)) rfl) <| SR.lit (vs := [str ([35] : List UInt8), str ([10] : List UInt8), str ([127] : List UInt8)]) (L := ([([35] : List UInt8), ([10] : List UInt8), ([127] : List UInt8)] : List (List UInt8))) (enc := encS) tel85 (fun _ => rfl) rfl rfl rfl (by decide) ?_)
      intro g119 w120 hg121 hk122 hO123
      have hz124 := hk122.size
      have hB125 := hB71.lo hk122
      have hd126 : ¬ (some (⟨g9, 0, none⟩ : Addr)) = some ⟨g119, 0, none⟩ := fun e' => by have := (((((((hO13).kp hk17 (fun b_ hb e' => by have e'' : b_ = gc := e'; have := (hO13).base_le hb; omega)).lo hk30).kp hk36 (fun b_ hb e' => by have e'' : b_ = gc := e'; have := (((hO13).kp hk17 (fun b_ hb e' => by have e'' : b_ = gc := e'; have := (hO13).base_le hb; omega)).lo hk30).base_le hb; omega)).lo hk49).kp hk57 (fun b_ hb e' => hd54 (by have e'' : b_ = g46 := e'; rw [← e'']; exact hb))).kp hk63 (fun b_ hb e' => by have e'' : b_ = gc := e'; have := ((((((hO13).kp hk17 (fun b_ hb e' => by have e'' : b_ = gc := e'; have := (hO13).base_le hb; omega)).lo hk30).kp hk36 (fun b_ hb e' => by have e'' : b_ = gc := e'; have := (((hO13).kp hk17 (fun b_ hb e' => by have e'' : b_ = gc := e'; have := (hO13).base_le hb; omega)).lo hk30).base_le hb; omega)).lo hk49).kp hk57 (fun b_ hb e' => hd54 (by have e'' : b_ = g46 := e'; rw [← e'']; exact hb))).base_le hb; omega)).base_le e'; omega
      have hd127 : ¬ (some (⟨g27, 0, none⟩ : Addr)) = some ⟨g119, 0, none⟩ := fun e' => by have := (((((hO31).kp hk36 (fun b_ hb e' => by have e'' : b_ = gc := e'; have := (hO31).base_le hb; omega)).lo hk49).kp hk57 (fun b_ hb e' => hd55 (by have e'' : b_ = g46 := e'; rw [← e'']; exact hb))).kp hk63 (fun b_ hb e' => by have e'' : b_ = gc := e'; have := ((((hO31).kp hk36 (fun b_ hb e' => by have e'' : b_ = gc := e'; have := (hO31).base_le hb; omega)).lo hk49).kp hk57 (fun b_ hb e' => hd55 (by have e'' : b_ = g46 := e'; rw [← e'']; exact hb))).base_le hb; omega)).base_le e'; omega
      refine SR.call ent72 (c___spec_l1Cur__of w120 Lc t65 s66 ((hb67).lo hk122) (((((((((((hLc).lo hk4).lo hk12).kp hk17 (fun b_ hb e' => by have e'' : b_ = gc := e'; omega)).lo hk30).kp hk36 (fun b_ hb e' => by have e'' : b_ = gc := e'; omega)).lo hk49).kp hk57 (fun b_ hb e' => by have e'' : b_ = g46 := e'; omega)).kp hk63 (fun b_ hb e' => by have e'' : b_ = gc := e'; omega)).lo hk122)) (by omega) (by omega) ([([35] : List UInt8), ([10] : List UInt8), ([127] : List UInt8)] : List (List UInt8)) (((hO123).rd)) (by omega) (by omega) (show ¬ g119 = gc from by omega)) rfl ?_
      rintro e w128 ⟨v130, t131, s132, rfl, hb133, ht134, hq135, hk129⟩
      refine ⟨_, rfl, ?_⟩
      have hz136 := hk129.size
      have hB137 := hB125.step hk129 (fun i_ hi_ e' => e')
      have hq138 := mem_le (n := 40) (by decide) hq135
      refine SR.q' (r_fa fa27_1 rfl) <| SR.store (o := 1) (vs := [str v130]) sca9.2 rfl rfl rfl rfl ((((hb59).kp hk63 (fun e' => by have e'' : g46 = gc := e'; omega)).lo hk122).kp hk129 (fun e' => by have e'' : g46 = gc := e'; omega)) (Nat.le_of_ble_eq_true rfl) rfl ?_
      intro w139 hk140 hs141 hb142
      have hz143 := hk140.size
      have hB144 := hB137.new hk140 (by omega)
      refine SR.nil ?_
      refine W.seq ?_
      refine W.regS (SR.q' (r_lda (l := [str v18, str v130]) agg27 rfl (fun _ _ hu => (hb142).cell hu) rfl) <| SR.store (o := 0) (vs := [str v18, str v130]) agg27.2 rfl rfl rfl rfl (((((((((((hb6).lo hk12).kp hk17 (fun e' => by have e'' : g1 = gc := e'; omega)).lo hk30).kp hk36 (fun e' => by have e'' : g1 = gc := e'; omega)).lo hk49).kp hk57 (fun e' => by have e'' : g1 = g46 := e'; omega)).kp hk63 (fun e' => by have e'' : g1 = gc := e'; omega)).lo hk122).kp hk129 (fun e' => by have e'' : g1 = gc := e'; omega)).kp hk140 (fun e' => by have e'' : g1 = g46 := e'; omega)) (Nat.le_of_ble_eq_true rfl) rfl ?_)
      intro w145 hk146 hs147 hb148
      have hz149 := hk146.size
      have hB150 := hB144.new hk146 (by omega)
      refine SR.nil ?_
      refine W.ret ?_
      refine retC rfl rfl agg27 (hb148) rfl ?_
      exact ⟨(⟨v18, v130⟩ : LogRecord), t131, s132, eR (eA (eC (eS (z_c___spec_l1Cur__logRecord_151 Lc tc sc nc htc hbdc hlec v18 t19 s20 ht22 hq23 hq26 v37 t38 s39 ht41 hq42 hq45 v64 t65 s66 ht68 hq69 h72 h118 v130 t131 s132 ht134 hq135 hq138)) (eC (eS (z_c___spec_l1Cur__logRecord_152 Lc tc sc nc htc hbdc hlec v18 t19 s20 ht22 hq23 hq26 v37 t38 s39 ht41 hq42 hq45 v64 t65 s66 ht68 hq69 h72 h118 v130 t131 s132 ht134 hq135 hq138)) rfl))), (((hb133).kp hk140 (fun e' => by have e'' : gc = g46 := e'; omega)).kp hk146 (fun e' => by have e'' : gc = g1 := e'; omega)), ⟨by omega, by omega⟩, (z_c___spec_l1Cur__logRecord_153 Lc tc sc nc htc hbdc hlec v18 t19 s20 ht22 hq23 hq26 v37 t38 s39 ht41 hq42 hq45 v64 t65 s66 ht68 hq69 h72 h118 v130 t131 s132 ht134 hq135 hq138), hB150⟩
    · refine W.skip ?_
      refine W.seq ?_
      refine W.regS (SR.q' (r_lda (l := [str v18, str v37]) agg27 rfl (fun _ _ hu => ((hb59).kp hk63 (fun e' => by have e'' : g46 = gc := e'; omega)).cell hu) rfl) <| SR.store (o := 0) (vs := [str v18, str v37]) agg27.2 rfl rfl rfl rfl ((((((((hb6).lo hk12).kp hk17 (fun e' => by have e'' : g1 = gc := e'; omega)).lo hk30).kp hk36 (fun e' => by have e'' : g1 = gc := e'; omega)).lo hk49).kp hk57 (fun e' => by have e'' : g1 = g46 := e'; omega)).kp hk63 (fun e' => by have e'' : g1 = gc := e'; omega)) (Nat.le_of_ble_eq_true rfl) rfl ?_)
      intro w154 hk155 hs156 hb157
      have hz158 := hk155.size
      have hB159 := hB71.new hk155 (by omega)
      refine SR.nil ?_
      refine W.ret ?_
      refine retC rfl rfl agg27 (hb157) rfl ?_
      exact ⟨(⟨v18, v37⟩ : LogRecord), t65, s66, eR (eA (eC (eS (z_c___spec_l1Cur__logRecord_160 Lc tc sc nc htc hbdc hlec v18 t19 s20 ht22 hq23 hq26 v37 t38 s39 ht41 hq42 hq45 v64 t65 s66 ht68 hq69 h72 h118)) (eC (eS (z_c___spec_l1Cur__logRecord_161 Lc tc sc nc htc hbdc hlec v18 t19 s20 ht22 hq23 hq26 v37 t38 s39 ht41 hq42 hq45 v64 t65 s66 ht68 hq69 h72 h118)) rfl))), ((hb67).kp hk155 (fun e' => by have e'' : gc = g1 := e'; omega)), ⟨by omega, by omega⟩, (z_c___spec_l1Cur__logRecord_162 Lc tc sc nc htc hbdc hlec v18 t19 s20 ht22 hq23 hq26 v37 t38 s39 ht41 hq42 hq45 v64 t65 s66 ht68 hq69 h72 h118), hB159⟩

theorem z_c___spec_l1Cur__log_33 (Lc : List UInt8) (tc : Int) (sc : Int) (nc : Nat) (htc : 0 ≤ tc ∧ tc + 64 ≤ 4611686018427387904) (hbdc : (nc : Int) ≤ 9223372036854775807) (hlec : nc = Lc.length) (v25 : Int) (t26 : Int) (s27 : Int) (ht29 : tc ≤ t26 ∧ t26 ≤ tc + 2) (hq30 : (0 : Int) ≤ v25 ∧ ((v25 : Int) < 7 ∨ (v25 : Int) = 0)) : (0 ≤ v25 ∧ v25 ≤ 6) ∧ LogOK (⟨([] : List UInt8), ([] : List UInt8), 0⟩ : Log) ∧ tc ≤ t26 ∧ t26 ≤ tc + 2 + 10 * (6 - v25) := by
  exact ⟨by omega, nil_log, by omega, by omega⟩
theorem z_c___spec_l1Cur__log_34 (Lc : List UInt8) (tc : Int) (sc : Int) (nc : Nat) (htc : 0 ≤ tc ∧ tc + 64 ≤ 4611686018427387904) (hbdc : (nc : Int) ≤ 9223372036854775807) (hlec : nc = Lc.length) (v25 : Int) (t26 : Int) (s27 : Int) (ht29 : tc ≤ t26 ∧ t26 ≤ tc + 2) (hq30 : (0 : Int) ≤ v25 ∧ ((v25 : Int) < 7 ∨ (v25 : Int) = 0)) : ([] : List UInt8) = (⟨([] : List UInt8), ([] : List UInt8), 0⟩ : Log).Durable := by
  (first | rfl | omega)
theorem z_c___spec_l1Cur__log_35 (Lc : List UInt8) (tc : Int) (sc : Int) (nc : Nat) (htc : 0 ≤ tc ∧ tc + 64 ≤ 4611686018427387904) (hbdc : (nc : Int) ≤ 9223372036854775807) (hlec : nc = Lc.length) (v25 : Int) (t26 : Int) (s27 : Int) (ht29 : tc ≤ t26 ∧ t26 ≤ tc + 2) (hq30 : (0 : Int) ≤ v25 ∧ ((v25 : Int) < 7 ∨ (v25 : Int) = 0)) : ([] : List UInt8) = (⟨([] : List UInt8), ([] : List UInt8), 0⟩ : Log).Pending := by
  (first | rfl | omega)
theorem z_c___spec_l1Cur__log_36 (Lc : List UInt8) (tc : Int) (sc : Int) (nc : Nat) (htc : 0 ≤ tc ∧ tc + 64 ≤ 4611686018427387904) (hbdc : (nc : Int) ≤ 9223372036854775807) (hlec : nc = Lc.length) (v25 : Int) (t26 : Int) (s27 : Int) (ht29 : tc ≤ t26 ∧ t26 ≤ tc + 2) (hq30 : (0 : Int) ≤ v25 ∧ ((v25 : Int) < 7 ∨ (v25 : Int) = 0)) : 0 = (⟨([] : List UInt8), ([] : List UInt8), 0⟩ : Log).Count := by
  (first | rfl | omega)
theorem z_c___spec_l1Cur__log_176 (Lc : List UInt8) (tc : Int) (sc : Int) (nc : Nat) (htc : 0 ≤ tc ∧ tc + 64 ≤ 4611686018427387904) (hbdc : (nc : Int) ≤ 9223372036854775807) (hlec : nc = Lc.length) (v25 : Int) (t26 : Int) (s27 : Int) (ht29 : tc ≤ t26 ∧ t26 ≤ tc + 2) (hq30 : (0 : Int) ≤ v25 ∧ ((v25 : Int) < 7 ∨ (v25 : Int) = 0)) (n : Int) (l : Log) (t : Int) (z : Int) (hi45 : (0 ≤ n ∧ n ≤ 6) ∧ LogOK l ∧ tc ≤ t ∧ t ≤ tc + 2 + 10 * (6 - n)) (hq49 : LogOK l) (hq50 : l.Durable.length + l.Pending.length ≤ 24360 ∧ 0 ≤ l.Count ∧ l.Count ≤ 60) (hq51 : (0 ≤ n ∧ n ≤ 6) ∧ tc ≤ t ∧ t ≤ tc + 2 + 10 * (6 - n)) (h52 : 0 < n) (v102 : LogRecord) (t103 : Int) (s104 : Int) (ht106 : t ≤ t103 ∧ t103 ≤ t + 8) (hq107 : v102.Command.length ≤ 40 ∧ v102.Reply.length ≤ 40) (hq116 : (appN l v102).1.Durable.length + (appN l v102).1.Pending.length ≤ l.Durable.length + l.Pending.length + 406) (v158 : Bool) (t159 : Int) (s160 : Int) (ht162 : t103 ≤ t159 ∧ t159 ≤ t103 + 2) (h165 : v158 = true) : (0 ≤ n - 1 ∧ n - 1 ≤ 6) ∧ LogOK ((syncN ((appN l v102).1)).1) ∧ tc ≤ t159 ∧ t159 ≤ tc + 2 + 10 * (6 - (n - 1)) := by
  first | exact ⟨by omega, appN_ok ‹LogOK _›, by omega, by omega⟩ | exact ⟨by omega, syncN_ok (appN_ok ‹LogOK _›), by omega, by omega⟩
theorem z_c___spec_l1Cur__log_177 (Lc : List UInt8) (tc : Int) (sc : Int) (nc : Nat) (htc : 0 ≤ tc ∧ tc + 64 ≤ 4611686018427387904) (hbdc : (nc : Int) ≤ 9223372036854775807) (hlec : nc = Lc.length) (v25 : Int) (t26 : Int) (s27 : Int) (ht29 : tc ≤ t26 ∧ t26 ≤ tc + 2) (hq30 : (0 : Int) ≤ v25 ∧ ((v25 : Int) < 7 ∨ (v25 : Int) = 0)) (n : Int) (l : Log) (t : Int) (z : Int) (hi45 : (0 ≤ n ∧ n ≤ 6) ∧ LogOK l ∧ tc ≤ t ∧ t ≤ tc + 2 + 10 * (6 - n)) (hq49 : LogOK l) (hq50 : l.Durable.length + l.Pending.length ≤ 24360 ∧ 0 ≤ l.Count ∧ l.Count ≤ 60) (hq51 : (0 ≤ n ∧ n ≤ 6) ∧ tc ≤ t ∧ t ≤ tc + 2 + 10 * (6 - n)) (h52 : 0 < n) (v102 : LogRecord) (t103 : Int) (s104 : Int) (ht106 : t ≤ t103 ∧ t103 ≤ t + 8) (hq107 : v102.Command.length ≤ 40 ∧ v102.Reply.length ≤ 40) (hq116 : (appN l v102).1.Durable.length + (appN l v102).1.Pending.length ≤ l.Durable.length + l.Pending.length + 406) (v158 : Bool) (t159 : Int) (s160 : Int) (ht162 : t103 ≤ t159 ∧ t159 ≤ t103 + 2) (h165 : v158 = true) : (n - 1).toNat < n.toNat := by
  omega
theorem z_c___spec_l1Cur__log_178 (Lc : List UInt8) (tc : Int) (sc : Int) (nc : Nat) (htc : 0 ≤ tc ∧ tc + 64 ≤ 4611686018427387904) (hbdc : (nc : Int) ≤ 9223372036854775807) (hlec : nc = Lc.length) (v25 : Int) (t26 : Int) (s27 : Int) (ht29 : tc ≤ t26 ∧ t26 ≤ tc + 2) (hq30 : (0 : Int) ≤ v25 ∧ ((v25 : Int) < 7 ∨ (v25 : Int) = 0)) (n : Int) (l : Log) (t : Int) (z : Int) (hi45 : (0 ≤ n ∧ n ≤ 6) ∧ LogOK l ∧ tc ≤ t ∧ t ≤ tc + 2 + 10 * (6 - n)) (hq49 : LogOK l) (hq50 : l.Durable.length + l.Pending.length ≤ 24360 ∧ 0 ≤ l.Count ∧ l.Count ≤ 60) (hq51 : (0 ≤ n ∧ n ≤ 6) ∧ tc ≤ t ∧ t ≤ tc + 2 + 10 * (6 - n)) (h52 : 0 < n) (v102 : LogRecord) (t103 : Int) (s104 : Int) (ht106 : t ≤ t103 ∧ t103 ≤ t + 8) (hq107 : v102.Command.length ≤ 40 ∧ v102.Reply.length ≤ 40) (hq116 : (appN l v102).1.Durable.length + (appN l v102).1.Pending.length ≤ l.Durable.length + l.Pending.length + 406) (v158 : Bool) (t159 : Int) (s160 : Int) (ht162 : t103 ≤ t159 ∧ t159 ≤ t103 + 2) (h165 : v158 = false) : (0 ≤ n - 1 ∧ n - 1 ≤ 6) ∧ LogOK ((appN l v102).1) ∧ tc ≤ t159 ∧ t159 ≤ tc + 2 + 10 * (6 - (n - 1)) := by
  first | exact ⟨by omega, appN_ok ‹LogOK _›, by omega, by omega⟩ | exact ⟨by omega, syncN_ok (appN_ok ‹LogOK _›), by omega, by omega⟩
theorem z_c___spec_l1Cur__log_179 (Lc : List UInt8) (tc : Int) (sc : Int) (nc : Nat) (htc : 0 ≤ tc ∧ tc + 64 ≤ 4611686018427387904) (hbdc : (nc : Int) ≤ 9223372036854775807) (hlec : nc = Lc.length) (v25 : Int) (t26 : Int) (s27 : Int) (ht29 : tc ≤ t26 ∧ t26 ≤ tc + 2) (hq30 : (0 : Int) ≤ v25 ∧ ((v25 : Int) < 7 ∨ (v25 : Int) = 0)) (n : Int) (l : Log) (t : Int) (z : Int) (hi45 : (0 ≤ n ∧ n ≤ 6) ∧ LogOK l ∧ tc ≤ t ∧ t ≤ tc + 2 + 10 * (6 - n)) (hq49 : LogOK l) (hq50 : l.Durable.length + l.Pending.length ≤ 24360 ∧ 0 ≤ l.Count ∧ l.Count ≤ 60) (hq51 : (0 ≤ n ∧ n ≤ 6) ∧ tc ≤ t ∧ t ≤ tc + 2 + 10 * (6 - n)) (h52 : 0 < n) (v102 : LogRecord) (t103 : Int) (s104 : Int) (ht106 : t ≤ t103 ∧ t103 ≤ t + 8) (hq107 : v102.Command.length ≤ 40 ∧ v102.Reply.length ≤ 40) (hq116 : (appN l v102).1.Durable.length + (appN l v102).1.Pending.length ≤ l.Durable.length + l.Pending.length + 406) (v158 : Bool) (t159 : Int) (s160 : Int) (ht162 : t103 ≤ t159 ∧ t159 ≤ t103 + 2) (h165 : v158 = false) : (n - 1).toNat < n.toNat := by
  omega
theorem z_c___spec_l1Cur__log_186 (Lc : List UInt8) (tc : Int) (sc : Int) (nc : Nat) (htc : 0 ≤ tc ∧ tc + 64 ≤ 4611686018427387904) (hbdc : (nc : Int) ≤ 9223372036854775807) (hlec : nc = Lc.length) (v25 : Int) (t26 : Int) (s27 : Int) (ht29 : tc ≤ t26 ∧ t26 ≤ tc + 2) (hq30 : (0 : Int) ≤ v25 ∧ ((v25 : Int) < 7 ∨ (v25 : Int) = 0)) (n : Int) (l : Log) (t : Int) (z : Int) (hi45 : (0 ≤ n ∧ n ≤ 6) ∧ LogOK l ∧ tc ≤ t ∧ t ≤ tc + 2 + 10 * (6 - n)) (hq49 : LogOK l) (hq50 : l.Durable.length + l.Pending.length ≤ 24360 ∧ 0 ≤ l.Count ∧ l.Count ≤ 60) (hq51 : (0 ≤ n ∧ n ≤ 6) ∧ tc ≤ t ∧ t ≤ tc + 2 + 10 * (6 - n)) (h52 : ¬ (0 < n)) : LogOK l := by
  assumption
theorem c___spec_l1Cur__log (w : World) {gc ec : Nat} {Ac : Option Addr} {nc cc Bc : Nat} (Lc : List UInt8) (tc sc : Int) (hc : Blk w gc ec [.slice Ac nc cc, .int .i64 tc, .int .u64 sc]) (hLc : SlR w Bc encB 1 Ac nc cc Lc) (hgc : Bc ≤ gc) (htc : 0 ≤ tc ∧ tc + 64 ≤ 4611686018427387904) : Calls Tryd.prog 55 #[.pointer (some ⟨gc, 0, none⟩)] w fun e w' => ∃ (l : Log) (tc' sc' : Int), e = .returned (.agg (List.toArray [str l.Durable, str l.Pending, .int .i64 l.Count])) ∧ Blk w' gc ec [.slice Ac nc cc, .int .i64 tc', .int .u64 sc'] ∧ (tc ≤ tc' ∧ tc' ≤ tc + 64) ∧ (LogOK l) ∧ Kp (fun b_ => b_ = gc) w w' := by
  refine calls_W 27 Tryd.func55 rfl rfl rfl ?_
  have hBlc := hc.lt
  have hbdc := hLc.bound
  have hlec := hLc.len
  have hBbc := hLc.bd
  refine W.seq ?_
  refine W.regS (SR.alloc (l := [str ([] : List UInt8), str ([] : List UInt8), .int .i64 0]) tz31 rfl ?_)
  intro g1 w2 hg3 hk4 hs5 hb6
  have hz7 := hk4.size
  have hB8 := (Kp.refl w : Kp (fun b_ => b_ = gc) w w).lo hk4
  refine SR.nil ?_
  refine W.seq ?_
  refine W.regS (SR.q' (r_build (vs := []) rfl (bld31_)) <| SR.alloc (l := [str ([] : List UInt8), str ([] : List UInt8), .int .i64 0]) tz31 rfl ?_)
  intro g9 w10 hg11 hk12 hs13 hb14
  have hz15 := hk12.size
  have hB16 := hB8.lo hk12
  refine SR.store (o := 0) (vs := [str ([] : List UInt8), str ([] : List UInt8), .int .i64 0]) agg31.2 rfl rfl rfl rfl (hb14) (Nat.le_of_ble_eq_true rfl) rfl ?_
  intro w17 hk18 hs19 hb20
  have hz21 := hk18.size
  have hB22 := hB16.new hk18 (by omega)
  refine SR.nil ?_
  refine W.seq ?_
  refine W.seq ?_
  refine W.regS (SR.q' (r_mv (v := .pointer (some _)) rfl) <| SR.call ent56 (c___spec_l1Cur__pick w17 Lc tc sc ((((hc).lo hk4).lo hk12).kp hk18 (fun e' => by have e'' : gc = g9 := e'; omega)) (((((hLc).lo hk4).lo hk12).kp hk18 (fun b_ hb e' => by have e'' : b_ = g9 := e'; omega))) (by omega) (by omega) 7 (by first | omega | (simp only [List.length_append, List.length_cons, List.length_nil, List.length_take, List.length_drop]; omega))) rfl ?_)
  rintro e w23 ⟨v25, t26, s27, rfl, hb28, ht29, hq30, hk24⟩
  refine ⟨_, rfl, ?_⟩
  have hz31 := hk24.size
  have hB32 := hB22.step hk24 (fun i_ hi_ e' => e')
  refine SR.q' (r_as (v := .int .i64 _) rfl) <| SR.nil ?_
  refine W.block ?_
  refine W.loop (σ := Int × Log × Int × Int) (fun g => [(0, .pointer (some ((⟨gc, 0, none⟩ : Addr)))), (2, .pointer (some ((⟨g1, 0, none⟩ : Addr)))), (3, .pointer (some ((⟨g9, 0, none⟩ : Addr)))), (4, .int .i64 g.1)]) (fun g w' => (Kp (fun b_ => b_ = gc) w w') ∧ (Blk w' gc ec [.slice Ac nc cc, .int .i64 g.2.2.1, .int .u64 g.2.2.2]) ∧ (SlR w' Bc encB 1 Ac nc cc Lc) ∧ (Blk w' g1 31 [str ([] : List UInt8), str ([] : List UInt8), .int .i64 0]) ∧ (Blk w' g9 31 [str g.2.1.Durable, str g.2.1.Pending, .int .i64 g.2.1.Count]) ∧ ((0 ≤ g.1 ∧ g.1 ≤ 6) ∧ LogOK g.2.1 ∧ tc ≤ g.2.2.1 ∧ g.2.2.1 ≤ tc + 2 + 10 * (6 - g.1))) (fun g => g.1.toNat) (v25, (⟨([] : List UInt8), ([] : List UInt8), 0⟩ : Log), t26, s27) ?_ ?_ ?_
  · exact ⟨rfl, rfl, rfl, rfl, trivial⟩
  · exact ⟨hB32, (hb28), ((((hLc).lo hk4).lo hk12).kp hk18 (fun b_ hb e' => by have e'' : b_ = g9 := e'; omega)).kp hk24 (fun b_ hb e' => by have e'' : b_ = gc := e'; omega), (((hb6).lo hk12).kp hk18 (fun e' => by have e'' : g1 = g9 := e'; omega)).kp hk24 (fun e' => by have e'' : g1 = gc := e'; omega), (Blk.eqv ((hb20).kp hk24 (fun e' => by have e'' : g9 = gc := e'; omega)) (eC (eS (z_c___spec_l1Cur__log_34 Lc tc sc nc htc hbdc hlec v25 t26 s27 ht29 hq30)) (eC (eS (z_c___spec_l1Cur__log_35 Lc tc sc nc htc hbdc hlec v25 t26 s27 ht29 hq30)) (eC (eI (z_c___spec_l1Cur__log_36 Lc tc sc nc htc hbdc hlec v25 t26 s27 ht29 hq30)) rfl)))), (z_c___spec_l1Cur__log_33 Lc tc sc nc htc hbdc hlec v25 t26 s27 ht29 hq30)⟩
  · rintro ⟨n, l, t, z⟩ f37 w38 hP40
    obtain ⟨hB39, hm41, hm42, hm43, hm44, hi45⟩ : (Kp (fun b_ => b_ = gc) w w38) ∧ (Blk w38 gc ec [.slice Ac nc cc, .int .i64 t, .int .u64 z]) ∧ (SlR w38 Bc encB 1 Ac nc cc Lc) ∧ (Blk w38 g1 31 [str ([] : List UInt8), str ([] : List UInt8), .int .i64 0]) ∧ (Blk w38 g9 31 [str l.Durable, str l.Pending, .int .i64 l.Count]) ∧ ((0 ≤ n ∧ n ≤ 6) ∧ LogOK l ∧ tc ≤ t ∧ t ≤ tc + 2 + 10 * (6 - n)) := hP40
    refine (?_ : W _ _ _ _ _ (act _ (sets f37 [(0, .pointer (some ((⟨gc, 0, none⟩ : Addr)))), (2, .pointer (some ((⟨g1, 0, none⟩ : Addr)))), (3, .pointer (some ((⟨g9, 0, none⟩ : Addr)))), (4, .int .i64 n)])) _)
    have hzw38 := hB39.size
    have hl46 := hm41.lt
    have hl47 := hm43.lt
    have hl48 := hm44.lt
    have hq49 : LogOK l := hi45.2.1
    have hq50 : l.Durable.length + l.Pending.length ≤ 24360 ∧ 0 ≤ l.Count ∧ l.Count ≤ 60 := log_rng hi45.2.1
    have hq51 : (0 ≤ n ∧ n ≤ 6) ∧ tc ≤ t ∧ t ≤ tc + 2 + 10 * (6 - n) := And.intro hi45.1 hi45.2.2
    refine W.seq ?_
    refine W.seq ?_
    refine W.regS (SR.q' (r_mv (v := .int .i64 _) rfl) <| SR.q' (r_gt rfl rfl) <| SR.nil ?_)
    refine W.cond_d rfl (fun h52 => ?_) (fun h52 => ?_)
    · refine W.skip ?_
      refine W.seq ?_
      refine W.block ?_
      refine W.seq ?_
      refine W.regA (Kp (fun b_ => b_ = gc ∨ b_ = g9) w38) (fun f' w' => ∃ (v102 : LogRecord), ∃ (t103 : Int), ∃ (s104 : Int), At f' [(0, .pointer (some ((⟨gc, 0, none⟩ : Addr)))), (2, .pointer (some ((⟨g1, 0, none⟩ : Addr)))), (3, .pointer (some ((⟨g9, 0, none⟩ : Addr)))), (4, .int .i64 n)] ∧ (Kp (fun b_ => b_ = gc ∨ b_ = g9) w38 w') ∧ (Blk w' gc ec [.slice Ac nc cc, .int .i64 t103, .int .u64 s104]) ∧ (Blk w' g9 31 [str (((appN l v102).1).Durable), str (((appN l v102).1).Pending), .int .i64 (((appN l v102).1).Count)]) ∧ (t ≤ t103 ∧ t103 ≤ t + 8) ∧ (v102.Command.length ≤ 40 ∧ v102.Reply.length ≤ 40) ∧ ((appN l v102).1.Durable.length + (appN l v102).1.Pending.length ≤ l.Durable.length + l.Pending.length + 406)) mo ?_ ?_
      · intro w96 hk97
        have hz98 := hk97.size
        have hB99 := hB39.lo hk97
        refine AH.take 1 rfl (by kernel_rfl) trivial ((Kp.refl w38 : Kp (fun b_ => b_ = gc ∨ b_ = g9) w38 w38).lo hk97) (fun w' hw' => r_mv (v := .pointer (some _)) rfl) <| AH.br [0, 2] (by kernel_rfl) rfl ⟨Br.mk' rfl trivial ?_, Br.mk' rfl trivial ?_, trivial⟩
        · refine SR.q' (r_lda (l := [str l.Durable, str l.Pending, .int .i64 l.Count]) agg31 rfl (fun _ _ hu => ((hm44).lo hk97).cell hu) rfl) ?_
          refine SR.nil ⟨(Kp.refl w38 : Kp (fun b_ => b_ = gc ∨ b_ = g9) w38 w38).lo hk97, _, rfl, ?_⟩
          refine AH.br [2] (by kernel_rfl) rfl ⟨Br.mk' rfl trivial ?_, trivial⟩
          refine SR.call ent54 (c___spec_l1Cur__logRecord w96 Lc t z ((hm41).lo hk97) (((hm42).lo hk97)) (by omega) (by omega)) rfl ?_
          rintro e w100 ⟨v102, t103, s104, rfl, hb105, ht106, hq107, hk101⟩
          refine ⟨_, rfl, ?_⟩
          have hz108 := hk101.size
          have hB109 := hB99.step hk101 (fun i_ hi_ e' => e')
          have hS110 := ((Kp.refl w38 : Kp (fun b_ => b_ = gc ∨ b_ = g9) w38 w38).lo hk97).step hk101 (fun _ _ e => .inl e)
          refine SR.nil ⟨hS110, _, rfl, ?_⟩
          refine AH.br [3] (by kernel_rfl) rfl ⟨Br.mk' rfl trivial ?_, trivial⟩
          refine SR.call ent28 (c_spec_AppendRecord w100 l v102 (by omega) (by first | omega | decide | (dsimp only; omega))) rfl ?_
          rintro e w111 ⟨rfl, hk112⟩
          refine ⟨_, rfl, ?_⟩
          have hz113 := hk112.size
          have hB114 := hB109.lo hk112
          have hS115 := (hS110).lo hk112
          have hq116 : (appN l v102).1.Durable.length + (appN l v102).1.Pending.length ≤ l.Durable.length + l.Pending.length + 406 := appN_len l v102
          refine SR.nil ⟨hS115, _, rfl, ?_⟩
          refine AH.take 4 rfl (by kernel_rfl) trivial (hS115) (fun w' hw' => r_mv (v := .tuple (List.toArray _)) rfl) <| AH.take 5 rfl (by kernel_rfl) trivial (hS115) (fun w' hw' => r_ext (v := .agg (List.toArray _)) rfl rfl) <| AH.take 6 rfl (by kernel_rfl) trivial (hS115) (fun w' hw' => r_ext (v := .int .i64 _) rfl rfl) <| AH.br [7] (by kernel_rfl) rfl ⟨Br.mk' rfl trivial ?_, trivial⟩
          refine SR.store (o := 0) (vs := [str (((appN l v102).1).Durable), str (((appN l v102).1).Pending), .int .i64 (((appN l v102).1).Count)]) agg31.2 rfl rfl rfl rfl ((((hm44).lo hk97).kp hk101 (fun e' => by have e'' : g9 = gc := e'; omega)).lo hk112) (Nat.le_of_ble_eq_true rfl) rfl ?_
          intro w117 hk118 hs119 hb120
          have hz121 := hk118.size
          have hB122 := hB114.new hk118 (by omega)
          have hS123 := (hS115).step hk118 (fun _ _ e => .inr (e))
          refine SR.nil ⟨hS123, _, rfl, ?_⟩
          refine AH.done (by kernel_rfl) ?_
          exact ⟨v102, t103, s104, ⟨rfl, rfl, rfl, rfl, trivial⟩, hS123, (((hb105).lo hk112).kp hk118 (fun e' => by have e'' : gc = g9 := e'; omega)), (hb120), ht106, hq107, hq116⟩
        · refine SR.call ent54 (c___spec_l1Cur__logRecord w96 Lc t z ((hm41).lo hk97) (((hm42).lo hk97)) (by omega) (by omega)) rfl ?_
          rintro e w126 ⟨v128, t129, s130, rfl, hb131, ht132, hq133, hk127⟩
          refine ⟨_, rfl, ?_⟩
          have hz134 := hk127.size
          have hB135 := hB99.step hk127 (fun i_ hi_ e' => e')
          have hS136 := ((Kp.refl w38 : Kp (fun b_ => b_ = gc ∨ b_ = g9) w38 w38).lo hk97).step hk127 (fun _ _ e => .inl e)
          refine SR.nil ⟨hS136, _, rfl, ?_⟩
          refine AH.br [0] (by kernel_rfl) rfl ⟨Br.mk' rfl trivial ?_, trivial⟩
          refine SR.q' (r_lda (l := [str l.Durable, str l.Pending, .int .i64 l.Count]) agg31 rfl (fun _ _ hu => (((hm44).lo hk97).kp hk127 (fun e' => by have e'' : g9 = gc := e'; omega)).cell hu) rfl) ?_
          refine SR.nil ⟨hS136, _, rfl, ?_⟩
          refine AH.br [3] (by kernel_rfl) rfl ⟨Br.mk' rfl trivial ?_, trivial⟩
          refine SR.call ent28 (c_spec_AppendRecord w126 l v128 (by omega) (by first | omega | decide | (dsimp only; omega))) rfl ?_
          rintro e w137 ⟨rfl, hk138⟩
          refine ⟨_, rfl, ?_⟩
          have hz139 := hk138.size
          have hB140 := hB135.lo hk138
          have hS141 := (hS136).lo hk138
          have hq142 : (appN l v128).1.Durable.length + (appN l v128).1.Pending.length ≤ l.Durable.length + l.Pending.length + 406 := appN_len l v128
          refine SR.nil ⟨hS141, _, rfl, ?_⟩
          refine AH.take 4 rfl (by kernel_rfl) trivial (hS141) (fun w' hw' => r_mv (v := .tuple (List.toArray _)) rfl) <| AH.take 5 rfl (by kernel_rfl) trivial (hS141) (fun w' hw' => r_ext (v := .agg (List.toArray _)) rfl rfl) <| AH.take 6 rfl (by kernel_rfl) trivial (hS141) (fun w' hw' => r_ext (v := .int .i64 _) rfl rfl) <| AH.br [7] (by kernel_rfl) rfl ⟨Br.mk' rfl trivial ?_, trivial⟩
          refine SR.store (o := 0) (vs := [str (((appN l v128).1).Durable), str (((appN l v128).1).Pending), .int .i64 (((appN l v128).1).Count)]) agg31.2 rfl rfl rfl rfl ((((hm44).lo hk97).kp hk127 (fun e' => by have e'' : g9 = gc := e'; omega)).lo hk138) (Nat.le_of_ble_eq_true rfl) rfl ?_
          intro w143 hk144 hs145 hb146
          have hz147 := hk144.size
          have hB148 := hB140.new hk144 (by omega)
          have hS149 := (hS141).step hk144 (fun _ _ e => .inr (e))
          refine SR.nil ⟨hS149, _, rfl, ?_⟩
          refine AH.done (by kernel_rfl) ?_
          exact ⟨v128, t129, s130, ⟨rfl, rfl, rfl, rfl, trivial⟩, hS149, (((hb131).lo hk138).kp hk144 (fun e' => by have e'' : gc = g9 := e'; omega)), (hb146), ht132, hq133, hq142⟩
      rintro f150 w151 ⟨v102, t103, s104, hat153, hR152, hm124, hm125, ht106, hq107, hq116⟩
      rw [← sets_of_at hat153]
      have hz154 := hR152.size
      have hB155 := hB39.step hR152 (fun i_ hi_ e' => e'.elim (fun e' => e') (fun e' => by have e'' : i_ = g9 := e'; exfalso; omega))
      refine W.seq ?_
      refine W.regS (SR.q' (r_mv (v := .pointer (some _)) rfl) <| SR.call ent58 (c___spec_l1Cur__one w151 Lc t103 s104 (hm124) (((hm42).kp hR152 (fun b_ hb e' => e'.elim (fun e' => by have e'' : b_ = gc := e'; omega) (fun e' => by have e'' : b_ = g9 := e'; omega)))) (by omega) (by omega) 4 (by first | omega | (simp only [List.length_append, List.length_cons, List.length_nil, List.length_take, List.length_drop]; omega))) rfl ?_)
      rintro e w156 ⟨v158, t159, s160, rfl, hb161, ht162, hk157⟩
      refine ⟨_, rfl, ?_⟩
      have hz163 := hk157.size
      have hB164 := hB155.step hk157 (fun i_ hi_ e' => e')
      refine SR.nil ?_
      refine W.cond_b rfl (fun h165 => ?_) (fun h165 => ?_)
      · refine W.regS (SR.q' (r_lda (l := [str (((appN l v102).1).Durable), str (((appN l v102).1).Pending), .int .i64 (((appN l v102).1).Count)]) agg31 rfl (fun _ _ hu => ((hm125).kp hk157 (fun e' => by have e'' : g9 = gc := e'; omega)).cell hu) rfl) <| SR.call ent26 (c_spec_SyncLog w156 ((appN l v102).1) (by omega)) rfl ?_)
        rintro e w166 ⟨rfl, hk167⟩
        refine ⟨_, rfl, ?_⟩
        have hz168 := hk167.size
        have hB169 := hB164.lo hk167
        refine SR.q' (r_mv (v := .tuple (List.toArray _)) rfl) <| SR.q' (r_ext (v := .agg (List.toArray _)) rfl rfl) <| SR.q' (r_ext (v := .bool _) rfl rfl) <| SR.store (o := 0) (vs := [str (((syncN ((appN l v102).1)).1).Durable), str (((syncN ((appN l v102).1)).1).Pending), .int .i64 (((syncN ((appN l v102).1)).1).Count)]) agg31.2 rfl rfl rfl rfl (((hm125).kp hk157 (fun e' => by have e'' : g9 = gc := e'; omega)).lo hk167) (Nat.le_of_ble_eq_true rfl) rfl ?_
        intro w170 hk171 hs172 hb173
        have hz174 := hk171.size
        have hB175 := hB169.new hk171 (by omega)
        refine SR.nil ?_
        refine W.regS (SR.q' (r_mv (v := .int .i64 _) rfl) <| SR.q' (r_sub rfl rfl (by omega)) <| SR.q' (r_as (v := .int .i64 _) rfl) <| SR.nil ?_)
        refine ⟨(n - 1, ((syncN ((appN l v102).1)).1), t159, s160), _, rfl, ⟨rfl, rfl, rfl, rfl, trivial⟩, ⟨hB175, (((hb161).lo hk167).kp hk171 (fun e' => by have e'' : gc = g9 := e'; omega)), ((((hm42).kp hR152 (fun b_ hb e' => e'.elim (fun e' => by have e'' : b_ = gc := e'; omega) (fun e' => by have e'' : b_ = g9 := e'; omega))).kp hk157 (fun b_ hb e' => by have e'' : b_ = gc := e'; omega)).lo hk167).kp hk171 (fun b_ hb e' => by have e'' : b_ = g9 := e'; omega), ((((hm43).kp hR152 (fun e' => e'.elim (fun e' => by have e'' : g1 = gc := e'; omega) (fun e' => by have e'' : g1 = g9 := e'; omega))).kp hk157 (fun e' => by have e'' : g1 = gc := e'; omega)).lo hk167).kp hk171 (fun e' => by have e'' : g1 = g9 := e'; omega), (hb173), ?_⟩, ?_⟩
        · exact (z_c___spec_l1Cur__log_176 Lc tc sc nc htc hbdc hlec v25 t26 s27 ht29 hq30 n l t z hi45 hq49 hq50 hq51 h52 v102 t103 s104 ht106 hq107 hq116 v158 t159 s160 ht162 h165)
        · exact (z_c___spec_l1Cur__log_177 Lc tc sc nc htc hbdc hlec v25 t26 s27 ht29 hq30 n l t z hi45 hq49 hq50 hq51 h52 v102 t103 s104 ht106 hq107 hq116 v158 t159 s160 ht162 h165)
      · refine W.skip ?_
        refine W.regS (SR.q' (r_mv (v := .int .i64 _) rfl) <| SR.q' (r_sub rfl rfl (by omega)) <| SR.q' (r_as (v := .int .i64 _) rfl) <| SR.nil ?_)
        refine ⟨(n - 1, ((appN l v102).1), t159, s160), _, rfl, ⟨rfl, rfl, rfl, rfl, trivial⟩, ⟨hB164, (hb161), ((hm42).kp hR152 (fun b_ hb e' => e'.elim (fun e' => by have e'' : b_ = gc := e'; omega) (fun e' => by have e'' : b_ = g9 := e'; omega))).kp hk157 (fun b_ hb e' => by have e'' : b_ = gc := e'; omega), ((hm43).kp hR152 (fun e' => e'.elim (fun e' => by have e'' : g1 = gc := e'; omega) (fun e' => by have e'' : g1 = g9 := e'; omega))).kp hk157 (fun e' => by have e'' : g1 = gc := e'; omega), ((hm125).kp hk157 (fun e' => by have e'' : g9 = gc := e'; omega)), ?_⟩, ?_⟩
        · exact (z_c___spec_l1Cur__log_178 Lc tc sc nc htc hbdc hlec v25 t26 s27 ht29 hq30 n l t z hi45 hq49 hq50 hq51 h52 v102 t103 s104 ht106 hq107 hq116 v158 t159 s160 ht162 h165)
        · exact (z_c___spec_l1Cur__log_179 Lc tc sc nc htc hbdc hlec v25 t26 s27 ht29 hq30 n l t z hi45 hq49 hq50 hq51 h52 v102 t103 s104 ht106 hq107 hq116 v158 t159 s160 ht162 h165)
    · refine W.exit (xin_here ?_)
      refine W.seq ?_
      refine W.regS (SR.q' (r_lda (l := [str l.Durable, str l.Pending, .int .i64 l.Count]) agg31 rfl (fun _ _ hu => (hm44).cell hu) rfl) <| SR.store (o := 0) (vs := [str l.Durable, str l.Pending, .int .i64 l.Count]) agg31.2 rfl rfl rfl rfl (hm43) (Nat.le_of_ble_eq_true rfl) rfl ?_)
      intro w180 hk181 hs182 hb183
      have hz184 := hk181.size
      have hB185 := hB39.new hk181 (by omega)
      refine SR.nil ?_
      refine W.ret ?_
      refine retC rfl rfl agg31 (hb183) rfl ?_
      exact ⟨l, t, z, eR rfl, ((hm41).kp hk181 (fun e' => by have e'' : gc = g1 := e'; omega)), ⟨by omega, by omega⟩, (z_c___spec_l1Cur__log_186 Lc tc sc nc htc hbdc hlec v25 t26 s27 ht29 hq30 n l t z hi45 hq49 hq50 hq51 h52), hB185⟩

theorem z_c___spec_l1Cur__anyLog_57 (Lc : List UInt8) (tc : Int) (sc : Int) (nc : Nat) (htc : 0 ≤ tc ∧ tc + 72 ≤ 4611686018427387904) (hbdc : (nc : Int) ≤ 9223372036854775807) (hlec : nc = Lc.length) (v11 : Log) (t12 : Int) (s13 : Int) (ht15 : tc ≤ t12 ∧ t12 ≤ tc + 64) (hq16 : LogOK v11) (hq19 : v11.Durable.length + v11.Pending.length ≤ 24360 ∧ 0 ≤ v11.Count ∧ v11.Count ≤ 60) (v36 : Int) (t37 : Int) (s38 : Int) (ht40 : t12 ≤ t37 ∧ t37 ≤ t12 + 2) (hq41 : (0 : Int) ≤ v36 ∧ ((v36 : Int) < 24 ∨ (v36 : Int) = 0)) (h44 : v36 = 0) : v11.Durable = (⟨v11.Durable, v11.Pending, v11.Count + 1⟩ : Log).Durable := by
  first | rfl | omega | grind
theorem z_c___spec_l1Cur__anyLog_58 (Lc : List UInt8) (tc : Int) (sc : Int) (nc : Nat) (htc : 0 ≤ tc ∧ tc + 72 ≤ 4611686018427387904) (hbdc : (nc : Int) ≤ 9223372036854775807) (hlec : nc = Lc.length) (v11 : Log) (t12 : Int) (s13 : Int) (ht15 : tc ≤ t12 ∧ t12 ≤ tc + 64) (hq16 : LogOK v11) (hq19 : v11.Durable.length + v11.Pending.length ≤ 24360 ∧ 0 ≤ v11.Count ∧ v11.Count ≤ 60) (v36 : Int) (t37 : Int) (s38 : Int) (ht40 : t12 ≤ t37 ∧ t37 ≤ t12 + 2) (hq41 : (0 : Int) ≤ v36 ∧ ((v36 : Int) < 24 ∨ (v36 : Int) = 0)) (h44 : v36 = 0) : v11.Pending = (⟨v11.Durable, v11.Pending, v11.Count + 1⟩ : Log).Pending := by
  first | rfl | omega | grind
theorem z_c___spec_l1Cur__anyLog_59 (Lc : List UInt8) (tc : Int) (sc : Int) (nc : Nat) (htc : 0 ≤ tc ∧ tc + 72 ≤ 4611686018427387904) (hbdc : (nc : Int) ≤ 9223372036854775807) (hlec : nc = Lc.length) (v11 : Log) (t12 : Int) (s13 : Int) (ht15 : tc ≤ t12 ∧ t12 ≤ tc + 64) (hq16 : LogOK v11) (hq19 : v11.Durable.length + v11.Pending.length ≤ 24360 ∧ 0 ≤ v11.Count ∧ v11.Count ≤ 60) (v36 : Int) (t37 : Int) (s38 : Int) (ht40 : t12 ≤ t37 ∧ t37 ≤ t12 + 2) (hq41 : (0 : Int) ≤ v36 ∧ ((v36 : Int) < 24 ∨ (v36 : Int) = 0)) (h44 : v36 = 0) : v11.Count + 1 = (⟨v11.Durable, v11.Pending, v11.Count + 1⟩ : Log).Count := by
  first | rfl | omega | grind
theorem z_c___spec_l1Cur__anyLog_60 (Lc : List UInt8) (tc : Int) (sc : Int) (nc : Nat) (htc : 0 ≤ tc ∧ tc + 72 ≤ 4611686018427387904) (hbdc : (nc : Int) ≤ 9223372036854775807) (hlec : nc = Lc.length) (v11 : Log) (t12 : Int) (s13 : Int) (ht15 : tc ≤ t12 ∧ t12 ≤ tc + 64) (hq16 : LogOK v11) (hq19 : v11.Durable.length + v11.Pending.length ≤ 24360 ∧ 0 ≤ v11.Count ∧ v11.Count ≤ 60) (v36 : Int) (t37 : Int) (s38 : Int) (ht40 : t12 ≤ t37 ∧ t37 ≤ t12 + 2) (hq41 : (0 : Int) ≤ v36 ∧ ((v36 : Int) < 24 ∨ (v36 : Int) = 0)) (h44 : v36 = 0) : (⟨v11.Durable, v11.Pending, v11.Count + 1⟩ : Log).Durable.length ≤ 60000 ∧ (⟨v11.Durable, v11.Pending, v11.Count + 1⟩ : Log).Pending.length ≤ 60000 ∧ -1 ≤ (⟨v11.Durable, v11.Pending, v11.Count + 1⟩ : Log).Count ∧ (⟨v11.Durable, v11.Pending, v11.Count + 1⟩ : Log).Count ≤ 100 := by
  first | omega | (simp only [List.length_append]; omega) | (dsimp only; omega) | (dsimp only; simp only [List.length_append]; omega)
theorem z_c___spec_l1Cur__anyLog_84 (Lc : List UInt8) (tc : Int) (sc : Int) (nc : Nat) (htc : 0 ≤ tc ∧ tc + 72 ≤ 4611686018427387904) (hbdc : (nc : Int) ≤ 9223372036854775807) (hlec : nc = Lc.length) (v11 : Log) (t12 : Int) (s13 : Int) (ht15 : tc ≤ t12 ∧ t12 ≤ tc + 64) (hq16 : LogOK v11) (hq19 : v11.Durable.length + v11.Pending.length ≤ 24360 ∧ 0 ≤ v11.Count ∧ v11.Count ≤ 60) (v36 : Int) (t37 : Int) (s38 : Int) (ht40 : t12 ≤ t37 ∧ t37 ≤ t12 + 2) (hq41 : (0 : Int) ≤ v36 ∧ ((v36 : Int) < 24 ∨ (v36 : Int) = 0)) (h44 : ¬ (v36 = 0)) (h61 : v36 = 1) (v64 : List UInt8) (t65 : Int) (s66 : Int) (ht68 : t37 ≤ t65 ∧ t65 ≤ t37 + 6) (hq69 : v64.length ≤ v11.Pending.length + 1) : v11.Durable = (⟨v11.Durable, v64, v11.Count⟩ : Log).Durable := by
  first | rfl | omega | grind
theorem z_c___spec_l1Cur__anyLog_85 (Lc : List UInt8) (tc : Int) (sc : Int) (nc : Nat) (htc : 0 ≤ tc ∧ tc + 72 ≤ 4611686018427387904) (hbdc : (nc : Int) ≤ 9223372036854775807) (hlec : nc = Lc.length) (v11 : Log) (t12 : Int) (s13 : Int) (ht15 : tc ≤ t12 ∧ t12 ≤ tc + 64) (hq16 : LogOK v11) (hq19 : v11.Durable.length + v11.Pending.length ≤ 24360 ∧ 0 ≤ v11.Count ∧ v11.Count ≤ 60) (v36 : Int) (t37 : Int) (s38 : Int) (ht40 : t12 ≤ t37 ∧ t37 ≤ t12 + 2) (hq41 : (0 : Int) ≤ v36 ∧ ((v36 : Int) < 24 ∨ (v36 : Int) = 0)) (h44 : ¬ (v36 = 0)) (h61 : v36 = 1) (v64 : List UInt8) (t65 : Int) (s66 : Int) (ht68 : t37 ≤ t65 ∧ t65 ≤ t37 + 6) (hq69 : v64.length ≤ v11.Pending.length + 1) : v64 = (⟨v11.Durable, v64, v11.Count⟩ : Log).Pending := by
  first | rfl | omega | grind
theorem z_c___spec_l1Cur__anyLog_86 (Lc : List UInt8) (tc : Int) (sc : Int) (nc : Nat) (htc : 0 ≤ tc ∧ tc + 72 ≤ 4611686018427387904) (hbdc : (nc : Int) ≤ 9223372036854775807) (hlec : nc = Lc.length) (v11 : Log) (t12 : Int) (s13 : Int) (ht15 : tc ≤ t12 ∧ t12 ≤ tc + 64) (hq16 : LogOK v11) (hq19 : v11.Durable.length + v11.Pending.length ≤ 24360 ∧ 0 ≤ v11.Count ∧ v11.Count ≤ 60) (v36 : Int) (t37 : Int) (s38 : Int) (ht40 : t12 ≤ t37 ∧ t37 ≤ t12 + 2) (hq41 : (0 : Int) ≤ v36 ∧ ((v36 : Int) < 24 ∨ (v36 : Int) = 0)) (h44 : ¬ (v36 = 0)) (h61 : v36 = 1) (v64 : List UInt8) (t65 : Int) (s66 : Int) (ht68 : t37 ≤ t65 ∧ t65 ≤ t37 + 6) (hq69 : v64.length ≤ v11.Pending.length + 1) : v11.Count = (⟨v11.Durable, v64, v11.Count⟩ : Log).Count := by
  first | rfl | omega | grind
theorem z_c___spec_l1Cur__anyLog_87 (Lc : List UInt8) (tc : Int) (sc : Int) (nc : Nat) (htc : 0 ≤ tc ∧ tc + 72 ≤ 4611686018427387904) (hbdc : (nc : Int) ≤ 9223372036854775807) (hlec : nc = Lc.length) (v11 : Log) (t12 : Int) (s13 : Int) (ht15 : tc ≤ t12 ∧ t12 ≤ tc + 64) (hq16 : LogOK v11) (hq19 : v11.Durable.length + v11.Pending.length ≤ 24360 ∧ 0 ≤ v11.Count ∧ v11.Count ≤ 60) (v36 : Int) (t37 : Int) (s38 : Int) (ht40 : t12 ≤ t37 ∧ t37 ≤ t12 + 2) (hq41 : (0 : Int) ≤ v36 ∧ ((v36 : Int) < 24 ∨ (v36 : Int) = 0)) (h44 : ¬ (v36 = 0)) (h61 : v36 = 1) (v64 : List UInt8) (t65 : Int) (s66 : Int) (ht68 : t37 ≤ t65 ∧ t65 ≤ t37 + 6) (hq69 : v64.length ≤ v11.Pending.length + 1) : (⟨v11.Durable, v64, v11.Count⟩ : Log).Durable.length ≤ 60000 ∧ (⟨v11.Durable, v64, v11.Count⟩ : Log).Pending.length ≤ 60000 ∧ -1 ≤ (⟨v11.Durable, v64, v11.Count⟩ : Log).Count ∧ (⟨v11.Durable, v64, v11.Count⟩ : Log).Count ≤ 100 := by
  first | omega | (simp only [List.length_append]; omega) | (dsimp only; omega) | (dsimp only; simp only [List.length_append]; omega)
theorem z_c___spec_l1Cur__anyLog_101 (Lc : List UInt8) (tc : Int) (sc : Int) (nc : Nat) (htc : 0 ≤ tc ∧ tc + 72 ≤ 4611686018427387904) (hbdc : (nc : Int) ≤ 9223372036854775807) (hlec : nc = Lc.length) (v11 : Log) (t12 : Int) (s13 : Int) (ht15 : tc ≤ t12 ∧ t12 ≤ tc + 64) (hq16 : LogOK v11) (hq19 : v11.Durable.length + v11.Pending.length ≤ 24360 ∧ 0 ≤ v11.Count ∧ v11.Count ≤ 60) (v36 : Int) (t37 : Int) (s38 : Int) (ht40 : t12 ≤ t37 ∧ t37 ≤ t12 + 2) (hq41 : (0 : Int) ≤ v36 ∧ ((v36 : Int) < 24 ∨ (v36 : Int) = 0)) (h44 : ¬ (v36 = 0)) (h61 : ¬ (v36 = 1)) (h88 : v36 = 2) : v11.Durable ++ v11.Pending = (⟨v11.Durable ++ v11.Pending, v11.Pending, v11.Count⟩ : Log).Durable := by
  first | rfl | omega | grind
theorem z_c___spec_l1Cur__anyLog_102 (Lc : List UInt8) (tc : Int) (sc : Int) (nc : Nat) (htc : 0 ≤ tc ∧ tc + 72 ≤ 4611686018427387904) (hbdc : (nc : Int) ≤ 9223372036854775807) (hlec : nc = Lc.length) (v11 : Log) (t12 : Int) (s13 : Int) (ht15 : tc ≤ t12 ∧ t12 ≤ tc + 64) (hq16 : LogOK v11) (hq19 : v11.Durable.length + v11.Pending.length ≤ 24360 ∧ 0 ≤ v11.Count ∧ v11.Count ≤ 60) (v36 : Int) (t37 : Int) (s38 : Int) (ht40 : t12 ≤ t37 ∧ t37 ≤ t12 + 2) (hq41 : (0 : Int) ≤ v36 ∧ ((v36 : Int) < 24 ∨ (v36 : Int) = 0)) (h44 : ¬ (v36 = 0)) (h61 : ¬ (v36 = 1)) (h88 : v36 = 2) : v11.Pending = (⟨v11.Durable ++ v11.Pending, v11.Pending, v11.Count⟩ : Log).Pending := by
  first | rfl | omega | grind
theorem z_c___spec_l1Cur__anyLog_103 (Lc : List UInt8) (tc : Int) (sc : Int) (nc : Nat) (htc : 0 ≤ tc ∧ tc + 72 ≤ 4611686018427387904) (hbdc : (nc : Int) ≤ 9223372036854775807) (hlec : nc = Lc.length) (v11 : Log) (t12 : Int) (s13 : Int) (ht15 : tc ≤ t12 ∧ t12 ≤ tc + 64) (hq16 : LogOK v11) (hq19 : v11.Durable.length + v11.Pending.length ≤ 24360 ∧ 0 ≤ v11.Count ∧ v11.Count ≤ 60) (v36 : Int) (t37 : Int) (s38 : Int) (ht40 : t12 ≤ t37 ∧ t37 ≤ t12 + 2) (hq41 : (0 : Int) ≤ v36 ∧ ((v36 : Int) < 24 ∨ (v36 : Int) = 0)) (h44 : ¬ (v36 = 0)) (h61 : ¬ (v36 = 1)) (h88 : v36 = 2) : v11.Count = (⟨v11.Durable ++ v11.Pending, v11.Pending, v11.Count⟩ : Log).Count := by
  first | rfl | omega | grind
theorem z_c___spec_l1Cur__anyLog_104 (Lc : List UInt8) (tc : Int) (sc : Int) (nc : Nat) (htc : 0 ≤ tc ∧ tc + 72 ≤ 4611686018427387904) (hbdc : (nc : Int) ≤ 9223372036854775807) (hlec : nc = Lc.length) (v11 : Log) (t12 : Int) (s13 : Int) (ht15 : tc ≤ t12 ∧ t12 ≤ tc + 64) (hq16 : LogOK v11) (hq19 : v11.Durable.length + v11.Pending.length ≤ 24360 ∧ 0 ≤ v11.Count ∧ v11.Count ≤ 60) (v36 : Int) (t37 : Int) (s38 : Int) (ht40 : t12 ≤ t37 ∧ t37 ≤ t12 + 2) (hq41 : (0 : Int) ≤ v36 ∧ ((v36 : Int) < 24 ∨ (v36 : Int) = 0)) (h44 : ¬ (v36 = 0)) (h61 : ¬ (v36 = 1)) (h88 : v36 = 2) : (⟨v11.Durable ++ v11.Pending, v11.Pending, v11.Count⟩ : Log).Durable.length ≤ 60000 ∧ (⟨v11.Durable ++ v11.Pending, v11.Pending, v11.Count⟩ : Log).Pending.length ≤ 60000 ∧ -1 ≤ (⟨v11.Durable ++ v11.Pending, v11.Pending, v11.Count⟩ : Log).Count ∧ (⟨v11.Durable ++ v11.Pending, v11.Pending, v11.Count⟩ : Log).Count ≤ 100 := by
  first | omega | (simp only [List.length_append]; omega) | (dsimp only; omega) | (dsimp only; simp only [List.length_append]; omega)
theorem z_c___spec_l1Cur__anyLog_111 (Lc : List UInt8) (tc : Int) (sc : Int) (nc : Nat) (htc : 0 ≤ tc ∧ tc + 72 ≤ 4611686018427387904) (hbdc : (nc : Int) ≤ 9223372036854775807) (hlec : nc = Lc.length) (v11 : Log) (t12 : Int) (s13 : Int) (ht15 : tc ≤ t12 ∧ t12 ≤ tc + 64) (hq16 : LogOK v11) (hq19 : v11.Durable.length + v11.Pending.length ≤ 24360 ∧ 0 ≤ v11.Count ∧ v11.Count ≤ 60) (v36 : Int) (t37 : Int) (s38 : Int) (ht40 : t12 ≤ t37 ∧ t37 ≤ t12 + 2) (hq41 : (0 : Int) ≤ v36 ∧ ((v36 : Int) < 24 ∨ (v36 : Int) = 0)) (h44 : ¬ (v36 = 0)) (h61 : ¬ (v36 = 1)) (h88 : ¬ (v36 = 2)) : v11.Durable.length ≤ 60000 ∧ v11.Pending.length ≤ 60000 ∧ -1 ≤ v11.Count ∧ v11.Count ≤ 100 := by
  first | omega | (simp only [List.length_append]; omega) | (dsimp only; omega) | (dsimp only; simp only [List.length_append]; omega)
theorem c___spec_l1Cur__anyLog (w : World) {gc ec : Nat} {Ac : Option Addr} {nc cc Bc : Nat} (Lc : List UInt8) (tc sc : Int) (hc : Blk w gc ec [.slice Ac nc cc, .int .i64 tc, .int .u64 sc]) (hLc : SlR w Bc encB 1 Ac nc cc Lc) (hgc : Bc ≤ gc) (htc : 0 ≤ tc ∧ tc + 72 ≤ 4611686018427387904) : Calls Tryd.prog 59 #[.pointer (some ⟨gc, 0, none⟩)] w fun e w' => ∃ (l : Log) (tc' sc' : Int), e = .returned (.agg (List.toArray [str l.Durable, str l.Pending, .int .i64 l.Count])) ∧ Blk w' gc ec [.slice Ac nc cc, .int .i64 tc', .int .u64 sc'] ∧ (tc ≤ tc' ∧ tc' ≤ tc + 72) ∧ (l.Durable.length ≤ 60000 ∧ l.Pending.length ≤ 60000 ∧ -1 ≤ l.Count ∧ l.Count ≤ 100) ∧ Kp (fun b_ => b_ = gc) w w' := by
  refine calls_W 30 Tryd.func59 rfl rfl rfl ?_
  have hBlc := hc.lt
  have hbdc := hLc.bound
  have hlec := hLc.len
  have hBbc := hLc.bd
  refine W.seq ?_
  refine W.regS (SR.alloc (l := [str ([] : List UInt8), str ([] : List UInt8), .int .i64 0]) tz31 rfl ?_)
  intro g1 w2 hg3 hk4 hs5 hb6
  have hz7 := hk4.size
  have hB8 := (Kp.refl w : Kp (fun b_ => b_ = gc) w w).lo hk4
  refine SR.nil ?_
  refine W.seq ?_
  refine W.regS (SR.q' (r_mv (v := .pointer (some _)) rfl) <| SR.call ent55 (c___spec_l1Cur__log w2 Lc tc sc ((hc).lo hk4) (((hLc).lo hk4)) (by omega) (by omega)) rfl ?_)
  rintro e w9 ⟨v11, t12, s13, rfl, hb14, ht15, hq16, hk10⟩
  refine ⟨_, rfl, ?_⟩
  have hz17 := hk10.size
  have hB18 := hB8.step hk10 (fun i_ hi_ e' => e')
  have hq19 := log_rng hq16
  refine SR.alloc (l := [str ([] : List UInt8), str ([] : List UInt8), .int .i64 0]) tz31 rfl ?_
  intro g20 w21 hg22 hk23 hs24 hb25
  have hz26 := hk23.size
  have hB27 := hB18.lo hk23
  refine SR.store (o := 0) (vs := [str v11.Durable, str v11.Pending, .int .i64 v11.Count]) agg31.2 rfl rfl rfl rfl (hb25) (Nat.le_of_ble_eq_true rfl) rfl ?_
  intro w28 hk29 hs30 hb31
  have hz32 := hk29.size
  have hB33 := hB27.new hk29 (by omega)
  refine SR.nil ?_
  refine W.seq ?_
  refine W.seq ?_
  refine W.regS (SR.q' (r_mv (v := .pointer (some _)) rfl) <| SR.call ent56 (c___spec_l1Cur__pick w28 Lc t12 s13 (((hb14).lo hk23).kp hk29 (fun e' => by have e'' : gc = g20 := e'; omega)) ((((((hLc).lo hk4).kp hk10 (fun b_ hb e' => by have e'' : b_ = gc := e'; omega)).lo hk23).kp hk29 (fun b_ hb e' => by have e'' : b_ = g20 := e'; omega))) (by omega) (by omega) 24 (by first | omega | (simp only [List.length_append, List.length_cons, List.length_nil, List.length_take, List.length_drop]; omega))) rfl ?_)
  rintro e w34 ⟨v36, t37, s38, rfl, hb39, ht40, hq41, hk35⟩
  refine ⟨_, rfl, ?_⟩
  have hz42 := hk35.size
  have hB43 := hB33.step hk35 (fun i_ hi_ e' => e')
  refine SR.nil ?_
  refine W.block ?_
  refine W.seq ?_
  refine W.regS (SR.q' (r_eq rfl rfl) <| SR.q' (r_as (v := .bool _) rfl) <| SR.nil ?_)
  refine W.cond_d rfl (fun h44 => ?_) (fun h44 => ?_)
  · refine W.regS (SR.q' (r_fa fa31_2 rfl) <| SR.q' (r_ld (v := .int .i64 v11.Count) sca3 rfl (((hb31).kp hk35 (fun e' => by have e'' : g20 = gc := e'; omega)).cell rfl)) <| SR.q' (r_add rfl rfl (by omega)) <| SR.q' (r_fa fa31_2 rfl) <| SR.store (o := 2) (vs := [.int .i64 (v11.Count + 1)]) sca3.2 rfl rfl rfl rfl ((hb31).kp hk35 (fun e' => by have e'' : g20 = gc := e'; omega)) (Nat.le_of_ble_eq_true rfl) rfl ?_)
    intro w45 hk46 hs47 hb48
    have hz49 := hk46.size
    have hB50 := hB43.new hk46 (by omega)
    refine SR.nil ?_
    refine W.seq ?_
    refine W.regS (SR.q' (r_lda (l := [str v11.Durable, str v11.Pending, .int .i64 (v11.Count + 1)]) agg31 rfl (fun _ _ hu => (hb48).cell hu) rfl) <| SR.store (o := 0) (vs := [str v11.Durable, str v11.Pending, .int .i64 (v11.Count + 1)]) agg31.2 rfl rfl rfl rfl ((((((hb6).kp hk10 (fun e' => by have e'' : g1 = gc := e'; omega)).lo hk23).kp hk29 (fun e' => by have e'' : g1 = g20 := e'; omega)).kp hk35 (fun e' => by have e'' : g1 = gc := e'; omega)).kp hk46 (fun e' => by have e'' : g1 = g20 := e'; omega)) (Nat.le_of_ble_eq_true rfl) rfl ?_)
    intro w51 hk52 hs53 hb54
    have hz55 := hk52.size
    have hB56 := hB50.new hk52 (by omega)
    refine SR.nil ?_
    refine W.ret ?_
    refine retC rfl rfl agg31 (hb54) rfl ?_
    exact ⟨(⟨v11.Durable, v11.Pending, v11.Count + 1⟩ : Log), t37, s38, eR (eA (eC (eS (z_c___spec_l1Cur__anyLog_57 Lc tc sc nc htc hbdc hlec v11 t12 s13 ht15 hq16 hq19 v36 t37 s38 ht40 hq41 h44)) (eC (eS (z_c___spec_l1Cur__anyLog_58 Lc tc sc nc htc hbdc hlec v11 t12 s13 ht15 hq16 hq19 v36 t37 s38 ht40 hq41 h44)) (eC (eI (z_c___spec_l1Cur__anyLog_59 Lc tc sc nc htc hbdc hlec v11 t12 s13 ht15 hq16 hq19 v36 t37 s38 ht40 hq41 h44)) rfl)))), (((hb39).kp hk46 (fun e' => by have e'' : gc = g20 := e'; omega)).kp hk52 (fun e' => by have e'' : gc = g1 := e'; omega)), ⟨by omega, by omega⟩, (z_c___spec_l1Cur__anyLog_60 Lc tc sc nc htc hbdc hlec v11 t12 s13 ht15 hq16 hq19 v36 t37 s38 ht40 hq41 h44), hB56⟩
  · refine W.seq ?_
    refine W.regS (SR.q' (r_eq rfl rfl) <| SR.q' (r_as (v := .bool _) rfl) <| SR.nil ?_)
    refine W.cond_d rfl (fun h61 => ?_) (fun h61 => ?_)
    · refine W.regS (SR.q' (r_mv (v := .pointer (some _)) rfl) <| SR.q' (r_fa fa31_1 rfl) <| SR.q' (r_ld (v := str v11.Pending) sca9 rfl (((hb31).kp hk35 (fun e' => by have e'' : g20 = gc := e'; omega)).cell rfl)) <| SR.call ent57 (c___spec_l1Cur__spoilt w34 Lc t37 s38 (hb39) (((((((hLc).lo hk4).kp hk10 (fun b_ hb e' => by have e'' : b_ = gc := e'; omega)).lo hk23).kp hk29 (fun b_ hb e' => by have e'' : b_ = g20 := e'; omega)).kp hk35 (fun b_ hb e' => by have e'' : b_ = gc := e'; omega))) (by omega) (by omega) v11.Pending ([35, 64, 10, 48, 49] : List UInt8) (by first | omega | (simp only [List.length_append, List.length_cons, List.length_nil, List.length_take, List.length_drop]; omega)) (by first | omega | decide | (simp; done))) rfl ?_)
      rintro e w62 ⟨v64, t65, s66, rfl, hb67, ht68, hq69, hk63⟩
      refine ⟨_, rfl, ?_⟩
      have hz70 := hk63.size
      have hB71 := hB43.step hk63 (fun i_ hi_ e' => e')
      refine SR.q' (r_fa fa31_1 rfl) <| SR.store (o := 1) (vs := [str v64]) sca9.2 rfl rfl rfl rfl (((hb31).kp hk35 (fun e' => by have e'' : g20 = gc := e'; omega)).kp hk63 (fun e' => by have e'' : g20 = gc := e'; omega)) (Nat.le_of_ble_eq_true rfl) rfl ?_
      intro w72 hk73 hs74 hb75
      have hz76 := hk73.size
      have hB77 := hB71.new hk73 (by omega)
      refine SR.nil ?_
      refine W.seq ?_
      refine W.regS (SR.q' (r_lda (l := [str v11.Durable, str v64, .int .i64 v11.Count]) agg31 rfl (fun _ _ hu => (hb75).cell hu) rfl) <| SR.store (o := 0) (vs := [str v11.Durable, str v64, .int .i64 v11.Count]) agg31.2 rfl rfl rfl rfl (((((((hb6).kp hk10 (fun e' => by have e'' : g1 = gc := e'; omega)).lo hk23).kp hk29 (fun e' => by have e'' : g1 = g20 := e'; omega)).kp hk35 (fun e' => by have e'' : g1 = gc := e'; omega)).kp hk63 (fun e' => by have e'' : g1 = gc := e'; omega)).kp hk73 (fun e' => by have e'' : g1 = g20 := e'; omega)) (Nat.le_of_ble_eq_true rfl) rfl ?_)
      intro w78 hk79 hs80 hb81
      have hz82 := hk79.size
      have hB83 := hB77.new hk79 (by omega)
      refine SR.nil ?_
      refine W.ret ?_
      refine retC rfl rfl agg31 (hb81) rfl ?_
      exact ⟨(⟨v11.Durable, v64, v11.Count⟩ : Log), t65, s66, eR (eA (eC (eS (z_c___spec_l1Cur__anyLog_84 Lc tc sc nc htc hbdc hlec v11 t12 s13 ht15 hq16 hq19 v36 t37 s38 ht40 hq41 h44 h61 v64 t65 s66 ht68 hq69)) (eC (eS (z_c___spec_l1Cur__anyLog_85 Lc tc sc nc htc hbdc hlec v11 t12 s13 ht15 hq16 hq19 v36 t37 s38 ht40 hq41 h44 h61 v64 t65 s66 ht68 hq69)) (eC (eI (z_c___spec_l1Cur__anyLog_86 Lc tc sc nc htc hbdc hlec v11 t12 s13 ht15 hq16 hq19 v36 t37 s38 ht40 hq41 h44 h61 v64 t65 s66 ht68 hq69)) rfl)))), (((hb67).kp hk73 (fun e' => by have e'' : gc = g20 := e'; omega)).kp hk79 (fun e' => by have e'' : gc = g1 := e'; omega)), ⟨by omega, by omega⟩, (z_c___spec_l1Cur__anyLog_87 Lc tc sc nc htc hbdc hlec v11 t12 s13 ht15 hq16 hq19 v36 t37 s38 ht40 hq41 h44 h61 v64 t65 s66 ht68 hq69), hB83⟩
    · refine W.seq ?_
      refine W.regS (SR.q' (r_eq rfl rfl) <| SR.q' (r_as (v := .bool _) rfl) <| SR.nil ?_)
      refine W.cond_d rfl (fun h88 => ?_) (fun h88 => ?_)
      · refine W.regS (SR.q' (r_fa fa31_0 rfl) <| SR.q' (r_ld (v := str v11.Durable) sca9 rfl (((hb31).kp hk35 (fun e' => by have e'' : g20 = gc := e'; omega)).cell rfl)) <| SR.q' (r_fa fa31_1 rfl) <| SR.q' (r_ld (v := str v11.Pending) sca9 rfl (((hb31).kp hk35 (fun e' => by have e'' : g20 = gc := e'; omega)).cell rfl)) <| SR.q' (r_cat rfl rfl (by first | omega | (simp only [List.length_append, List.length_cons, List.length_nil, List.length_take, List.length_drop]; omega) | (simp only [List.length_append, List.length_cons, List.length_nil, List.length_take, List.length_drop] at *; omega))) <| SR.q' (r_fa fa31_0 rfl) <| SR.store (o := 0) (vs := [str (v11.Durable ++ v11.Pending)]) sca9.2 rfl rfl rfl rfl ((hb31).kp hk35 (fun e' => by have e'' : g20 = gc := e'; omega)) (Nat.le_of_ble_eq_true rfl) rfl ?_)
        intro w89 hk90 hs91 hb92
        have hz93 := hk90.size
        have hB94 := hB43.new hk90 (by omega)
        refine SR.nil ?_
        refine W.seq ?_
        refine W.regS (SR.q' (r_lda (l := [str (v11.Durable ++ v11.Pending), str v11.Pending, .int .i64 v11.Count]) agg31 rfl (fun _ _ hu => (hb92).cell hu) rfl) <| SR.store (o := 0) (vs := [str (v11.Durable ++ v11.Pending), str v11.Pending, .int .i64 v11.Count]) agg31.2 rfl rfl rfl rfl ((((((hb6).kp hk10 (fun e' => by have e'' : g1 = gc := e'; omega)).lo hk23).kp hk29 (fun e' => by have e'' : g1 = g20 := e'; omega)).kp hk35 (fun e' => by have e'' : g1 = gc := e'; omega)).kp hk90 (fun e' => by have e'' : g1 = g20 := e'; omega)) (Nat.le_of_ble_eq_true rfl) rfl ?_)
        intro w95 hk96 hs97 hb98
        have hz99 := hk96.size
        have hB100 := hB94.new hk96 (by omega)
        refine SR.nil ?_
        refine W.ret ?_
        refine retC rfl rfl agg31 (hb98) rfl ?_
        exact ⟨(⟨v11.Durable ++ v11.Pending, v11.Pending, v11.Count⟩ : Log), t37, s38, eR (eA (eC (eS (z_c___spec_l1Cur__anyLog_101 Lc tc sc nc htc hbdc hlec v11 t12 s13 ht15 hq16 hq19 v36 t37 s38 ht40 hq41 h44 h61 h88)) (eC (eS (z_c___spec_l1Cur__anyLog_102 Lc tc sc nc htc hbdc hlec v11 t12 s13 ht15 hq16 hq19 v36 t37 s38 ht40 hq41 h44 h61 h88)) (eC (eI (z_c___spec_l1Cur__anyLog_103 Lc tc sc nc htc hbdc hlec v11 t12 s13 ht15 hq16 hq19 v36 t37 s38 ht40 hq41 h44 h61 h88)) rfl)))), (((hb39).kp hk90 (fun e' => by have e'' : gc = g20 := e'; omega)).kp hk96 (fun e' => by have e'' : gc = g1 := e'; omega)), ⟨by omega, by omega⟩, (z_c___spec_l1Cur__anyLog_104 Lc tc sc nc htc hbdc hlec v11 t12 s13 ht15 hq16 hq19 v36 t37 s38 ht40 hq41 h44 h61 h88), hB100⟩
      · refine W.skip ?_
        refine W.seq ?_
        refine W.regS (SR.q' (r_lda (l := [str v11.Durable, str v11.Pending, .int .i64 v11.Count]) agg31 rfl (fun _ _ hu => ((hb31).kp hk35 (fun e' => by have e'' : g20 = gc := e'; omega)).cell hu) rfl) <| SR.store (o := 0) (vs := [str v11.Durable, str v11.Pending, .int .i64 v11.Count]) agg31.2 rfl rfl rfl rfl (((((hb6).kp hk10 (fun e' => by have e'' : g1 = gc := e'; omega)).lo hk23).kp hk29 (fun e' => by have e'' : g1 = g20 := e'; omega)).kp hk35 (fun e' => by have e'' : g1 = gc := e'; omega)) (Nat.le_of_ble_eq_true rfl) rfl ?_)
        intro w105 hk106 hs107 hb108
        have hz109 := hk106.size
        have hB110 := hB43.new hk106 (by omega)
        refine SR.nil ?_
        refine W.ret ?_
        refine retC rfl rfl agg31 (hb108) rfl ?_
        exact ⟨v11, t37, s38, eR rfl, ((hb39).kp hk106 (fun e' => by have e'' : gc = g1 := e'; omega)), ⟨by omega, by omega⟩, (z_c___spec_l1Cur__anyLog_111 Lc tc sc nc htc hbdc hlec v11 t12 s13 ht15 hq16 hq19 v36 t37 s38 ht40 hq41 h44 h61 h88), hB110⟩
end Go.Proofs.YthlbmkpkgiabnaaDoor
