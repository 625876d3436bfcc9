/- Walks, printed by a program of this claim's author. -/
import Derived.Test.YtgobbcilgcbkaaaDoorChecked
import Derived.Test.YtgobbcilgcbkaaaDoorUa
import Derived.Test.YtgobbcilgcbkaaaDoorFu
import Derived.Test.YtgobbcilgcbkaaaDoorFs
import Derived.Test.YtgobbcilgcbkaaaDoorFq
import Derived.Test.YtgobbcilgcbkaaaDoorFo
import Derived.Test.YtgobbcilgcbkaaaDoorDa
import Derived.Test.YtgobbcilgcbkaaaDoorG32v
namespace Go.Proofs.YtgobbcilgcbkaaaDoor
open Go Go.RowKit Fw
set_option maxRecDepth 10000
set_option maxHeartbeats 2000000
set_option linter.unusedVariables false
theorem bld27_0_1 (a0 : Option Addr) (b0 c0 : Nat) (a1 : Option Addr) (b1 c1 : Nat) : Tryd.prog.built 27 [(0, .slice a0 b0 c0), (1, .slice a1 b1 c1)] = some (List.toArray [.slice a0 b0 c0, .slice a1 b1 c1, .int .i64 0, .int .i64 0, .int .i64 0]) := by kernel_rfl
theorem ent40 : Ent Tryd.prog 40 := ent_of Tryd.func40 (by decide +kernel) rfl
theorem ent41 : Ent Tryd.prog 41 := ent_of Tryd.func41 (by decide +kernel) rfl

theorem c___spec_l1Cur__library (w : World) {gc ec : Nat} {Ac : Option Addr} {nc cc Bc : Nat} (Lc : List UInt8) (tc sc : Int) (hc : Blk w gc ec [.slice Ac nc cc, .int .i64 tc, .int .u64 sc]) (hLc : SlR w Bc encB 1 Ac nc cc Lc) (hgc : Bc ≤ gc) (htc : 0 ≤ tc ∧ tc + 800 ≤ 4611686018427387904) : Calls Tryd.prog 23 #[.pointer (some ⟨gc, 0, none⟩)] w fun e w' => ∃ (A1' : Option Addr) (n1' c1' : Nat) (A2' : Option Addr) (n2' c2' : Nat) (x : Library) (tc' sc' : Int), e = .returned (.agg (List.toArray [.slice A1' n1' c1', .slice A2' n2' c2', .int .i64 x.Bought, .int .i64 x.Dropped, .int .i64 x.Mended])) ∧ SlO w' w.heap.size encLMap 3 48 A1' n1' c1' x.Maps ∧ SlO w' w.heap.size encAway 2 57 A2' n2' c2' x.Away ∧ (∀ b_, A1' = some ⟨b_, 0, none⟩ → ¬ A2' = some ⟨b_, 0, none⟩) ∧ Blk w' gc ec [.slice Ac nc cc, .int .i64 tc', .int .u64 sc'] ∧ (tc ≤ tc' ∧ tc' ≤ tc + 800) ∧ (x.Maps.length ≤ 9 ∧ x.Away.length ≤ 9) ∧ (MapB x.Maps) ∧ Kp (fun b_ => b_ = gc) w w' := by
  refine calls_W 67 Tryd.func23 rfl rfl rfl ?_
  have hBlc := hc.lt
  have hbdc := hLc.bound
  have hlec := hLc.len
  have hBbc := hLc.bd
  refine W.seq ?_
  refine W.regS (SR.alloc (l := [.slice none 0 0, .slice none 0 0, .int .i64 0, .int .i64 0, .int .i64 0]) tz27 rfl ?_)
  intro g1 w2 hg3 hk4 hs5 hb6
  have hz7 := hk4.size
  have hB8 := (Kp.refl w : Kp (fun b_ => b_ = gc) w w).lo hk4
  refine SR.nil ?_
  refine W.seq ?_
  refine W.regS (SR.lit (vs := []) (L := ([] : List LMap)) (enc := encLMap) tel24 (fun _ => rfl) rfl rfl rfl (by decide) ?_)
  intro g9 w10 hg11 hk12 hO13
  have hz14 := hk12.size
  have hB15 := hB8.lo hk12
  refine SR.lit (vs := []) (L := ([] : List Away)) (enc := encAway) tel25 (fun _ => rfl) rfl rfl rfl (by decide) ?_
  intro g16 w17 hg18 hk19 hO20
  have hz21 := hk19.size
  have hB22 := hB15.lo hk19
  have hd23 : ¬ (pA g9) = some ⟨g16, 0, none⟩ := fun e' => by have := (hO13).base_le e'; omega
  refine SR.q' (r_build (vs := [(0, .slice (pA g9) 0 0), (1, .slice (pA g16) 0 0)]) rfl (bld27_0_1 _ _ _ _ _ _)) <| SR.alloc (l := [.slice none 0 0, .slice none 0 0, .int .i64 0, .int .i64 0, .int .i64 0]) tz27 rfl ?_
  intro g24 w25 hg26 hk27 hs28 hb29
  have hz30 := hk27.size
  have hB31 := hB22.lo hk27
  have hd32 : ¬ (pA g9) = some ⟨g24, 0, none⟩ := fun e' => by have := ((hO13).lo hk19).base_le e'; omega
  have hd33 : ¬ (pA g16) = some ⟨g24, 0, none⟩ := fun e' => by have := (hO20).base_le e'; omega
  refine SR.store (o := 0) (vs := [.slice (pA g9) 0 0, .slice (pA g16) 0 0, .int .i64 0, .int .i64 0, .int .i64 0]) agg27.2 rfl rfl rfl rfl (hb29) (Nat.le_of_ble_eq_true rfl) rfl ?_
  intro w34 hk35 hs36 hb37
  have hz38 := hk35.size
  have hB39 := hB31.new hk35 (by omega)
  refine SR.nil ?_
  refine W.seq ?_
  refine W.seq ?_
  have hm40 := (((((hc).lo hk4).lo hk12).lo hk19).lo hk27).kn hk35 (by omega)
  have hm41 := (((((hLc).lo hk4).lo hk12).lo hk19).lo hk27).kn hk35 (by omega)
  have hm42 := ((((hb6).lo hk12).lo hk19).lo hk27).kn hk35 (by omega)
  have hm43 := (((hO13).lo hk19).lo hk27).kd hk35 hd32
  have hm44 := ((hO20).lo hk27).kd hk35 hd33
  refine W.regS (SR.q' (r_mv (v := .pointer (some _)) rfl) <| SR.call ent25 (c___spec_l1Cur__pick w34 Lc tc sc (hm40) ((hm41)) (by omega) (by omega) 36 (by first | omega | (simp only [List.length_append, List.length_cons, List.length_nil, List.length_take, List.length_drop]; omega))) rfl ?_)
  rintro e w45 ⟨v47, t48, s49, rfl, hb50, ht51, hq52, hk46⟩
  refine ⟨_, rfl, ?_⟩
  have hz53 := hk46.size
  have hB54 := hB39.step hk46 (fun i_ hi_ e' => e')
  refine SR.q' (r_as (v := .int .i64 _) rfl) <| SR.nil ?_
  refine W.block ?_
  refine W.loop (σ := Int × Library × Int × Int × (Option Addr) × Nat × Nat × (Option Addr) × Nat × Nat) (fun g => [(0, .pointer (pA gc)), (2, .pointer (pA g1)), (3, .pointer (pA g24)), (4, .int .i64 g.1)]) (fun g w' => (Kp (fun b_ => b_ = gc) w w') ∧ (Blk w' gc ec [.slice Ac nc cc, .int .i64 g.2.2.1, .int .u64 g.2.2.2.1]) ∧ (SlR w' Bc encB 1 Ac nc cc Lc) ∧ (Blk w' g1 27 [.slice none 0 0, .slice none 0 0, .int .i64 0, .int .i64 0, .int .i64 0]) ∧ (Blk w' g24 27 [.slice g.2.2.2.2.1 g.2.2.2.2.2.1 g.2.2.2.2.2.2.1, .slice g.2.2.2.2.2.2.2.1 g.2.2.2.2.2.2.2.2.1 g.2.2.2.2.2.2.2.2.2, .int .i64 g.2.1.Bought, .int .i64 g.2.1.Dropped, .int .i64 g.2.1.Mended]) ∧ (SlO w' w.heap.size encLMap 3 48 g.2.2.2.2.1 g.2.2.2.2.2.1 g.2.2.2.2.2.2.1 g.2.1.Maps) ∧ (SlO w' w.heap.size encAway 2 57 g.2.2.2.2.2.2.2.1 g.2.2.2.2.2.2.2.2.1 g.2.2.2.2.2.2.2.2.2 g.2.1.Away) ∧ (¬ g.2.2.2.2.1 = some ⟨gc, 0, none⟩) ∧ (¬ g.2.2.2.2.1 = some ⟨g1, 0, none⟩) ∧ (¬ g.2.2.2.2.1 = some ⟨g24, 0, none⟩) ∧ (∀ b_, g.2.2.2.2.1 = some ⟨b_, 0, none⟩ → ¬ g.2.2.2.2.2.2.2.1 = some ⟨b_, 0, none⟩) ∧ (¬ g.2.2.2.2.2.2.2.1 = some ⟨gc, 0, none⟩) ∧ (¬ g.2.2.2.2.2.2.2.1 = some ⟨g1, 0, none⟩) ∧ (¬ g.2.2.2.2.2.2.2.1 = some ⟨g24, 0, none⟩) ∧ ((0 ≤ g.1 ∧ g.1 ≤ 35) ∧ LibOK g.2.1 ∧ tc ≤ g.2.2.1 ∧ g.2.2.1 ≤ tc + 4 + 20 * (35 - g.1))) (fun g => g.1.toNat) (v47, (⟨([] : List LMap), ([] : List Away), 0, 0, 0⟩ : Library), t48, s49, (pA g9), 0, 0, (pA g16), 0, 0) ?_ ?_ ?_
  · exact ⟨rfl, rfl, rfl, rfl, trivial⟩
  · show (Kp (fun b_ => b_ = gc) w w45) ∧ (Blk w45 gc ec [.slice Ac nc cc, .int .i64 t48, .int .u64 s49]) ∧ (SlR w45 Bc encB 1 Ac nc cc Lc) ∧ (Blk w45 g1 27 [.slice none 0 0, .slice none 0 0, .int .i64 0, .int .i64 0, .int .i64 0]) ∧ (Blk w45 g24 27 [.slice (pA g9) 0 0, .slice (pA g16) 0 0, .int .i64 ((⟨([] : List LMap), ([] : List Away), 0, 0, 0⟩ : Library).Bought), .int .i64 ((⟨([] : List LMap), ([] : List Away), 0, 0, 0⟩ : Library).Dropped), .int .i64 ((⟨([] : List LMap), ([] : List Away), 0, 0, 0⟩ : Library).Mended)]) ∧ (SlO w45 w.heap.size encLMap 3 48 (pA g9) 0 0 ((⟨([] : List LMap), ([] : List Away), 0, 0, 0⟩ : Library).Maps)) ∧ (SlO w45 w.heap.size encAway 2 57 (pA g16) 0 0 ((⟨([] : List LMap), ([] : List Away), 0, 0, 0⟩ : Library).Away)) ∧ (¬ (pA g9) = some ⟨gc, 0, none⟩) ∧ (¬ (pA g9) = some ⟨g1, 0, none⟩) ∧ (¬ (pA g9) = some ⟨g24, 0, none⟩) ∧ (∀ b_, (pA g9) = some ⟨b_, 0, none⟩ → ¬ (pA g16) = some ⟨b_, 0, none⟩) ∧ (¬ (pA g16) = some ⟨gc, 0, none⟩) ∧ (¬ (pA g16) = some ⟨g1, 0, none⟩) ∧ (¬ (pA g16) = some ⟨g24, 0, none⟩) ∧ ((0 ≤ v47 ∧ v47 ≤ 35) ∧ LibOK (⟨([] : List LMap), ([] : List Away), 0, 0, 0⟩ : Library) ∧ tc ≤ t48 ∧ t48 ≤ tc + 4 + 20 * (35 - v47))
    exact ⟨hB54, (hb50), (hm41).kn hk46 (by omega), (hm42).kn hk46 (by omega), ((hb37).kn hk46 (by omega)), (SlO.eqv (((hm43).kn hk46 (by omega)).down (by omega)) (by rfl)), (SlO.eqv (((hm44).kn hk46 (by omega)).down (by omega)) (by rfl)), (fun e' => by have := ((hm43).kn hk46 (by omega)).base_le e'; omega), (fun e' => by have := ((hm43).kn hk46 (by omega)).base_le e'; omega), hd32, (fun b_ h h' => hd23 (h.trans h'.symm)), (fun e' => by have := ((hm44).kn hk46 (by omega)).base_le e'; omega), (fun e' => by have := ((hm44).kn hk46 (by omega)).base_le e'; omega), hd33, (by exact ⟨by omega, nil_lib, by omega, by omega⟩)⟩
  · rintro ⟨n, o, t, z, A55, n55, c55, A56, n56, c56⟩ f57 w58 hP60
    obtain ⟨hB59, hm61, hm62, hm63, hm64, hO65, hO66, hd68, hd69, hd70, hd71, hd72, hd73, hd74, hi67⟩ : (Kp (fun b_ => b_ = gc) w w58) ∧ (Blk w58 gc ec [.slice Ac nc cc, .int .i64 t, .int .u64 z]) ∧ (SlR w58 Bc encB 1 Ac nc cc Lc) ∧ (Blk w58 g1 27 [.slice none 0 0, .slice none 0 0, .int .i64 0, .int .i64 0, .int .i64 0]) ∧ (Blk w58 g24 27 [.slice A55 n55 c55, .slice A56 n56 c56, .int .i64 o.Bought, .int .i64 o.Dropped, .int .i64 o.Mended]) ∧ (SlO w58 w.heap.size encLMap 3 48 A55 n55 c55 o.Maps) ∧ (SlO w58 w.heap.size encAway 2 57 A56 n56 c56 o.Away) ∧ (¬ A55 = some ⟨gc, 0, none⟩) ∧ (¬ A55 = some ⟨g1, 0, none⟩) ∧ (¬ A55 = some ⟨g24, 0, none⟩) ∧ (∀ b_, A55 = some ⟨b_, 0, none⟩ → ¬ A56 = some ⟨b_, 0, none⟩) ∧ (¬ A56 = some ⟨gc, 0, none⟩) ∧ (¬ A56 = some ⟨g1, 0, none⟩) ∧ (¬ A56 = some ⟨g24, 0, none⟩) ∧ ((0 ≤ n ∧ n ≤ 35) ∧ LibOK o ∧ tc ≤ t ∧ t ≤ tc + 4 + 20 * (35 - n)) := hP60
    refine (?_ : W _ _ _ _ _ (act _ (sets f57 [(0, .pointer (pA gc)), (2, .pointer (pA g1)), (3, .pointer (pA g24)), (4, .int .i64 n)])) _)
    have hzw58 := hB59.size
    have hl75 := hm61.lt
    have hl76 := hm63.lt
    have hl77 := hm64.lt
    have hl78 := hO65.len
    have hl79 := hO65.rd.bound
    have hl80 := hO66.len
    have hl81 := hO66.rd.bound
    have hq82 : LibOK o := hi67.2.1
    have hq83 : (o.Maps.length ≤ 8 ∧ o.Away.length ≤ 8) ∧ (0 ≤ o.Bought ∧ o.Bought ≤ 9999) := lib_bought hi67.2.1
    have hq84 : MapB o.Maps := MapB.of hi67.2.1.1.1
    have hq85 : (0 ≤ n ∧ n ≤ 35) ∧ tc ≤ t ∧ t ≤ tc + 4 + 20 * (35 - n) := And.intro hi67.1 hi67.2.2
    refine W.seq ?_
    refine W.seq ?_
    refine W.regS (SR.q' (r_mv (v := .int .i64 _) rfl) <| SR.q' (r_gt rfl rfl) <| SR.nil ?_)
    refine W.cond_d rfl (fun h86 => ?_) (fun h86 => ?_)
    · refine W.skip ?_
      refine W.seq ?_
      refine W.block ?_
      refine W.seq ?_
      refine W.regA (Kp (fun b_ => b_ = gc) w58) (fun f' w' => ∃ (v109 : LibraryStep) (t110 : Int) (s111 : Int) (A121 : Option Addr) (n122 : Nat) (c123 : Nat) (A125 : Option Addr) (n126 : Nat) (c127 : Nat) (g147 : Nat), At f' [(0, .pointer (pA gc)), (2, .pointer (pA g1)), (3, .pointer (pA g24)), (4, .int .i64 n), (5, .pointer (pA g147)), (6, .bool ((spec_StepLibrary o v109).2))] ∧ (Kp (fun b_ => b_ = gc) w58 w') ∧ (SlO w' w58.heap.size encLMap 3 48 A121 n122 c123 (((spec_StepLibrary o v109).1).Maps)) ∧ (SlO w' w58.heap.size encAway 2 57 A125 n126 c127 (((spec_StepLibrary o v109).1).Away)) ∧ (Blk w' g147 27 [.slice A121 n122 c123, .slice A125 n126 c127, .int .i64 (((spec_StepLibrary o v109).1).Bought), .int .i64 (((spec_StepLibrary o v109).1).Dropped), .int .i64 (((spec_StepLibrary o v109).1).Mended)]) ∧ (w58.heap.size ≤ g147 ∧ g147 < w'.heap.size) ∧ (Blk w' gc ec [.slice Ac nc cc, .int .i64 t110, .int .u64 s111]) ∧ (¬ A55 = some ⟨g147, 0, none⟩) ∧ (¬ A56 = some ⟨g147, 0, none⟩) ∧ (¬ A121 = some ⟨g147, 0, none⟩) ∧ (¬ A125 = some ⟨g147, 0, none⟩) ∧ (∀ b_, A121 = some ⟨b_, 0, none⟩ → ¬ A55 = some ⟨b_, 0, none⟩) ∧ (∀ b_, A121 = some ⟨b_, 0, none⟩ → ¬ A56 = some ⟨b_, 0, none⟩) ∧ (∀ b_, A121 = some ⟨b_, 0, none⟩ → ¬ A125 = some ⟨b_, 0, none⟩) ∧ (∀ b_, A125 = some ⟨b_, 0, none⟩ → ¬ A55 = some ⟨b_, 0, none⟩) ∧ (∀ b_, A125 = some ⟨b_, 0, none⟩ → ¬ A56 = some ⟨b_, 0, none⟩) ∧ (t ≤ t110 ∧ t110 ≤ t + 20) ∧ (v109.Value ≤ 9223372036854775807) ∧ (n122 = (((spec_StepLibrary o v109).1).Maps).length) ∧ ((n122 : Int) ≤ 9223372036854775807) ∧ ((((spec_StepLibrary o v109).1).Maps).length ≤ 8) ∧ (n126 = (((spec_StepLibrary o v109).1).Away).length) ∧ ((n126 : Int) ≤ 9223372036854775807) ∧ ((((spec_StepLibrary o v109).1).Away).length ≤ 8)) mo ?_ ?_
      · intro w258 hk259
        have hz260 := hk259.size
        have hB261 := hB59.lo hk259
        refine AH.via #[true, true, true, true, true, true, true, true, true, false, false] 2 (fun f' w' => ∃ (v109 : LibraryStep) (t110 : Int) (s111 : Int) (A121 : Option Addr) (n122 : Nat) (c123 : Nat) (A125 : Option Addr) (n126 : Nat) (c127 : Nat) (g147 : Nat), At f' [(0, .pointer (pA gc)), (2, .pointer (pA g1)), (3, .pointer (pA g24)), (4, .int .i64 n), (5, .pointer (pA g147)), (22, .agg (List.toArray [.slice A121 n122 c123, .slice A125 n126 c127, .int .i64 (((spec_StepLibrary o v109).1).Bought), .int .i64 (((spec_StepLibrary o v109).1).Dropped), .int .i64 (((spec_StepLibrary o v109).1).Mended)])), (23, .bool ((spec_StepLibrary o v109).2))] ∧ (Kp (fun b_ => b_ = gc) w58 w') ∧ (SlO w' w58.heap.size encLMap 3 48 A121 n122 c123 (((spec_StepLibrary o v109).1).Maps)) ∧ (SlO w' w58.heap.size encAway 2 57 A125 n126 c127 (((spec_StepLibrary o v109).1).Away)) ∧ (Blk w' g147 27 [.slice none 0 0, .slice none 0 0, .int .i64 0, .int .i64 0, .int .i64 0]) ∧ (w58.heap.size ≤ g147 ∧ g147 < w'.heap.size) ∧ (Blk w' gc ec [.slice Ac nc cc, .int .i64 t110, .int .u64 s111]) ∧ (¬ A55 = some ⟨g147, 0, none⟩) ∧ (¬ A56 = some ⟨g147, 0, none⟩) ∧ (¬ A121 = some ⟨g147, 0, none⟩) ∧ (¬ A125 = some ⟨g147, 0, none⟩) ∧ (∀ b_, A121 = some ⟨b_, 0, none⟩ → ¬ A55 = some ⟨b_, 0, none⟩) ∧ (∀ b_, A121 = some ⟨b_, 0, none⟩ → ¬ A56 = some ⟨b_, 0, none⟩) ∧ (∀ b_, A121 = some ⟨b_, 0, none⟩ → ¬ A125 = some ⟨b_, 0, none⟩) ∧ (∀ b_, A125 = some ⟨b_, 0, none⟩ → ¬ A55 = some ⟨b_, 0, none⟩) ∧ (∀ b_, A125 = some ⟨b_, 0, none⟩ → ¬ A56 = some ⟨b_, 0, none⟩) ∧ (t ≤ t110 ∧ t110 ≤ t + 20) ∧ (v109.Value ≤ 9223372036854775807) ∧ (n122 = (((spec_StepLibrary o v109).1).Maps).length) ∧ ((n122 : Int) ≤ 9223372036854775807) ∧ ((((spec_StepLibrary o v109).1).Maps).length ≤ 8) ∧ (n126 = (((spec_StepLibrary o v109).1).Away).length) ∧ ((n126 : Int) ≤ 9223372036854775807) ∧ ((((spec_StepLibrary o v109).1).Away).length ≤ 8)) ?_ (fun hn262 => ?_)
        · rintro f263 w264 ⟨v109, t110, s111, A121, n122, c123, A125, n126, c127, g147, hat266, hR265, hm160, hm161, hm162, hg163, hm164, hd165, hd166, hd167, hd168, hd169, hd170, hd171, hd172, hd173, ht113, hq114, hl133, hl134, hq135, hl136, hl137, hq138⟩
          rw [← sets_of_at hat266]
          have hz267 := hR265.size
          have hB268 := hB59.step hR265 (fun i_ hi_ e' => e')
          refine AH.br [9] (by kernel_rfl) rfl ⟨Br.mk' rfl trivial ?_, trivial⟩
          refine SR.store (o := 0) (vs := [.slice A121 n122 c123, .slice A125 n126 c127, .int .i64 (((spec_StepLibrary o v109).1).Bought), .int .i64 (((spec_StepLibrary o v109).1).Dropped), .int .i64 (((spec_StepLibrary o v109).1).Mended)]) agg27.2 rfl rfl rfl rfl (hm162) (Nat.le_of_ble_eq_true rfl) rfl ?_
          intro w269 hk270 hs271 hb272
          have hz273 := hk270.size
          have hB274 := hB268.new hk270 (by omega)
          have hS275 := (hR265).new hk270 (by omega)
          refine SR.nil ⟨hS275, _, rfl, ?_⟩
          refine AH.take 10 rfl (by kernel_rfl) trivial (hS275) (fun w' hw' => r_as (v := .bool _) rfl) <| AH.done (by kernel_rfl) ?_
          exact ⟨v109, t110, s111, A121, n122, c123, A125, n126, c127, g147, ⟨rfl, rfl, rfl, rfl, rfl, rfl, trivial⟩, hS275, (((hm160).kd hk270 hd167).down (by omega)), (((hm161).kd hk270 hd168).down (by omega)), (hb272), ⟨by omega, (hb272).lt⟩, ((hm164).kn hk270 (by omega)), hd165, hd166, hd167, hd168, hd169, hd170, hd171, hd172, hd173, ht113, hq114, hl133, hl134, hq135, hl136, hl137, hq138⟩
        refine AH.via #[true, true, true, true, false, false, false, false, true, false, false] 6 (fun f' w' => ∃ (v109 : LibraryStep) (t110 : Int) (s111 : Int) (g195 : Nat), At f' [(0, .pointer (pA gc)), (2, .pointer (pA g1)), (3, .pointer (pA g24)), (4, .int .i64 n), (5, .pointer (pA g195)), (17, .agg (List.toArray [.slice A55 n55 c55, .slice A56 n56 c56, .int .i64 o.Bought, .int .i64 o.Dropped, .int .i64 o.Mended])), (20, .agg (List.toArray [.int .i64 v109.Kind, .int .i64 v109.Id, .int .i64 v109.Reader, .int .i64 v109.Value]))] ∧ (Kp (fun b_ => b_ = gc) w58 w') ∧ (Blk w' g195 27 [.slice none 0 0, .slice none 0 0, .int .i64 0, .int .i64 0, .int .i64 0]) ∧ (w58.heap.size ≤ g195 ∧ g195 < w'.heap.size) ∧ (Blk w' gc ec [.slice Ac nc cc, .int .i64 t110, .int .u64 s111]) ∧ (¬ A55 = some ⟨g195, 0, none⟩) ∧ (¬ A56 = some ⟨g195, 0, none⟩) ∧ (t ≤ t110 ∧ t110 ≤ t + 20) ∧ (v109.Value ≤ 9223372036854775807)) ?_ (fun hn286 => ?_)
        · rintro f287 w288 ⟨v109, t110, s111, g195, hat290, hR289, hm206, hg207, hm208, hd209, hd210, ht113, hq114⟩
          rw [← sets_of_at hat290]
          have hz291 := hR289.size
          have hB292 := hB59.step hR289 (fun i_ hi_ e' => e')
          refine AH.br [4] (by kernel_rfl) rfl ⟨Br.mk' rfl trivial ?_, trivial⟩
          refine SR.call ent40 (c_spec_StepLibrary w288 o ((((hO65).kd hR289 hd68).rd)) ((((hO66).kd hR289 hd72).rd)) v109) rfl ?_
          rintro e w293 ⟨A295, n296, c297, A299, n300, c301, rfl, hO298, hO302, hd303, hk294⟩
          refine ⟨_, rfl, ?_⟩
          have hz304 := hk294.size
          have hB305 := hB292.lo hk294
          have hS306 := (hR289).lo hk294
          have hl307 := hO298.len
          have hl308 := hO298.rd.bound
          have hq309 := step_lenMS o v109
          have hl310 := hO302.len
          have hl311 := hO302.rd.bound
          have hq312 := step_lenAS o v109
          refine SR.nil ⟨hS306, _, rfl, ?_⟩
          refine AH.take 5 rfl (by kernel_rfl) trivial (hS306) (fun w' hw' => r_mv (v := .tuple (List.toArray _)) rfl) <| AH.take 6 rfl (by kernel_rfl) trivial (hS306) (fun w' hw' => r_ext (v := .agg (List.toArray _)) rfl rfl) <| AH.take 7 rfl (by kernel_rfl) trivial (hS306) (fun w' hw' => r_ext (v := .bool _) rfl rfl) <| AH.goto (by kernel_rfl) rfl (hn262 _ _ ?_)
          exact ⟨v109, t110, s111, A295, n296, c297, A299, n300, c301, g195, ⟨rfl, rfl, rfl, rfl, rfl, rfl, rfl, trivial⟩, hS306, ((hO298).down (by omega)), ((hO302).down (by omega)), ((hm206).lo hk294), ⟨by omega, ((hm206).lo hk294).lt⟩, ((hm208).lo hk294), hd209, hd210, (fun e' => by have := (hO298).base_le e'; omega), (fun e' => by have := (hO302).base_le e'; omega), (fun b_ h h' => by have h1 := (hO298).base_le h; have h2 := ((hO65).kd hR289 hd68).base_le h'; omega), (fun b_ h h' => by have h1 := (hO298).base_le h; have h2 := ((hO66).kd hR289 hd72).base_le h'; omega), hd303, (fun b_ h h' => by have h1 := (hO302).base_le h; have h2 := ((hO65).kd hR289 hd68).base_le h'; omega), (fun b_ h h' => by have h1 := (hO302).base_le h; have h2 := ((hO66).kd hR289 hd72).base_le h'; omega), ht113, hq114, hl307, hl308, hq309, hl310, hl311, hq312⟩
        refine AH.take 0 rfl (by kernel_rfl) trivial ((Kp.refl w58 : Kp (fun b_ => b_ = gc) w58 w58).lo hk259) (fun w' hw' => r_lda (l := [.slice A55 n55 c55, .slice A56 n56 c56, .int .i64 o.Bought, .int .i64 o.Dropped, .int .i64 o.Mended]) agg27 rfl (fun _ _ hu => ((hm64).kn hw' (by omega)).cell hu) rfl) <| AH.take 1 rfl (by kernel_rfl) trivial ((Kp.refl w58 : Kp (fun b_ => b_ = gc) w58 w58).lo hk259) (fun w' hw' => r_mv (v := .pointer (some _)) rfl) <| AH.take 2 rfl (by kernel_rfl) trivial ((Kp.refl w58 : Kp (fun b_ => b_ = gc) w58 w58).lo hk259) (fun w' hw' => r_lda (l := [.slice A55 n55 c55, .slice A56 n56 c56, .int .i64 o.Bought, .int .i64 o.Dropped, .int .i64 o.Mended]) agg27 rfl (fun _ _ hu => ((hm64).kn hw' (by omega)).cell hu) rfl) <| AH.br [3, 8] (by kernel_rfl) rfl ⟨Br.mk' rfl trivial ?_, Br.mk' rfl trivial ?_, trivial⟩
        · refine SR.call ent41 (c___spec_l1Cur__libraryStep w258 Lc t z ((hm61).lo hk259) (((hm62).lo hk259)) (by omega) (by omega) o ((((hO65).lo hk259).rd)) ((((hO66).lo hk259).rd)) (by omega) (by first | assumption | exact MapB.of (And.left (And.left ‹LibOK _›)) | exact MapB.app (MapB.of (And.left (And.left ‹LibOK _›))) (by first | omega | (dsimp only; omega)) | exact MapB.nil) (((hO65).lo hk259).apart hd68) (((hO66).lo hk259).apart hd72)) rfl ?_
          rintro e w323 ⟨v325, t326, s327, rfl, hb328, ht329, hq330, hk324⟩
          refine ⟨_, rfl, ?_⟩
          have hz331 := hk324.size
          have hB332 := hB261.step hk324 (fun i_ hi_ e' => e')
          have hS333 := ((Kp.refl w58 : Kp (fun b_ => b_ = gc) w58 w58).lo hk259).step hk324 (fun _ _ e => e)
          refine SR.nil ⟨hS333, _, rfl, ?_⟩
          refine AH.br [4, 8] (by kernel_rfl) rfl ⟨Br.mk' rfl trivial ?_, Br.mk' rfl trivial ?_, trivial⟩
          · refine SR.call ent40 (c_spec_StepLibrary w323 o (((((hO65).lo hk259).kd hk324 hd68).rd)) (((((hO66).lo hk259).kd hk324 hd72).rd)) v325) rfl ?_
            rintro e w334 ⟨A336, n337, c338, A340, n341, c342, rfl, hO339, hO343, hd344, hk335⟩
            refine ⟨_, rfl, ?_⟩
            have hz345 := hk335.size
            have hB346 := hB332.lo hk335
            have hS347 := (hS333).lo hk335
            have hl348 := hO339.len
            have hl349 := hO339.rd.bound
            have hq350 := step_lenMS o v325
            have hl351 := hO343.len
            have hl352 := hO343.rd.bound
            have hq353 := step_lenAS o v325
            refine SR.nil ⟨hS347, _, rfl, ?_⟩
            refine AH.take 5 rfl (by kernel_rfl) trivial (hS347) (fun w' hw' => r_mv (v := .tuple (List.toArray _)) rfl) <| AH.take 6 rfl (by kernel_rfl) trivial (hS347) (fun w' hw' => r_ext (v := .agg (List.toArray _)) rfl rfl) <| AH.take 7 rfl (by kernel_rfl) trivial (hS347) (fun w' hw' => r_ext (v := .bool _) rfl rfl) <| AH.br [8] (by kernel_rfl) rfl ⟨Br.mk' rfl trivial ?_, trivial⟩
            refine SR.alloc (l := [.slice none 0 0, .slice none 0 0, .int .i64 0, .int .i64 0, .int .i64 0]) tz27 rfl ?_
            intro g354 w355 hg356 hk357 hs358 hb359
            have hz360 := hk357.size
            have hB361 := hB346.lo hk357
            have hS362 := (hS347).lo hk357
            have hd363 : ¬ A55 = some ⟨g354, 0, none⟩ := fun e' => by have := ((((hO65).lo hk259).kd hk324 hd68).lo hk335).base_le e'; omega
            have hd364 : ¬ A56 = some ⟨g354, 0, none⟩ := fun e' => by have := ((((hO66).lo hk259).kd hk324 hd72).lo hk335).base_le e'; omega
            have hd365 : ¬ A336 = some ⟨g354, 0, none⟩ := fun e' => by have := (hO339).base_le e'; omega
            have hd366 : ¬ A340 = some ⟨g354, 0, none⟩ := fun e' => by have := (hO343).base_le e'; omega
            refine SR.nil ⟨hS362, _, rfl, ?_⟩
            refine AH.goto (by kernel_rfl) rfl (hn262 _ _ ?_)
            exact ⟨v325, t326, s327, A336, n337, c338, A340, n341, c342, g354, ⟨rfl, rfl, rfl, rfl, rfl, rfl, rfl, trivial⟩, hS362, (((hO339).lo hk357).down (by omega)), (((hO343).lo hk357).down (by omega)), (hb359), ⟨by omega, (hb359).lt⟩, (((hb328).lo hk335).lo hk357), hd363, hd364, hd365, hd366, (fun b_ h h' => by have h1 := ((hO339).lo hk357).base_le h; have h2 := (((hO65).lo hk259).kd hk324 hd68).base_le h'; omega), (fun b_ h h' => by have h1 := ((hO339).lo hk357).base_le h; have h2 := (((hO66).lo hk259).kd hk324 hd72).base_le h'; omega), hd344, (fun b_ h h' => by have h1 := ((hO343).lo hk357).base_le h; have h2 := (((hO65).lo hk259).kd hk324 hd68).base_le h'; omega), (fun b_ h h' => by have h1 := ((hO343).lo hk357).base_le h; have h2 := (((hO66).lo hk259).kd hk324 hd72).base_le h'; omega), ht329, hq330, hl348, hl349, hq350, hl351, hl352, hq353⟩
          · refine SR.alloc (l := [.slice none 0 0, .slice none 0 0, .int .i64 0, .int .i64 0, .int .i64 0]) tz27 rfl ?_
            intro g377 w378 hg379 hk380 hs381 hb382
            have hz383 := hk380.size
            have hB384 := hB332.lo hk380
            have hS385 := (hS333).lo hk380
            have hd386 : ¬ A55 = some ⟨g377, 0, none⟩ := fun e' => by have := (((hO65).lo hk259).kd hk324 hd68).base_le e'; omega
            have hd387 : ¬ A56 = some ⟨g377, 0, none⟩ := fun e' => by have := (((hO66).lo hk259).kd hk324 hd72).base_le e'; omega
            refine SR.nil ⟨hS385, _, rfl, ?_⟩
            refine AH.goto (by kernel_rfl) rfl (hn286 _ _ ?_)
            exact ⟨v325, t326, s327, g377, ⟨rfl, rfl, rfl, rfl, rfl, rfl, rfl, trivial⟩, hS385, (hb382), ⟨by omega, (hb382).lt⟩, ((hb328).lo hk380), hd386, hd387, ht329, hq330⟩
        · refine SR.alloc (l := [.slice none 0 0, .slice none 0 0, .int .i64 0, .int .i64 0, .int .i64 0]) tz27 rfl ?_
          intro g391 w392 hg393 hk394 hs395 hb396
          have hz397 := hk394.size
          have hB398 := hB261.lo hk394
          have hS399 := ((Kp.refl w58 : Kp (fun b_ => b_ = gc) w58 w58).lo hk259).lo hk394
          have hd400 : ¬ A55 = some ⟨g391, 0, none⟩ := fun e' => by have := ((hO65).lo hk259).base_le e'; omega
          have hd401 : ¬ A56 = some ⟨g391, 0, none⟩ := fun e' => by have := ((hO66).lo hk259).base_le e'; omega
          refine SR.nil ⟨hS399, _, rfl, ?_⟩
          refine AH.br [3] (by kernel_rfl) rfl ⟨Br.mk' rfl trivial ?_, trivial⟩
          refine SR.call ent41 (c___spec_l1Cur__libraryStep w392 Lc t z (((hm61).lo hk259).lo hk394) ((((hm62).lo hk259).lo hk394)) (by omega) (by omega) o (((((hO65).lo hk259).lo hk394).rd)) (((((hO66).lo hk259).lo hk394).rd)) (by omega) (by first | assumption | exact MapB.of (And.left (And.left ‹LibOK _›)) | exact MapB.app (MapB.of (And.left (And.left ‹LibOK _›))) (by first | omega | (dsimp only; omega)) | exact MapB.nil) ((((hO65).lo hk259).lo hk394).apart hd68) ((((hO66).lo hk259).lo hk394).apart hd72)) rfl ?_
          rintro e w402 ⟨v404, t405, s406, rfl, hb407, ht408, hq409, hk403⟩
          refine ⟨_, rfl, ?_⟩
          have hz410 := hk403.size
          have hB411 := hB398.step hk403 (fun i_ hi_ e' => e')
          have hS412 := (hS399).step hk403 (fun _ _ e => e)
          refine SR.nil ⟨hS412, _, rfl, ?_⟩
          refine AH.goto (by kernel_rfl) rfl (hn286 _ _ ?_)
          exact ⟨v404, t405, s406, g391, ⟨rfl, rfl, rfl, rfl, rfl, rfl, rfl, trivial⟩, hS412, ((hb396).kn hk403 (by omega)), ⟨by omega, ((hb396).kn hk403 (by omega)).lt⟩, (hb407), hd400, hd401, ht408, hq409⟩
      rintro f416 w417 ⟨v109, t110, s111, A121, n122, c123, A125, n126, c127, g147, hat419, hR418, hm181, hm182, hm183, hg184, hm185, hd186, hd187, hd188, hd189, hd190, hd191, hd192, hd193, hd194, ht113, hq114, hl133, hl134, hq135, hl136, hl137, hq138⟩
      rw [← sets_of_at hat419]
      have hz420 := hR418.size
      have hB421 := hB59.step hR418 (fun i_ hi_ e' => e')
      refine W.seq ?_
      refine W.regS (SR.q' (r_mv (v := .bool _) rfl) <| SR.nil ?_)
      refine W.cond_b rfl (fun h422 => ?_) (fun h422 => ?_)
      · refine W.regS (SR.q' (r_lda (l := [.slice A121 n122 c123, .slice A125 n126 c127, .int .i64 (((spec_StepLibrary o v109).1).Bought), .int .i64 (((spec_StepLibrary o v109).1).Dropped), .int .i64 (((spec_StepLibrary o v109).1).Mended)]) agg27 rfl (fun _ _ hu => (hm183).cell hu) rfl) <| SR.store (o := 0) (vs := [.slice A121 n122 c123, .slice A125 n126 c127, .int .i64 (((spec_StepLibrary o v109).1).Bought), .int .i64 (((spec_StepLibrary o v109).1).Dropped), .int .i64 (((spec_StepLibrary o v109).1).Mended)]) agg27.2 rfl rfl rfl rfl ((hm64).kn hR418 (by omega)) (Nat.le_of_ble_eq_true rfl) rfl ?_)
        intro w423 hk424 hs425 hb426
        have hz427 := hk424.size
        have hB428 := hB421.new hk424 (by omega)
        refine SR.nil ?_
        have hm429 := ((hm62).kn hR418 (by omega)).kn hk424 (by omega)
        have hm430 := ((hm63).kn hR418 (by omega)).kn hk424 (by omega)
        refine W.regS (SR.q' (r_mv (v := .int .i64 _) rfl) <| SR.q' (r_sub rfl rfl (by omega)) <| SR.q' (r_as (v := .int .i64 _) rfl) <| SR.nil ?_)
        refine ⟨(n - 1, ((spec_StepLibrary o v109).1), t110, s111, A121, n122, c123, A125, n126, c127), _, rfl, ⟨rfl, rfl, rfl, rfl, trivial⟩, (show (Kp (fun b_ => b_ = gc) w w423) ∧ (Blk w423 gc ec [.slice Ac nc cc, .int .i64 t110, .int .u64 s111]) ∧ (SlR w423 Bc encB 1 Ac nc cc Lc) ∧ (Blk w423 g1 27 [.slice none 0 0, .slice none 0 0, .int .i64 0, .int .i64 0, .int .i64 0]) ∧ (Blk w423 g24 27 [.slice A121 n122 c123, .slice A125 n126 c127, .int .i64 (((spec_StepLibrary o v109).1).Bought), .int .i64 (((spec_StepLibrary o v109).1).Dropped), .int .i64 (((spec_StepLibrary o v109).1).Mended)]) ∧ (SlO w423 w.heap.size encLMap 3 48 A121 n122 c123 (((spec_StepLibrary o v109).1).Maps)) ∧ (SlO w423 w.heap.size encAway 2 57 A125 n126 c127 (((spec_StepLibrary o v109).1).Away)) ∧ (¬ A121 = some ⟨gc, 0, none⟩) ∧ (¬ A121 = some ⟨g1, 0, none⟩) ∧ (¬ A121 = some ⟨g24, 0, none⟩) ∧ (∀ b_, A121 = some ⟨b_, 0, none⟩ → ¬ A125 = some ⟨b_, 0, none⟩) ∧ (¬ A125 = some ⟨gc, 0, none⟩) ∧ (¬ A125 = some ⟨g1, 0, none⟩) ∧ (¬ A125 = some ⟨g24, 0, none⟩) ∧ ((0 ≤ n - 1 ∧ n - 1 ≤ 35) ∧ LibOK ((spec_StepLibrary o v109).1) ∧ tc ≤ t110 ∧ t110 ≤ tc + 4 + 20 * (35 - (n - 1))) from ⟨hB428, ((hm185).kn hk424 (by omega)), hm429, hm430, (hb426), (((hm181).kn hk424 (by omega)).down (by omega)), (((hm182).kn hk424 (by omega)).down (by omega)), (fun e' => by have := ((hm181).kn hk424 (by omega)).base_le e'; omega), (fun e' => by have := ((hm181).kn hk424 (by omega)).base_le e'; omega), (fun e' => by have := ((hm181).kn hk424 (by omega)).base_le e'; omega), hd192, (fun e' => by have := ((hm182).kn hk424 (by omega)).base_le e'; omega), (fun e' => by have := ((hm182).kn hk424 (by omega)).base_le e'; omega), (fun e' => by have := ((hm182).kn hk424 (by omega)).base_le e'; omega), ?_⟩), ?_⟩
        · exact (by first | exact ⟨by omega, spec_okL ‹(spec_StepLibrary _ _).2 = true›, by omega, by omega⟩ | exact ⟨by omega, ‹LibOK _›, by omega, by omega⟩)
        · exact (by omega)
      · refine W.skip ?_
        refine W.regS (SR.q' (r_mv (v := .int .i64 _) rfl) <| SR.q' (r_sub rfl rfl (by omega)) <| SR.q' (r_as (v := .int .i64 _) rfl) <| SR.nil ?_)
        refine ⟨(n - 1, o, t110, s111, A55, n55, c55, A56, n56, c56), _, rfl, ⟨rfl, rfl, rfl, rfl, trivial⟩, (show (Kp (fun b_ => b_ = gc) w w417) ∧ (Blk w417 gc ec [.slice Ac nc cc, .int .i64 t110, .int .u64 s111]) ∧ (SlR w417 Bc encB 1 Ac nc cc Lc) ∧ (Blk w417 g1 27 [.slice none 0 0, .slice none 0 0, .int .i64 0, .int .i64 0, .int .i64 0]) ∧ (Blk w417 g24 27 [.slice A55 n55 c55, .slice A56 n56 c56, .int .i64 o.Bought, .int .i64 o.Dropped, .int .i64 o.Mended]) ∧ (SlO w417 w.heap.size encLMap 3 48 A55 n55 c55 o.Maps) ∧ (SlO w417 w.heap.size encAway 2 57 A56 n56 c56 o.Away) ∧ (¬ A55 = some ⟨gc, 0, none⟩) ∧ (¬ A55 = some ⟨g1, 0, none⟩) ∧ (¬ A55 = some ⟨g24, 0, none⟩) ∧ (∀ b_, A55 = some ⟨b_, 0, none⟩ → ¬ A56 = some ⟨b_, 0, none⟩) ∧ (¬ A56 = some ⟨gc, 0, none⟩) ∧ (¬ A56 = some ⟨g1, 0, none⟩) ∧ (¬ A56 = some ⟨g24, 0, none⟩) ∧ ((0 ≤ n - 1 ∧ n - 1 ≤ 35) ∧ LibOK o ∧ tc ≤ t110 ∧ t110 ≤ tc + 4 + 20 * (35 - (n - 1))) from ⟨hB421, (hm185), (hm62).kn hR418 (by omega), (hm63).kn hR418 (by omega), ((hm64).kn hR418 (by omega)), ((hO65).kd hR418 hd68), ((hO66).kd hR418 hd72), hd68, hd69, hd70, hd71, hd72, hd73, hd74, ?_⟩), ?_⟩
        · exact (by first | exact ⟨by omega, spec_okL ‹(spec_StepLibrary _ _).2 = true›, by omega, by omega⟩ | exact ⟨by omega, ‹LibOK _›, by omega, by omega⟩)
        · exact (by omega)
    · refine W.exit (xin_here ?_)
      refine W.seq ?_
      refine W.seq ?_
      refine W.regS (SR.q' (r_mv (v := .pointer (some _)) rfl) <| SR.call ent25 (c___spec_l1Cur__pick w58 Lc t z (hm61) ((hm62)) (by omega) (by omega) 32 (by first | omega | (simp only [List.length_append, List.length_cons, List.length_nil, List.length_take, List.length_drop]; omega))) rfl ?_)
      rintro e w431 ⟨v433, t434, s435, rfl, hb436, ht437, hq438, hk432⟩
      refine ⟨_, rfl, ?_⟩
      have hz439 := hk432.size
      have hB440 := hB59.step hk432 (fun i_ hi_ e' => e')
      refine SR.nil ?_
      refine W.block ?_
      refine W.seq ?_
      refine W.regS (SR.q' (r_eq rfl rfl) <| SR.q' (r_as (v := .bool _) rfl) <| SR.nil ?_)
      refine W.cond_d rfl (fun h441 => ?_) (fun h441 => ?_)
      · refine W.regA (Kp (fun b_ => b_ = gc ∨ b_ = g24) w431) (fun f' w' => ∃ (g517 : Nat) (v534 : Int) (t535 : Int) (s536 : Int), At f' [(2, .pointer (pA g1)), (3, .pointer (pA g24))] ∧ (Kp (fun b_ => b_ = gc ∨ b_ = g24) w431 w') ∧ (Blk w' gc ec [.slice Ac nc cc, .int .i64 t535, .int .u64 s536]) ∧ (Blk w' g24 27 [.slice A55 n55 c55, .slice A56 n56 c56, .int .i64 (o.Bought + v534), .int .i64 o.Dropped, .int .i64 o.Mended]) ∧ (t434 ≤ t535 ∧ t535 ≤ t434 + 2) ∧ (v534 ∈ ([1, (-1)] : List Int)) ∧ (((-1) : Int) ≤ v534 ∧ v534 ≤ 1)) mo ?_ ?_
        · intro w584 hk585
          have hz586 := hk585.size
          have hB587 := hB440.lo hk585
          refine AH.via #[true, true, true, true, true, true, true, false] 1 (fun f' w' => ∃ (g517 : Nat) (v534 : Int) (t535 : Int) (s536 : Int), At f' [(2, .pointer (pA g1)), (3, .pointer (pA g24)), (35, .int .i64 (o.Bought + v534)), (36, .pointer (some (((⟨g24, 0, none⟩ : Addr)).add 2)))] ∧ (Kp (fun b_ => b_ = gc ∨ b_ = g24) w431 w') ∧ (Blk w' gc ec [.slice Ac nc cc, .int .i64 t535, .int .u64 s536]) ∧ (Blk w' g24 27 [.slice A55 n55 c55, .slice A56 n56 c56, .int .i64 o.Bought, .int .i64 o.Dropped, .int .i64 o.Mended]) ∧ (t434 ≤ t535 ∧ t535 ≤ t434 + 2) ∧ (v534 ∈ ([1, (-1)] : List Int)) ∧ (((-1) : Int) ≤ v534 ∧ v534 ≤ 1)) ?_ (fun hn588 => ?_)
          · rintro f589 w590 ⟨g517, v534, t535, s536, hat592, hR591, hm544, hm545, ht538, hq539, hq543⟩
            rw [← sets_of_at hat592]
            have hz593 := hR591.size
            have hB594 := hB440.step hR591 (fun i_ hi_ e' => e'.elim (fun e' => e') (fun e' => by have e'' : i_ = g24 := e'; exfalso; omega))
            refine AH.br [7] (by kernel_rfl) rfl ⟨Br.mk' rfl trivial ?_, trivial⟩
            refine SR.store (o := 2) (vs := [.int .i64 (o.Bought + v534)]) sca3.2 rfl rfl rfl rfl (hm545) (Nat.le_of_ble_eq_true rfl) rfl ?_
            intro w595 hk596 hs597 hb598
            have hz599 := hk596.size
            have hB600 := hB594.new hk596 (by omega)
            have hS601 := (hR591).step hk596 (fun _ _ e => .inr (e))
            refine SR.nil ⟨hS601, _, rfl, ?_⟩
            refine AH.done (by kernel_rfl) ?_
            exact ⟨g517, v534, t535, s536, ⟨rfl, rfl, trivial⟩, hS601, ((hm544).kn hk596 (by omega)), (hb598), ht538, hq539, hq543⟩
          refine AH.via #[true, true, true, true, false, false, false, false] 4 (fun f' w' => ∃ (g517 : Nat), At f' [(2, .pointer (pA g1)), (3, .pointer (pA g24)), (31, .int .i64 o.Bought), (32, .pointer (pA gc)), (33, .slice (pA g517) 2 2)] ∧ (Kp (fun b_ => b_ = gc ∨ b_ = g24) w431 w') ∧ (SlO w' w431.heap.size encI 1 3 (pA g517) 2 2 ([1, (-1)] : List Int)) ∧ (Blk w' gc ec [.slice Ac nc cc, .int .i64 t434, .int .u64 s435]) ∧ (Blk w' g24 27 [.slice A55 n55 c55, .slice A56 n56 c56, .int .i64 o.Bought, .int .i64 o.Dropped, .int .i64 o.Mended]) ∧ (∀ b_, (pA g517) = some ⟨b_, 0, none⟩ → ¬ A55 = some ⟨b_, 0, none⟩) ∧ (∀ b_, (pA g517) = some ⟨b_, 0, none⟩ → ¬ A56 = some ⟨b_, 0, none⟩)) ?_ (fun hn602 => ?_)
          · rintro f603 w604 ⟨g517, hat606, hR605, hm527, hm528, hm529, hd530, hd531⟩
            rw [← sets_of_at hat606]
            have hz607 := hR605.size
            have hB608 := hB440.step hR605 (fun i_ hi_ e' => e'.elim (fun e' => e') (fun e' => by have e'' : i_ = g24 := e'; exfalso; omega))
            refine AH.br [4] (by kernel_rfl) rfl ⟨Br.mk' rfl trivial ?_, trivial⟩
            refine SR.call ent26 (c___spec_l1Cur__among w604 Lc t434 s435 (hm528) ((((hm62).kn hk432 (by omega)).kp hR605 (fun b_ hb e' => e'.elim (fun e' => by have e'' : b_ = gc := e'; omega) (fun e' => by have e'' : b_ = g24 := e'; omega)))) (by omega) (by omega) ([1, (-1)] : List Int) (((hm527).rd)) (by omega) (by omega) (show ¬ g517 = gc from by first | omega | (have := (hm527).base_le rfl; omega))) rfl ?_
            rintro e w609 ⟨v611, t612, s613, rfl, hb614, ht615, hq616, hk610⟩
            refine ⟨_, rfl, ?_⟩
            have hz617 := hk610.size
            have hB618 := hB608.step hk610 (fun i_ hi_ e' => e')
            have hS619 := (hR605).step hk610 (fun _ _ e => .inl e)
            have hq620 : ((-1) : Int) ≤ v611 ∧ v611 ≤ 1 := mem_rngB (lo := (-1)) (hi := 1) (by decide) hq616
            refine SR.nil ⟨hS619, _, rfl, ?_⟩
            refine AH.take 5 rfl (by kernel_rfl) trivial (hS619) (fun w' hw' => r_add rfl rfl (by omega)) <| AH.take 6 rfl (by kernel_rfl) trivial (hS619) (fun w' hw' => r_fa fa27_2 rfl) <| AH.goto (by kernel_rfl) rfl (hn588 _ _ ?_)
            exact ⟨g517, v611, t612, s613, ⟨rfl, rfl, rfl, rfl, trivial⟩, hS619, (hb614), ((hm529).kn hk610 (by omega)), ht615, hq616, hq620⟩
          refine AH.take 0 rfl (by kernel_rfl) trivial ((Kp.refl w431 : Kp (fun b_ => b_ = gc ∨ b_ = g24) w431 w431).lo hk585) (fun w' hw' => r_fa fa27_2 rfl) <| AH.take 2 rfl (by kernel_rfl) trivial ((Kp.refl w431 : Kp (fun b_ => b_ = gc ∨ b_ = g24) w431 w431).lo hk585) (fun w' hw' => r_mv (v := .pointer (some _)) rfl) <| AH.br [1, 3] (by kernel_rfl) rfl ⟨Br.mk' rfl trivial ?_, Br.mk' rfl trivial ?_, trivial⟩
          · refine SR.q' (r_ld (v := .int .i64 o.Bought) sca3 rfl ((((hm64).kn hk432 (by omega)).lo hk585).cell rfl)) ?_
            refine SR.nil ⟨(Kp.refl w431 : Kp (fun b_ => b_ = gc ∨ b_ = g24) w431 w431).lo hk585, _, rfl, ?_⟩
            refine AH.br [3] (by kernel_rfl) rfl ⟨Br.mk' rfl trivial ?_, trivial⟩
            refine SR.lit (vs := [.int .i64 1, .int .i64 (-1)]) (L := ([1, (-1)] : List Int)) (enc := encI) tel30 (fun _ => rfl) rfl rfl rfl (by decide) ?_
            intro g621 w622 hg623 hk624 hO625
            have hz626 := hk624.size
            have hB627 := hB587.lo hk624
            have hS628 := ((Kp.refl w431 : Kp (fun b_ => b_ = gc ∨ b_ = g24) w431 w431).lo hk585).lo hk624
            have hd629 : ¬ A55 = some ⟨g621, 0, none⟩ := fun e' => by have := (((hO65).kd hk432 hd68).lo hk585).base_le e'; omega
            have hd630 : ¬ A56 = some ⟨g621, 0, none⟩ := fun e' => by have := (((hO66).kd hk432 hd72).lo hk585).base_le e'; omega
            refine SR.nil ⟨hS628, _, rfl, ?_⟩
            refine AH.goto (by kernel_rfl) rfl (hn602 _ _ ?_)
            exact ⟨g621, ⟨rfl, rfl, rfl, rfl, rfl, trivial⟩, hS628, ((hO625).down (by omega)), (((hb436).lo hk585).lo hk624), ((((hm64).kn hk432 (by omega)).lo hk585).lo hk624), (fun b_ h h' => hd629 (h'.trans h.symm)), (fun b_ h h' => hd630 (h'.trans h.symm))⟩
          · refine SR.lit (vs := [.int .i64 1, .int .i64 (-1)]) (L := ([1, (-1)] : List Int)) (enc := encI) tel30 (fun _ => rfl) rfl rfl rfl (by decide) ?_
            intro g633 w634 hg635 hk636 hO637
            have hz638 := hk636.size
            have hB639 := hB587.lo hk636
            have hS640 := ((Kp.refl w431 : Kp (fun b_ => b_ = gc ∨ b_ = g24) w431 w431).lo hk585).lo hk636
            have hd641 : ¬ A55 = some ⟨g633, 0, none⟩ := fun e' => by have := (((hO65).kd hk432 hd68).lo hk585).base_le e'; omega
            have hd642 : ¬ A56 = some ⟨g633, 0, none⟩ := fun e' => by have := (((hO66).kd hk432 hd72).lo hk585).base_le e'; omega
            refine SR.nil ⟨hS640, _, rfl, ?_⟩
            refine AH.br [1, 4] (by kernel_rfl) rfl ⟨Br.mk' rfl trivial ?_, Br.mk' rfl trivial ?_, trivial⟩
            · refine SR.q' (r_ld (v := .int .i64 o.Bought) sca3 rfl (((((hm64).kn hk432 (by omega)).lo hk585).lo hk636).cell rfl)) ?_
              refine SR.nil ⟨hS640, _, rfl, ?_⟩
              refine AH.goto (by kernel_rfl) rfl (hn602 _ _ ?_)
              exact ⟨g633, ⟨rfl, rfl, rfl, rfl, rfl, trivial⟩, hS640, ((hO637).down (by omega)), (((hb436).lo hk585).lo hk636), ((((hm64).kn hk432 (by omega)).lo hk585).lo hk636), (fun b_ h h' => hd641 (h'.trans h.symm)), (fun b_ h h' => hd642 (h'.trans h.symm))⟩
            · refine SR.call ent26 (c___spec_l1Cur__among w634 Lc t434 s435 (((hb436).lo hk585).lo hk636) (((((hm62).kn hk432 (by omega)).lo hk585).lo hk636)) (by omega) (by omega) ([1, (-1)] : List Int) (((hO637).rd)) (by omega) (by omega) (show ¬ g633 = gc from by first | omega | (have := (hO637).base_le rfl; omega))) rfl ?_
              rintro e w645 ⟨v647, t648, s649, rfl, hb650, ht651, hq652, hk646⟩
              refine ⟨_, rfl, ?_⟩
              have hz653 := hk646.size
              have hB654 := hB639.step hk646 (fun i_ hi_ e' => e')
              have hS655 := (hS640).step hk646 (fun _ _ e => .inl e)
              have hq656 : ((-1) : Int) ≤ v647 ∧ v647 ≤ 1 := mem_rngB (lo := (-1)) (hi := 1) (by decide) hq652
              refine SR.nil ⟨hS655, _, rfl, ?_⟩
              refine AH.br [1] (by kernel_rfl) rfl ⟨Br.mk' rfl trivial ?_, trivial⟩
              refine SR.q' (r_ld (v := .int .i64 o.Bought) sca3 rfl ((((((hm64).kn hk432 (by omega)).lo hk585).lo hk636).kn hk646 (by omega)).cell rfl)) ?_
              refine SR.nil ⟨hS655, _, rfl, ?_⟩
              refine AH.take 5 rfl (by kernel_rfl) trivial (hS655) (fun w' hw' => r_add rfl rfl (by omega)) <| AH.take 6 rfl (by kernel_rfl) trivial (hS655) (fun w' hw' => r_fa fa27_2 rfl) <| AH.goto (by kernel_rfl) rfl (hn588 _ _ ?_)
              exact ⟨g633, v647, t648, s649, ⟨rfl, rfl, rfl, rfl, trivial⟩, hS655, (hb650), (((((hm64).kn hk432 (by omega)).lo hk585).lo hk636).kn hk646 (by omega)), ht651, hq652, hq656⟩
        rintro f657 w658 ⟨g517, v534, t535, s536, hat660, hR659, hm553, hm554, ht538, hq539, hq543⟩
        rw [← sets_of_at hat660]
        have hz661 := hR659.size
        have hB662 := hB440.step hR659 (fun i_ hi_ e' => e'.elim (fun e' => e') (fun e' => by have e'' : i_ = g24 := e'; exfalso; omega))
        refine W.seq ?_
        have hm663 := ((hm63).kn hk432 (by omega)).kp hR659 (fun e' => e'.elim (fun e' => by have e'' : g1 = gc := e'; omega) (fun e' => by have e'' : g1 = g24 := e'; omega))
        have hm664 := ((hO65).kd hk432 hd68).kp hR659 (fun b_ hb e' => e'.elim (fun e' => hd68 (by have e'' : b_ = gc := e'; rw [← e'']; exact hb)) (fun e' => hd70 (by have e'' : b_ = g24 := e'; rw [← e'']; exact hb)))
        have hm665 := ((hO66).kd hk432 hd72).kp hR659 (fun b_ hb e' => e'.elim (fun e' => hd72 (by have e'' : b_ = gc := e'; rw [← e'']; exact hb)) (fun e' => hd74 (by have e'' : b_ = g24 := e'; rw [← e'']; exact hb)))
        refine W.regS (SR.q' (r_lda (l := [.slice A55 n55 c55, .slice A56 n56 c56, .int .i64 (o.Bought + v534), .int .i64 o.Dropped, .int .i64 o.Mended]) agg27 rfl (fun _ _ hu => (hm554).cell hu) rfl) <| SR.store (o := 0) (vs := [.slice A55 n55 c55, .slice A56 n56 c56, .int .i64 (o.Bought + v534), .int .i64 o.Dropped, .int .i64 o.Mended]) agg27.2 rfl rfl rfl rfl (hm663) (Nat.le_of_ble_eq_true rfl) rfl ?_)
        intro w666 hk667 hs668 hb669
        have hz670 := hk667.size
        have hB671 := hB662.new hk667 (by omega)
        refine SR.nil ?_
        refine W.ret ?_
        refine retC rfl rfl agg27 (hb669) rfl ?_
        exact ⟨A55, n55, c55, A56, n56, c56, (⟨o.Maps, o.Away, o.Bought + v534, o.Dropped, o.Mended⟩ : Library), t535, s536, eR (eA rfl), (SlO.eqv (((hm664).kd hk667 hd69).down (by omega)) (by first | rfl | omega | grind)), (SlO.eqv (((hm665).kd hk667 hd73).down (by omega)) (by first | rfl | omega | grind)), hd71, ((hm553).kn hk667 (by omega)), ⟨by omega, by omega⟩, (by first | omega | (simp only [List.length_append, List.length_cons, List.length_nil]; omega)), hq84, hB671⟩
      · refine W.seq ?_
        refine W.regS (SR.q' (r_eq rfl rfl) <| SR.q' (r_as (v := .bool _) rfl) <| SR.nil ?_)
        refine W.cond_d rfl (fun h672 => ?_) (fun h672 => ?_)
        · refine W.regA (Kp (fun b_ => b_ = gc ∨ A55 = some ⟨b_, 0, none⟩ ∨ b_ = g24) w431) (fun f' w' => ∃ (A988 : Option Addr) (c989 : Nat) (g907 : Nat) (v925 : Int) (t926 : Int) (s927 : Int) (g938 : Nat) (v957 : Int) (t958 : Int) (s959 : Int) (g970 : Nat), At f' [(2, .pointer (pA g1)), (3, .pointer (pA g24))] ∧ (Kp (fun b_ => b_ = gc ∨ A55 = some ⟨b_, 0, none⟩ ∨ b_ = g24) w431 w') ∧ (SlO w' w.heap.size encLMap 3 48 A988 (n55 + 1) c989 (o.Maps ++ ([(⟨v925, 0, v957⟩ : LMap)] : List LMap))) ∧ (Blk w' gc ec [.slice Ac nc cc, .int .i64 t958, .int .u64 s959]) ∧ (Blk w' g24 27 [.slice A988 (n55 + 1) c989, .slice A56 n56 c56, .int .i64 o.Bought, .int .i64 o.Dropped, .int .i64 o.Mended]) ∧ (¬ A988 = some ⟨gc, 0, none⟩) ∧ (¬ A988 = some ⟨g1, 0, none⟩) ∧ (¬ A988 = some ⟨g24, 0, none⟩) ∧ (∀ b_, A988 = some ⟨b_, 0, none⟩ → ¬ A56 = some ⟨b_, 0, none⟩) ∧ (t434 ≤ t926 ∧ t926 ≤ t434 + 2) ∧ (v925 ∈ ([0, 1, 99] : List Int)) ∧ ((0 : Int) ≤ v925 ∧ v925 ≤ 99) ∧ (t926 ≤ t958 ∧ t958 ≤ t926 + 2) ∧ (v957 ∈ ([0, 1] : List Int)) ∧ ((0 : Int) ≤ v957 ∧ v957 ≤ 1)) mo ?_ ?_
          · intro w1226 hk1227
            have hz1228 := hk1227.size
            have hB1229 := hB440.lo hk1227
            refine AH.via #[true, true, true, true, true, true, true, true, true, true, false, false, false] 3 (fun f' w' => ∃ (g907 : Nat) (v925 : Int) (t926 : Int) (s927 : Int) (g938 : Nat) (v957 : Int) (t958 : Int) (s959 : Int) (g970 : Nat), At f' [(2, .pointer (pA g1)), (3, .pointer (pA g24)), (40, .slice A55 n55 c55), (48, .slice (pA g970) 1 1)] ∧ (Kp (fun b_ => b_ = gc ∨ A55 = some ⟨b_, 0, none⟩ ∨ b_ = g24) w431 w') ∧ (SlO w' w431.heap.size encLMap 3 48 (pA g970) 1 1 ([(⟨v925, 0, v957⟩ : LMap)] : List LMap)) ∧ (Blk w' gc ec [.slice Ac nc cc, .int .i64 t958, .int .u64 s959]) ∧ (Blk w' g24 27 [.slice A55 n55 c55, .slice A56 n56 c56, .int .i64 o.Bought, .int .i64 o.Dropped, .int .i64 o.Mended]) ∧ (SlO w' w.heap.size encLMap 3 48 A55 n55 c55 o.Maps) ∧ (∀ b_, (pA g970) = some ⟨b_, 0, none⟩ → ¬ A55 = some ⟨b_, 0, none⟩) ∧ (∀ b_, (pA g970) = some ⟨b_, 0, none⟩ → ¬ A56 = some ⟨b_, 0, none⟩) ∧ (t434 ≤ t926 ∧ t926 ≤ t434 + 2) ∧ (v925 ∈ ([0, 1, 99] : List Int)) ∧ ((0 : Int) ≤ v925 ∧ v925 ≤ 99) ∧ (t926 ≤ t958 ∧ t958 ≤ t926 + 2) ∧ (v957 ∈ ([0, 1] : List Int)) ∧ ((0 : Int) ≤ v957 ∧ v957 ≤ 1)) ?_ (fun hn1230 => ?_)
            · rintro f1231 w1232 ⟨g907, v925, t926, s927, g938, v957, t958, s959, g970, hat1234, hR1233, hm982, hm983, hm984, hm985, hd986, hd987, ht929, hq930, hq934, ht961, hq962, hq966⟩
              rw [← sets_of_at hat1234]
              have hz1235 := hR1233.size
              have hB1236 := hB440.step hR1233 (fun i_ hi_ e' => e'.elim (fun e' => e') (fun e' => e'.elim (fun e' => by have := (((hO65).kd hk432 hd68)).base_le e'; exfalso; omega) (fun e' => by have e'' : i_ = g24 := e'; exfalso; omega)))
              refine AH.br [10] (by kernel_rfl) rfl ⟨Br.mk' rfl trivial ?_, trivial⟩
              refine SR.app tel24 rfl rfl (hm985) ((hm982).rd) (fun _ => rfl) (by omega) (by omega) ?_
              intro A1237 c1238 w1239 hk1240 hO1241 hN1242
              have hz1243 := hk1240.size
              have hB1244 := hB1236.step hk1240 (fun i_ hi_ e' => by have := ((hm985)).base_le e'; first | omega | (exfalso; omega) | exact e' | exact .inl e' | exact .inr e')
              have hS1245 := (hR1233).step hk1240 (fun _ _ e => .inr (.inl e))
              have hd1246 : ¬ A1237 = some ⟨gc, 0, none⟩ := fun e' => (hN1242 gc e').elim (fun h => hd68 (h.trans e')) (fun h => by have := (hm983).lt; omega)
              have hd1247 : ¬ A1237 = some ⟨g1, 0, none⟩ := fun e' => (hN1242 g1 e').elim (fun h => hd69 (h.trans e')) (fun h => by have := (((hm63).kn hk432 (by omega)).kp hR1233 (fun e' => e'.elim (fun e' => by have e'' : g1 = gc := e'; omega) (fun e' => e'.elim (fun e' => hd69 e') (fun e' => by have e'' : g1 = g24 := e'; omega)))).lt; omega)
              have hd1248 : ¬ A1237 = some ⟨g24, 0, none⟩ := fun e' => (hN1242 g24 e').elim (fun h => hd70 (h.trans e')) (fun h => by have := (hm984).lt; omega)
              have hd1249 : ∀ b_, A1237 = some ⟨b_, 0, none⟩ → ¬ A56 = some ⟨b_, 0, none⟩ := fun b_ e' h' => (hN1242 b_ e').elim (fun h => hd71 b_ (h.trans e') h') (fun h => by have := (((hO66).kd hk432 hd72).kp hR1233 (fun b_ hb e' => e'.elim (fun e' => hd72 (by have e'' : b_ = gc := e'; rw [← e'']; exact hb)) (fun e' => e'.elim (fun e' => hd71 b_ e' hb) (fun e' => hd74 (by have e'' : b_ = g24 := e'; rw [← e'']; exact hb))))).base_le h'; omega)
              refine SR.nil ⟨hS1245, _, rfl, ?_⟩
              refine AH.take 11 rfl (by kernel_rfl) trivial (hS1245) (fun w' hw' => r_fa fa27_0 rfl) <| AH.br [12] (by kernel_rfl) rfl ⟨Br.mk' rfl trivial ?_, trivial⟩
              refine SR.store (o := 0) (vs := [.slice A1237 (n55 + 1) c1238]) sca24.2 rfl rfl rfl rfl ((hm984).kp hk1240 (fun e' => hd70 e')) (Nat.le_of_ble_eq_true rfl) rfl ?_
              intro w1251 hk1252 hs1253 hb1254
              have hz1255 := hk1252.size
              have hB1256 := hB1244.new hk1252 (by omega)
              have hS1257 := (hS1245).step hk1252 (fun _ _ e => .inr (.inr (e)))
              refine SR.nil ⟨hS1257, _, rfl, ?_⟩
              refine AH.done (by kernel_rfl) ?_
              exact ⟨A1237, c1238, g907, v925, t926, s927, g938, v957, t958, s959, g970, ⟨rfl, rfl, trivial⟩, hS1257, ((hO1241).kd hk1252 hd1248), (((hm983).kp hk1240 (fun e' => hd68 e')).kn hk1252 (by omega)), (hb1254), hd1246, hd1247, hd1248, hd1249, ht929, hq930, hq934, ht961, hq962, hq966⟩
            refine AH.via #[true, true, true, true, true, true, true, true, true, false, false, false, false] 4 (fun f' w' => ∃ (g907 : Nat) (v925 : Int) (t926 : Int) (s927 : Int) (g938 : Nat) (v957 : Int) (t958 : Int) (s959 : Int), At f' [(2, .pointer (pA g1)), (3, .pointer (pA g24)), (40, .slice A55 n55 c55), (47, .agg (List.toArray [.int .i64 v925, .int .i64 0, .int .i64 v957]))] ∧ (Kp (fun b_ => b_ = gc ∨ A55 = some ⟨b_, 0, none⟩ ∨ b_ = g24) w431 w') ∧ (Blk w' gc ec [.slice Ac nc cc, .int .i64 t958, .int .u64 s959]) ∧ (Blk w' g24 27 [.slice A55 n55 c55, .slice A56 n56 c56, .int .i64 o.Bought, .int .i64 o.Dropped, .int .i64 o.Mended]) ∧ (SlO w' w.heap.size encLMap 3 48 A55 n55 c55 o.Maps) ∧ (t434 ≤ t926 ∧ t926 ≤ t434 + 2) ∧ (v925 ∈ ([0, 1, 99] : List Int)) ∧ ((0 : Int) ≤ v925 ∧ v925 ≤ 99) ∧ (t926 ≤ t958 ∧ t958 ≤ t926 + 2) ∧ (v957 ∈ ([0, 1] : List Int)) ∧ ((0 : Int) ≤ v957 ∧ v957 ≤ 1)) ?_ (fun hn1262 => ?_)
            · rintro f1263 w1264 ⟨g907, v925, t926, s927, g938, v957, t958, s959, hat1266, hR1265, hm967, hm968, hm969, ht929, hq930, hq934, ht961, hq962, hq966⟩
              rw [← sets_of_at hat1266]
              have hz1267 := hR1265.size
              have hB1268 := hB440.step hR1265 (fun i_ hi_ e' => e'.elim (fun e' => e') (fun e' => e'.elim (fun e' => by have := (((hO65).kd hk432 hd68)).base_le e'; exfalso; omega) (fun e' => by have e'' : i_ = g24 := e'; exfalso; omega)))
              refine AH.br [9] (by kernel_rfl) rfl ⟨Br.mk' rfl trivial ?_, trivial⟩
              refine SR.lit (vs := [.agg (List.toArray [.int .i64 v925, .int .i64 0, .int .i64 v957])]) (L := ([(⟨v925, 0, v957⟩ : LMap)] : List LMap)) (enc := encLMap) tel24 (fun _ => rfl) rfl rfl rfl (by decide) ?_
              intro g1269 w1270 hg1271 hk1272 hO1273
              have hz1274 := hk1272.size
              have hB1275 := hB1268.lo hk1272
              have hS1276 := (hR1265).lo hk1272
              have hd1277 : ¬ A55 = some ⟨g1269, 0, none⟩ := fun e' => by have := (hm969).base_le e'; omega
              have hd1278 : ¬ A56 = some ⟨g1269, 0, none⟩ := fun e' => by have := (((hO66).kd hk432 hd72).kp hR1265 (fun b_ hb e' => e'.elim (fun e' => hd72 (by have e'' : b_ = gc := e'; rw [← e'']; exact hb)) (fun e' => e'.elim (fun e' => hd71 b_ e' hb) (fun e' => hd74 (by have e'' : b_ = g24 := e'; rw [← e'']; exact hb))))).base_le e'; omega
              refine SR.nil ⟨hS1276, _, rfl, ?_⟩
              refine AH.goto (by kernel_rfl) rfl (hn1230 _ _ ?_)
              exact ⟨g907, v925, t926, s927, g938, v957, t958, s959, g1269, ⟨rfl, rfl, rfl, rfl, trivial⟩, hS1276, ((hO1273).down (by omega)), ((hm967).lo hk1272), ((hm968).lo hk1272), ((hm969).lo hk1272), (fun b_ h h' => hd1277 (h'.trans h.symm)), (fun b_ h h' => hd1278 (h'.trans h.symm)), ht929, hq930, hq934, ht961, hq962, hq966⟩
            refine AH.via #[true, true, true, true, true, true, true, false, false, false, false, false, false] 6 (fun f' w' => ∃ (g907 : Nat) (v925 : Int) (t926 : Int) (s927 : Int) (g938 : Nat), At f' [(2, .pointer (pA g1)), (3, .pointer (pA g24)), (40, .slice A55 n55 c55), (43, .int .i64 v925), (44, .pointer (pA gc)), (45, .slice (pA g938) 2 2)] ∧ (Kp (fun b_ => b_ = gc ∨ A55 = some ⟨b_, 0, none⟩ ∨ b_ = g24) w431 w') ∧ (SlO w' w431.heap.size encI 1 3 (pA g938) 2 2 ([0, 1] : List Int)) ∧ (Blk w' gc ec [.slice Ac nc cc, .int .i64 t926, .int .u64 s927]) ∧ (Blk w' g24 27 [.slice A55 n55 c55, .slice A56 n56 c56, .int .i64 o.Bought, .int .i64 o.Dropped, .int .i64 o.Mended]) ∧ (SlO w' w.heap.size encLMap 3 48 A55 n55 c55 o.Maps) ∧ (∀ b_, (pA g938) = some ⟨b_, 0, none⟩ → ¬ A55 = some ⟨b_, 0, none⟩) ∧ (∀ b_, (pA g938) = some ⟨b_, 0, none⟩ → ¬ A56 = some ⟨b_, 0, none⟩) ∧ (t434 ≤ t926 ∧ t926 ≤ t434 + 2) ∧ (v925 ∈ ([0, 1, 99] : List Int)) ∧ ((0 : Int) ≤ v925 ∧ v925 ≤ 99)) ?_ (fun hn1281 => ?_)
            · rintro f1282 w1283 ⟨g907, v925, t926, s927, g938, hat1285, hR1284, hm949, hm950, hm951, hm952, hd953, hd954, ht929, hq930, hq934⟩
              rw [← sets_of_at hat1285]
              have hz1286 := hR1284.size
              have hB1287 := hB440.step hR1284 (fun i_ hi_ e' => e'.elim (fun e' => e') (fun e' => e'.elim (fun e' => by have := (((hO65).kd hk432 hd68)).base_le e'; exfalso; omega) (fun e' => by have e'' : i_ = g24 := e'; exfalso; omega)))
              refine AH.br [7] (by kernel_rfl) rfl ⟨Br.mk' rfl trivial ?_, trivial⟩
              refine SR.call ent26 (c___spec_l1Cur__among w1283 Lc t926 s927 (hm950) ((((hm62).kn hk432 (by omega)).kp hR1284 (fun b_ hb e' => e'.elim (fun e' => by have e'' : b_ = gc := e'; omega) (fun e' => e'.elim (fun e' => by have := (((hO65).kd hk432 hd68)).base_le e'; omega) (fun e' => by have e'' : b_ = g24 := e'; omega))))) (by omega) (by omega) ([0, 1] : List Int) (((hm949).rd)) (by omega) (by omega) (show ¬ g938 = gc from by first | omega | (have := (hm949).base_le rfl; omega))) rfl ?_
              rintro e w1288 ⟨v1290, t1291, s1292, rfl, hb1293, ht1294, hq1295, hk1289⟩
              refine ⟨_, rfl, ?_⟩
              have hz1296 := hk1289.size
              have hB1297 := hB1287.step hk1289 (fun i_ hi_ e' => e')
              have hS1298 := (hR1284).step hk1289 (fun _ _ e => .inl e)
              have hq1299 : (0 : Int) ≤ v1290 ∧ v1290 ≤ 1 := mem_rngB (lo := 0) (hi := 1) (by decide) hq1295
              refine SR.nil ⟨hS1298, _, rfl, ?_⟩
              refine AH.take 8 rfl (by kernel_rfl) trivial (hS1298) (fun w' hw' => r_build (vs := [(0, .int .i64 v925), (2, .int .i64 v1290)]) rfl (bld48_0_2 _ _)) <| AH.goto (by kernel_rfl) rfl (hn1262 _ _ ?_)
              exact ⟨g907, v925, t926, s927, g938, v1290, t1291, s1292, ⟨rfl, rfl, rfl, rfl, trivial⟩, hS1298, (hb1293), ((hm951).kn hk1289 (by omega)), ((hm952).kd hk1289 hd68), ht929, hq930, hq934, ht1294, hq1295, hq1299⟩
            refine AH.via #[true, true, true, true, true, true, false, false, false, false, false, false, false] 7 (fun f' w' => ∃ (g907 : Nat) (v925 : Int) (t926 : Int) (s927 : Int), At f' [(2, .pointer (pA g1)), (3, .pointer (pA g24)), (40, .slice A55 n55 c55), (43, .int .i64 v925), (44, .pointer (pA gc))] ∧ (Kp (fun b_ => b_ = gc ∨ A55 = some ⟨b_, 0, none⟩ ∨ b_ = g24) w431 w') ∧ (Blk w' gc ec [.slice Ac nc cc, .int .i64 t926, .int .u64 s927]) ∧ (Blk w' g24 27 [.slice A55 n55 c55, .slice A56 n56 c56, .int .i64 o.Bought, .int .i64 o.Dropped, .int .i64 o.Mended]) ∧ (SlO w' w.heap.size encLMap 3 48 A55 n55 c55 o.Maps) ∧ (t434 ≤ t926 ∧ t926 ≤ t434 + 2) ∧ (v925 ∈ ([0, 1, 99] : List Int)) ∧ ((0 : Int) ≤ v925 ∧ v925 ≤ 99)) ?_ (fun hn1300 => ?_)
            · rintro f1301 w1302 ⟨g907, v925, t926, s927, hat1304, hR1303, hm935, hm936, hm937, ht929, hq930, hq934⟩
              rw [← sets_of_at hat1304]
              have hz1305 := hR1303.size
              have hB1306 := hB440.step hR1303 (fun i_ hi_ e' => e'.elim (fun e' => e') (fun e' => e'.elim (fun e' => by have := (((hO65).kd hk432 hd68)).base_le e'; exfalso; omega) (fun e' => by have e'' : i_ = g24 := e'; exfalso; omega)))
              refine AH.br [6] (by kernel_rfl) rfl ⟨Br.mk' rfl trivial ?_, trivial⟩
              refine SR.lit (vs := [.int .i64 0, .int .i64 1]) (L := ([0, 1] : List Int)) (enc := encI) tel30 (fun _ => rfl) rfl rfl rfl (by decide) ?_
              intro g1307 w1308 hg1309 hk1310 hO1311
              have hz1312 := hk1310.size
              have hB1313 := hB1306.lo hk1310
              have hS1314 := (hR1303).lo hk1310
              have hd1315 : ¬ A55 = some ⟨g1307, 0, none⟩ := fun e' => by have := (hm937).base_le e'; omega
              have hd1316 : ¬ A56 = some ⟨g1307, 0, none⟩ := fun e' => by have := (((hO66).kd hk432 hd72).kp hR1303 (fun b_ hb e' => e'.elim (fun e' => hd72 (by have e'' : b_ = gc := e'; rw [← e'']; exact hb)) (fun e' => e'.elim (fun e' => hd71 b_ e' hb) (fun e' => hd74 (by have e'' : b_ = g24 := e'; rw [← e'']; exact hb))))).base_le e'; omega
              refine SR.nil ⟨hS1314, _, rfl, ?_⟩
              refine AH.goto (by kernel_rfl) rfl (hn1281 _ _ ?_)
              exact ⟨g907, v925, t926, s927, g1307, ⟨rfl, rfl, rfl, rfl, rfl, rfl, trivial⟩, hS1314, ((hO1311).down (by omega)), ((hm935).lo hk1310), ((hm936).lo hk1310), ((hm937).lo hk1310), (fun b_ h h' => hd1315 (h'.trans h.symm)), (fun b_ h h' => hd1316 (h'.trans h.symm)), ht929, hq930, hq934⟩
            refine AH.via #[true, true, true, true, false, true, true, false, false, false, false, false, false] 7 (fun f' w' => ∃ (g907 : Nat) (g1025 : Nat), At f' [(2, .pointer (pA g1)), (3, .pointer (pA g24)), (40, .slice A55 n55 c55), (41, .pointer (pA gc)), (42, .slice (pA g907) 3 3), (44, .pointer (pA gc)), (45, .slice (pA g1025) 2 2)] ∧ (Kp (fun b_ => b_ = gc ∨ A55 = some ⟨b_, 0, none⟩ ∨ b_ = g24) w431 w') ∧ (SlO w' w431.heap.size encI 1 3 (pA g907) 3 3 ([0, 1, 99] : List Int)) ∧ (SlO w' w431.heap.size encI 1 3 (pA g1025) 2 2 ([0, 1] : List Int)) ∧ (Blk w' gc ec [.slice Ac nc cc, .int .i64 t434, .int .u64 s435]) ∧ (Blk w' g24 27 [.slice A55 n55 c55, .slice A56 n56 c56, .int .i64 o.Bought, .int .i64 o.Dropped, .int .i64 o.Mended]) ∧ (SlO w' w.heap.size encLMap 3 48 A55 n55 c55 o.Maps) ∧ (∀ b_, (pA g907) = some ⟨b_, 0, none⟩ → ¬ A55 = some ⟨b_, 0, none⟩) ∧ (∀ b_, (pA g907) = some ⟨b_, 0, none⟩ → ¬ A56 = some ⟨b_, 0, none⟩) ∧ (∀ b_, (pA g907) = some ⟨b_, 0, none⟩ → ¬ (pA g1025) = some ⟨b_, 0, none⟩) ∧ (∀ b_, (pA g1025) = some ⟨b_, 0, none⟩ → ¬ A55 = some ⟨b_, 0, none⟩) ∧ (∀ b_, (pA g1025) = some ⟨b_, 0, none⟩ → ¬ A56 = some ⟨b_, 0, none⟩)) ?_ (fun hn1319 => ?_)
            · rintro f1320 w1321 ⟨g907, g1025, hat1323, hR1322, hm1036, hm1037, hm1038, hm1039, hm1040, hd1041, hd1042, hd1043, hd1044, hd1045⟩
              rw [← sets_of_at hat1323]
              have hz1324 := hR1322.size
              have hB1325 := hB440.step hR1322 (fun i_ hi_ e' => e'.elim (fun e' => e') (fun e' => e'.elim (fun e' => by have := (((hO65).kd hk432 hd68)).base_le e'; exfalso; omega) (fun e' => by have e'' : i_ = g24 := e'; exfalso; omega)))
              refine AH.br [4] (by kernel_rfl) rfl ⟨Br.mk' rfl trivial ?_, trivial⟩
              refine SR.call ent26 (c___spec_l1Cur__among w1321 Lc t434 s435 (hm1038) ((((hm62).kn hk432 (by omega)).kp hR1322 (fun b_ hb e' => e'.elim (fun e' => by have e'' : b_ = gc := e'; omega) (fun e' => e'.elim (fun e' => by have := (((hO65).kd hk432 hd68)).base_le e'; omega) (fun e' => by have e'' : b_ = g24 := e'; omega))))) (by omega) (by omega) ([0, 1, 99] : List Int) (((hm1036).rd)) (by omega) (by omega) (show ¬ g907 = gc from by first | omega | (have := (hm1036).base_le rfl; omega))) rfl ?_
              rintro e w1326 ⟨v1328, t1329, s1330, rfl, hb1331, ht1332, hq1333, hk1327⟩
              refine ⟨_, rfl, ?_⟩
              have hz1334 := hk1327.size
              have hB1335 := hB1325.step hk1327 (fun i_ hi_ e' => e')
              have hS1336 := (hR1322).step hk1327 (fun _ _ e => .inl e)
              have hq1337 : (0 : Int) ≤ v1328 ∧ v1328 ≤ 99 := mem_rngB (lo := 0) (hi := 99) (by decide) hq1333
              refine SR.nil ⟨hS1336, _, rfl, ?_⟩
              refine AH.goto (by kernel_rfl) rfl (hn1281 _ _ ?_)
              exact ⟨g907, v1328, t1329, s1330, g1025, ⟨rfl, rfl, rfl, rfl, rfl, rfl, trivial⟩, hS1336, (((hm1037).kn hk1327 (by omega)).down (by omega)), (hb1331), ((hm1039).kn hk1327 (by omega)), ((hm1040).kd hk1327 hd68), hd1044, hd1045, ht1332, hq1333, hq1337⟩
            refine AH.via #[true, false, true, true, true, true, true, false, false, false, false, false, false] 7 (fun f' w' => ∃ (g1085 : Nat) (v1103 : Int) (t1104 : Int) (s1105 : Int) (g1116 : Nat), At f' [(2, .pointer (pA g1)), (3, .pointer (pA g24)), (39, .pointer (some (((⟨g24, 0, none⟩ : Addr)).add 0))), (43, .int .i64 v1103), (44, .pointer (pA gc)), (45, .slice (pA g1116) 2 2)] ∧ (Kp (fun b_ => b_ = gc ∨ A55 = some ⟨b_, 0, none⟩ ∨ b_ = g24) w431 w') ∧ (SlO w' w431.heap.size encI 1 3 (pA g1116) 2 2 ([0, 1] : List Int)) ∧ (Blk w' gc ec [.slice Ac nc cc, .int .i64 t1104, .int .u64 s1105]) ∧ (Blk w' g24 27 [.slice A55 n55 c55, .slice A56 n56 c56, .int .i64 o.Bought, .int .i64 o.Dropped, .int .i64 o.Mended]) ∧ (SlO w' w.heap.size encLMap 3 48 A55 n55 c55 o.Maps) ∧ (∀ b_, (pA g1116) = some ⟨b_, 0, none⟩ → ¬ A55 = some ⟨b_, 0, none⟩) ∧ (∀ b_, (pA g1116) = some ⟨b_, 0, none⟩ → ¬ A56 = some ⟨b_, 0, none⟩) ∧ (t434 ≤ t1104 ∧ t1104 ≤ t434 + 2) ∧ (v1103 ∈ ([0, 1, 99] : List Int)) ∧ ((0 : Int) ≤ v1103 ∧ v1103 ≤ 99)) ?_ (fun hn1340 => ?_)
            · rintro f1341 w1342 ⟨g1085, v1103, t1104, s1105, g1116, hat1344, hR1343, hm1127, hm1128, hm1129, hm1130, hd1131, hd1132, ht1107, hq1108, hq1112⟩
              rw [← sets_of_at hat1344]
              have hz1345 := hR1343.size
              have hB1346 := hB440.step hR1343 (fun i_ hi_ e' => e'.elim (fun e' => e') (fun e' => e'.elim (fun e' => by have := (((hO65).kd hk432 hd68)).base_le e'; exfalso; omega) (fun e' => by have e'' : i_ = g24 := e'; exfalso; omega)))
              refine AH.br [1, 7] (by kernel_rfl) rfl ⟨Br.mk' rfl trivial ?_, Br.mk' rfl trivial ?_, trivial⟩
              · refine SR.q' (r_ld (v := .slice A55 n55 c55) sca24 rfl ((hm1129).cell rfl)) ?_
                refine SR.nil ⟨hR1343, _, rfl, ?_⟩
                refine AH.goto (by kernel_rfl) rfl (hn1281 _ _ ?_)
                exact ⟨g1085, v1103, t1104, s1105, g1116, ⟨rfl, rfl, rfl, rfl, rfl, rfl, trivial⟩, hR1343, ((hm1127).down (by omega)), (hm1128), (hm1129), (hm1130), hd1131, hd1132, ht1107, hq1108, hq1112⟩
              · refine SR.call ent26 (c___spec_l1Cur__among w1342 Lc t1104 s1105 (hm1128) ((((hm62).kn hk432 (by omega)).kp hR1343 (fun b_ hb e' => e'.elim (fun e' => by have e'' : b_ = gc := e'; omega) (fun e' => e'.elim (fun e' => by have := (((hO65).kd hk432 hd68)).base_le e'; omega) (fun e' => by have e'' : b_ = g24 := e'; omega))))) (by omega) (by omega) ([0, 1] : List Int) (((hm1127).rd)) (by omega) (by omega) (show ¬ g1116 = gc from by first | omega | (have := (hm1127).base_le rfl; omega))) rfl ?_
                rintro e w1349 ⟨v1351, t1352, s1353, rfl, hb1354, ht1355, hq1356, hk1350⟩
                refine ⟨_, rfl, ?_⟩
                have hz1357 := hk1350.size
                have hB1358 := hB1346.step hk1350 (fun i_ hi_ e' => e')
                have hS1359 := (hR1343).step hk1350 (fun _ _ e => .inl e)
                have hq1360 : (0 : Int) ≤ v1351 ∧ v1351 ≤ 1 := mem_rngB (lo := 0) (hi := 1) (by decide) hq1356
                refine SR.nil ⟨hS1359, _, rfl, ?_⟩
                refine AH.take 8 rfl (by kernel_rfl) trivial (hS1359) (fun w' hw' => r_build (vs := [(0, .int .i64 v1103), (2, .int .i64 v1351)]) rfl (bld48_0_2 _ _)) <| AH.br [1, 9] (by kernel_rfl) rfl ⟨Br.mk' rfl trivial ?_, Br.mk' rfl trivial ?_, trivial⟩
                · refine SR.q' (r_ld (v := .slice A55 n55 c55) sca24 rfl (((hm1129).kn hk1350 (by omega)).cell rfl)) ?_
                  refine SR.nil ⟨hS1359, _, rfl, ?_⟩
                  refine AH.goto (by kernel_rfl) rfl (hn1262 _ _ ?_)
                  exact ⟨g1085, v1103, t1104, s1105, g1116, v1351, t1352, s1353, ⟨rfl, rfl, rfl, rfl, trivial⟩, hS1359, (hb1354), ((hm1129).kn hk1350 (by omega)), ((hm1130).kd hk1350 hd68), ht1107, hq1108, hq1112, ht1355, hq1356, hq1360⟩
                · refine SR.lit (vs := [.agg (List.toArray [.int .i64 v1103, .int .i64 0, .int .i64 v1351])]) (L := ([(⟨v1103, 0, v1351⟩ : LMap)] : List LMap)) (enc := encLMap) tel24 (fun _ => rfl) rfl rfl rfl (by decide) ?_
                  intro g1361 w1362 hg1363 hk1364 hO1365
                  have hz1366 := hk1364.size
                  have hB1367 := hB1358.lo hk1364
                  have hS1368 := (hS1359).lo hk1364
                  have hd1369 : ¬ A55 = some ⟨g1361, 0, none⟩ := fun e' => by have := ((hm1130).kd hk1350 hd68).base_le e'; omega
                  have hd1370 : ¬ A56 = some ⟨g1361, 0, none⟩ := fun e' => by have := ((((hO66).kd hk432 hd72).kp hR1343 (fun b_ hb e' => e'.elim (fun e' => hd72 (by have e'' : b_ = gc := e'; rw [← e'']; exact hb)) (fun e' => e'.elim (fun e' => hd71 b_ e' hb) (fun e' => hd74 (by have e'' : b_ = g24 := e'; rw [← e'']; exact hb))))).kd hk1350 hd72).base_le e'; omega
                  refine SR.nil ⟨hS1368, _, rfl, ?_⟩
                  refine AH.br [1] (by kernel_rfl) rfl ⟨Br.mk' rfl trivial ?_, trivial⟩
                  refine SR.q' (r_ld (v := .slice A55 n55 c55) sca24 rfl ((((hm1129).kn hk1350 (by omega)).lo hk1364).cell rfl)) ?_
                  refine SR.nil ⟨hS1368, _, rfl, ?_⟩
                  refine AH.goto (by kernel_rfl) rfl (hn1230 _ _ ?_)
                  exact ⟨g1085, v1103, t1104, s1105, g1116, v1351, t1352, s1353, g1361, ⟨rfl, rfl, rfl, rfl, trivial⟩, hS1368, ((hO1365).down (by omega)), ((hb1354).lo hk1364), (((hm1129).kn hk1350 (by omega)).lo hk1364), (((hm1130).kd hk1350 hd68).lo hk1364), (fun b_ h h' => hd1369 (h'.trans h.symm)), (fun b_ h h' => hd1370 (h'.trans h.symm)), ht1107, hq1108, hq1112, ht1355, hq1356, hq1360⟩
            refine AH.via #[true, true, true, true, false, true, false, false, false, false, false, false, false] 8 (fun f' w' => ∃ (g907 : Nat), At f' [(2, .pointer (pA g1)), (3, .pointer (pA g24)), (40, .slice A55 n55 c55), (41, .pointer (pA gc)), (42, .slice (pA g907) 3 3), (44, .pointer (pA gc))] ∧ (Kp (fun b_ => b_ = gc ∨ A55 = some ⟨b_, 0, none⟩ ∨ b_ = g24) w431 w') ∧ (SlO w' w431.heap.size encI 1 3 (pA g907) 3 3 ([0, 1, 99] : List Int)) ∧ (Blk w' gc ec [.slice Ac nc cc, .int .i64 t434, .int .u64 s435]) ∧ (Blk w' g24 27 [.slice A55 n55 c55, .slice A56 n56 c56, .int .i64 o.Bought, .int .i64 o.Dropped, .int .i64 o.Mended]) ∧ (SlO w' w.heap.size encLMap 3 48 A55 n55 c55 o.Maps) ∧ (∀ b_, (pA g907) = some ⟨b_, 0, none⟩ → ¬ A55 = some ⟨b_, 0, none⟩) ∧ (∀ b_, (pA g907) = some ⟨b_, 0, none⟩ → ¬ A56 = some ⟨b_, 0, none⟩)) ?_ (fun hn1374 => ?_)
            · rintro f1375 w1376 ⟨g907, hat1378, hR1377, hm917, hm918, hm919, hm920, hd921, hd922⟩
              rw [← sets_of_at hat1378]
              have hz1379 := hR1377.size
              have hB1380 := hB440.step hR1377 (fun i_ hi_ e' => e'.elim (fun e' => e') (fun e' => e'.elim (fun e' => by have := (((hO65).kd hk432 hd68)).base_le e'; exfalso; omega) (fun e' => by have e'' : i_ = g24 := e'; exfalso; omega)))
              refine AH.br [4, 6] (by kernel_rfl) rfl ⟨Br.mk' rfl trivial ?_, Br.mk' rfl trivial ?_, trivial⟩
              · refine SR.call ent26 (c___spec_l1Cur__among w1376 Lc t434 s435 (hm918) ((((hm62).kn hk432 (by omega)).kp hR1377 (fun b_ hb e' => e'.elim (fun e' => by have e'' : b_ = gc := e'; omega) (fun e' => e'.elim (fun e' => by have := (((hO65).kd hk432 hd68)).base_le e'; omega) (fun e' => by have e'' : b_ = g24 := e'; omega))))) (by omega) (by omega) ([0, 1, 99] : List Int) (((hm917).rd)) (by omega) (by omega) (show ¬ g907 = gc from by first | omega | (have := (hm917).base_le rfl; omega))) rfl ?_
                rintro e w1381 ⟨v1383, t1384, s1385, rfl, hb1386, ht1387, hq1388, hk1382⟩
                refine ⟨_, rfl, ?_⟩
                have hz1389 := hk1382.size
                have hB1390 := hB1380.step hk1382 (fun i_ hi_ e' => e')
                have hS1391 := (hR1377).step hk1382 (fun _ _ e => .inl e)
                have hq1392 : (0 : Int) ≤ v1383 ∧ v1383 ≤ 99 := mem_rngB (lo := 0) (hi := 99) (by decide) hq1388
                refine SR.nil ⟨hS1391, _, rfl, ?_⟩
                refine AH.goto (by kernel_rfl) rfl (hn1300 _ _ ?_)
                exact ⟨g907, v1383, t1384, s1385, ⟨rfl, rfl, rfl, rfl, rfl, trivial⟩, hS1391, (hb1386), ((hm919).kn hk1382 (by omega)), ((hm920).kd hk1382 hd68), ht1387, hq1388, hq1392⟩
              · refine SR.lit (vs := [.int .i64 0, .int .i64 1]) (L := ([0, 1] : List Int)) (enc := encI) tel30 (fun _ => rfl) rfl rfl rfl (by decide) ?_
                intro g1393 w1394 hg1395 hk1396 hO1397
                have hz1398 := hk1396.size
                have hB1399 := hB1380.lo hk1396
                have hS1400 := (hR1377).lo hk1396
                have hd1401 : ¬ A55 = some ⟨g1393, 0, none⟩ := fun e' => by have := (hm920).base_le e'; omega
                have hd1402 : ¬ A56 = some ⟨g1393, 0, none⟩ := fun e' => by have := (((hO66).kd hk432 hd72).kp hR1377 (fun b_ hb e' => e'.elim (fun e' => hd72 (by have e'' : b_ = gc := e'; rw [← e'']; exact hb)) (fun e' => e'.elim (fun e' => hd71 b_ e' hb) (fun e' => hd74 (by have e'' : b_ = g24 := e'; rw [← e'']; exact hb))))).base_le e'; omega
                have hd1403 : ¬ (pA g907) = some ⟨g1393, 0, none⟩ := fun e' => by have := (hm917).base_le e'; omega
                refine SR.nil ⟨hS1400, _, rfl, ?_⟩
                refine AH.goto (by kernel_rfl) rfl (hn1319 _ _ ?_)
                exact ⟨g907, g1393, ⟨rfl, rfl, rfl, rfl, rfl, rfl, rfl, trivial⟩, hS1400, (((hm917).lo hk1396).down (by omega)), ((hO1397).down (by omega)), ((hm918).lo hk1396), ((hm919).lo hk1396), ((hm920).lo hk1396), hd921, hd922, (fun b_ h h' => hd1403 (h.trans h'.symm)), (fun b_ h h' => hd1401 (h'.trans h.symm)), (fun b_ h h' => hd1402 (h'.trans h.symm))⟩
            refine AH.via #[true, true, true, false, false, true, true, false, false, false, false, false, false] 8 (fun f' w' => ∃ (g1058 : Nat), At f' [(2, .pointer (pA g1)), (3, .pointer (pA g24)), (40, .slice A55 n55 c55), (41, .pointer (pA gc)), (44, .pointer (pA gc)), (45, .slice (pA g1058) 2 2)] ∧ (Kp (fun b_ => b_ = gc ∨ A55 = some ⟨b_, 0, none⟩ ∨ b_ = g24) w431 w') ∧ (SlO w' w431.heap.size encI 1 3 (pA g1058) 2 2 ([0, 1] : List Int)) ∧ (Blk w' gc ec [.slice Ac nc cc, .int .i64 t434, .int .u64 s435]) ∧ (Blk w' g24 27 [.slice A55 n55 c55, .slice A56 n56 c56, .int .i64 o.Bought, .int .i64 o.Dropped, .int .i64 o.Mended]) ∧ (SlO w' w.heap.size encLMap 3 48 A55 n55 c55 o.Maps) ∧ (∀ b_, (pA g1058) = some ⟨b_, 0, none⟩ → ¬ A55 = some ⟨b_, 0, none⟩) ∧ (∀ b_, (pA g1058) = some ⟨b_, 0, none⟩ → ¬ A56 = some ⟨b_, 0, none⟩)) ?_ (fun hn1409 => ?_)
            · rintro f1410 w1411 ⟨g1058, hat1413, hR1412, hm1068, hm1069, hm1070, hm1071, hd1072, hd1073⟩
              rw [← sets_of_at hat1413]
              have hz1414 := hR1412.size
              have hB1415 := hB440.step hR1412 (fun i_ hi_ e' => e'.elim (fun e' => e') (fun e' => e'.elim (fun e' => by have := (((hO65).kd hk432 hd68)).base_le e'; exfalso; omega) (fun e' => by have e'' : i_ = g24 := e'; exfalso; omega)))
              refine AH.br [3] (by kernel_rfl) rfl ⟨Br.mk' rfl trivial ?_, trivial⟩
              refine SR.lit (vs := [.int .i64 0, .int .i64 1, .int .i64 99]) (L := ([0, 1, 99] : List Int)) (enc := encI) tel30 (fun _ => rfl) rfl rfl rfl (by decide) ?_
              intro g1416 w1417 hg1418 hk1419 hO1420
              have hz1421 := hk1419.size
              have hB1422 := hB1415.lo hk1419
              have hS1423 := (hR1412).lo hk1419
              have hd1424 : ¬ A55 = some ⟨g1416, 0, none⟩ := fun e' => by have := (hm1071).base_le e'; omega
              have hd1425 : ¬ A56 = some ⟨g1416, 0, none⟩ := fun e' => by have := (((hO66).kd hk432 hd72).kp hR1412 (fun b_ hb e' => e'.elim (fun e' => hd72 (by have e'' : b_ = gc := e'; rw [← e'']; exact hb)) (fun e' => e'.elim (fun e' => hd71 b_ e' hb) (fun e' => hd74 (by have e'' : b_ = g24 := e'; rw [← e'']; exact hb))))).base_le e'; omega
              have hd1426 : ¬ (pA g1058) = some ⟨g1416, 0, none⟩ := fun e' => by have := (hm1068).base_le e'; omega
              refine SR.nil ⟨hS1423, _, rfl, ?_⟩
              refine AH.goto (by kernel_rfl) rfl (hn1319 _ _ ?_)
              exact ⟨g1416, g1058, ⟨rfl, rfl, rfl, rfl, rfl, rfl, rfl, trivial⟩, hS1423, ((hO1420).down (by omega)), (((hm1068).lo hk1419).down (by omega)), ((hm1069).lo hk1419), ((hm1070).lo hk1419), ((hm1071).lo hk1419), (fun b_ h h' => hd1424 (h'.trans h.symm)), (fun b_ h h' => hd1425 (h'.trans h.symm)), (fun b_ h h' => hd1426 (h'.trans h.symm)), hd1072, hd1073⟩
            refine AH.via #[true, false, true, true, false, true, true, false, false, false, false, false, false] 8 (fun f' w' => ∃ (g1085 : Nat) (g1166 : Nat), At f' [(2, .pointer (pA g1)), (3, .pointer (pA g24)), (39, .pointer (some (((⟨g24, 0, none⟩ : Addr)).add 0))), (41, .pointer (pA gc)), (42, .slice (pA g1085) 3 3), (44, .pointer (pA gc)), (45, .slice (pA g1166) 2 2)] ∧ (Kp (fun b_ => b_ = gc ∨ A55 = some ⟨b_, 0, none⟩ ∨ b_ = g24) w431 w') ∧ (SlO w' w431.heap.size encI 1 3 (pA g1085) 3 3 ([0, 1, 99] : List Int)) ∧ (SlO w' w431.heap.size encI 1 3 (pA g1166) 2 2 ([0, 1] : List Int)) ∧ (Blk w' gc ec [.slice Ac nc cc, .int .i64 t434, .int .u64 s435]) ∧ (Blk w' g24 27 [.slice A55 n55 c55, .slice A56 n56 c56, .int .i64 o.Bought, .int .i64 o.Dropped, .int .i64 o.Mended]) ∧ (SlO w' w.heap.size encLMap 3 48 A55 n55 c55 o.Maps) ∧ (∀ b_, (pA g1085) = some ⟨b_, 0, none⟩ → ¬ A55 = some ⟨b_, 0, none⟩) ∧ (∀ b_, (pA g1085) = some ⟨b_, 0, none⟩ → ¬ A56 = some ⟨b_, 0, none⟩) ∧ (∀ b_, (pA g1085) = some ⟨b_, 0, none⟩ → ¬ (pA g1166) = some ⟨b_, 0, none⟩) ∧ (∀ b_, (pA g1166) = some ⟨b_, 0, none⟩ → ¬ A55 = some ⟨b_, 0, none⟩) ∧ (∀ b_, (pA g1166) = some ⟨b_, 0, none⟩ → ¬ A56 = some ⟨b_, 0, none⟩)) ?_ (fun hn1432 => ?_)
            · rintro f1433 w1434 ⟨g1085, g1166, hat1436, hR1435, hm1177, hm1178, hm1179, hm1180, hm1181, hd1182, hd1183, hd1184, hd1185, hd1186⟩
              rw [← sets_of_at hat1436]
              have hz1437 := hR1435.size
              have hB1438 := hB440.step hR1435 (fun i_ hi_ e' => e'.elim (fun e' => e') (fun e' => e'.elim (fun e' => by have := (((hO65).kd hk432 hd68)).base_le e'; exfalso; omega) (fun e' => by have e'' : i_ = g24 := e'; exfalso; omega)))
              refine AH.br [1, 4] (by kernel_rfl) rfl ⟨Br.mk' rfl trivial ?_, Br.mk' rfl trivial ?_, trivial⟩
              · refine SR.q' (r_ld (v := .slice A55 n55 c55) sca24 rfl ((hm1180).cell rfl)) ?_
                refine SR.nil ⟨hR1435, _, rfl, ?_⟩
                refine AH.goto (by kernel_rfl) rfl (hn1319 _ _ ?_)
                exact ⟨g1085, g1166, ⟨rfl, rfl, rfl, rfl, rfl, rfl, rfl, trivial⟩, hR1435, ((hm1177).down (by omega)), ((hm1178).down (by omega)), (hm1179), (hm1180), (hm1181), hd1182, hd1183, hd1184, hd1185, hd1186⟩
              · refine SR.call ent26 (c___spec_l1Cur__among w1434 Lc t434 s435 (hm1179) ((((hm62).kn hk432 (by omega)).kp hR1435 (fun b_ hb e' => e'.elim (fun e' => by have e'' : b_ = gc := e'; omega) (fun e' => e'.elim (fun e' => by have := (((hO65).kd hk432 hd68)).base_le e'; omega) (fun e' => by have e'' : b_ = g24 := e'; omega))))) (by omega) (by omega) ([0, 1, 99] : List Int) (((hm1177).rd)) (by omega) (by omega) (show ¬ g1085 = gc from by first | omega | (have := (hm1177).base_le rfl; omega))) rfl ?_
                rintro e w1444 ⟨v1446, t1447, s1448, rfl, hb1449, ht1450, hq1451, hk1445⟩
                refine ⟨_, rfl, ?_⟩
                have hz1452 := hk1445.size
                have hB1453 := hB1438.step hk1445 (fun i_ hi_ e' => e')
                have hS1454 := (hR1435).step hk1445 (fun _ _ e => .inl e)
                have hq1455 : (0 : Int) ≤ v1446 ∧ v1446 ≤ 99 := mem_rngB (lo := 0) (hi := 99) (by decide) hq1451
                refine SR.nil ⟨hS1454, _, rfl, ?_⟩
                refine AH.goto (by kernel_rfl) rfl (hn1340 _ _ ?_)
                exact ⟨g1085, v1446, t1447, s1448, g1166, ⟨rfl, rfl, rfl, rfl, rfl, rfl, trivial⟩, hS1454, (((hm1178).kn hk1445 (by omega)).down (by omega)), (hb1449), ((hm1180).kn hk1445 (by omega)), ((hm1181).kd hk1445 hd68), hd1185, hd1186, ht1450, hq1451, hq1455⟩
            refine AH.take 0 rfl (by kernel_rfl) trivial ((Kp.refl w431 : Kp (fun b_ => b_ = gc ∨ A55 = some ⟨b_, 0, none⟩ ∨ b_ = g24) w431 w431).lo hk1227) (fun w' hw' => r_fa fa27_0 rfl) <| AH.take 2 rfl (by kernel_rfl) trivial ((Kp.refl w431 : Kp (fun b_ => b_ = gc ∨ A55 = some ⟨b_, 0, none⟩ ∨ b_ = g24) w431 w431).lo hk1227) (fun w' hw' => r_mv (v := .pointer (some _)) rfl) <| AH.take 5 rfl (by kernel_rfl) trivial ((Kp.refl w431 : Kp (fun b_ => b_ = gc ∨ A55 = some ⟨b_, 0, none⟩ ∨ b_ = g24) w431 w431).lo hk1227) (fun w' hw' => r_mv (v := .pointer (some _)) rfl) <| AH.br [1, 3, 6] (by kernel_rfl) rfl ⟨Br.mk' rfl trivial ?_, Br.mk' rfl trivial ?_, Br.mk' rfl trivial ?_, trivial⟩
            · refine SR.q' (r_ld (v := .slice A55 n55 c55) sca24 rfl ((((hm64).kn hk432 (by omega)).lo hk1227).cell rfl)) ?_
              refine SR.nil ⟨(Kp.refl w431 : Kp (fun b_ => b_ = gc ∨ A55 = some ⟨b_, 0, none⟩ ∨ b_ = g24) w431 w431).lo hk1227, _, rfl, ?_⟩
              refine AH.br [3, 6] (by kernel_rfl) rfl ⟨Br.mk' rfl trivial ?_, Br.mk' rfl trivial ?_, trivial⟩
              · refine SR.lit (vs := [.int .i64 0, .int .i64 1, .int .i64 99]) (L := ([0, 1, 99] : List Int)) (enc := encI) tel30 (fun _ => rfl) rfl rfl rfl (by decide) ?_
                intro g1458 w1459 hg1460 hk1461 hO1462
                have hz1463 := hk1461.size
                have hB1464 := hB1229.lo hk1461
                have hS1465 := ((Kp.refl w431 : Kp (fun b_ => b_ = gc ∨ A55 = some ⟨b_, 0, none⟩ ∨ b_ = g24) w431 w431).lo hk1227).lo hk1461
                have hd1466 : ¬ A55 = some ⟨g1458, 0, none⟩ := fun e' => by have := (((hO65).kd hk432 hd68).lo hk1227).base_le e'; omega
                have hd1467 : ¬ A56 = some ⟨g1458, 0, none⟩ := fun e' => by have := (((hO66).kd hk432 hd72).lo hk1227).base_le e'; omega
                refine SR.nil ⟨hS1465, _, rfl, ?_⟩
                refine AH.goto (by kernel_rfl) rfl (hn1374 _ _ ?_)
                exact ⟨g1458, ⟨rfl, rfl, rfl, rfl, rfl, rfl, trivial⟩, hS1465, ((hO1462).down (by omega)), (((hb436).lo hk1227).lo hk1461), ((((hm64).kn hk432 (by omega)).lo hk1227).lo hk1461), ((((hO65).kd hk432 hd68).lo hk1227).lo hk1461), (fun b_ h h' => hd1466 (h'.trans h.symm)), (fun b_ h h' => hd1467 (h'.trans h.symm))⟩
              · refine SR.lit (vs := [.int .i64 0, .int .i64 1]) (L := ([0, 1] : List Int)) (enc := encI) tel30 (fun _ => rfl) rfl rfl rfl (by decide) ?_
                intro g1470 w1471 hg1472 hk1473 hO1474
                have hz1475 := hk1473.size
                have hB1476 := hB1229.lo hk1473
                have hS1477 := ((Kp.refl w431 : Kp (fun b_ => b_ = gc ∨ A55 = some ⟨b_, 0, none⟩ ∨ b_ = g24) w431 w431).lo hk1227).lo hk1473
                have hd1478 : ¬ A55 = some ⟨g1470, 0, none⟩ := fun e' => by have := (((hO65).kd hk432 hd68).lo hk1227).base_le e'; omega
                have hd1479 : ¬ A56 = some ⟨g1470, 0, none⟩ := fun e' => by have := (((hO66).kd hk432 hd72).lo hk1227).base_le e'; omega
                refine SR.nil ⟨hS1477, _, rfl, ?_⟩
                refine AH.goto (by kernel_rfl) rfl (hn1409 _ _ ?_)
                exact ⟨g1470, ⟨rfl, rfl, rfl, rfl, rfl, rfl, trivial⟩, hS1477, ((hO1474).down (by omega)), (((hb436).lo hk1227).lo hk1473), ((((hm64).kn hk432 (by omega)).lo hk1227).lo hk1473), ((((hO65).kd hk432 hd68).lo hk1227).lo hk1473), (fun b_ h h' => hd1478 (h'.trans h.symm)), (fun b_ h h' => hd1479 (h'.trans h.symm))⟩
            · refine SR.lit (vs := [.int .i64 0, .int .i64 1, .int .i64 99]) (L := ([0, 1, 99] : List Int)) (enc := encI) tel30 (fun _ => rfl) rfl rfl rfl (by decide) ?_
              intro g1482 w1483 hg1484 hk1485 hO1486
              have hz1487 := hk1485.size
              have hB1488 := hB1229.lo hk1485
              have hS1489 := ((Kp.refl w431 : Kp (fun b_ => b_ = gc ∨ A55 = some ⟨b_, 0, none⟩ ∨ b_ = g24) w431 w431).lo hk1227).lo hk1485
              have hd1490 : ¬ A55 = some ⟨g1482, 0, none⟩ := fun e' => by have := (((hO65).kd hk432 hd68).lo hk1227).base_le e'; omega
              have hd1491 : ¬ A56 = some ⟨g1482, 0, none⟩ := fun e' => by have := (((hO66).kd hk432 hd72).lo hk1227).base_le e'; omega
              refine SR.nil ⟨hS1489, _, rfl, ?_⟩
              refine AH.br [1, 4, 6] (by kernel_rfl) rfl ⟨Br.mk' rfl trivial ?_, Br.mk' rfl trivial ?_, Br.mk' rfl trivial ?_, trivial⟩
              · refine SR.q' (r_ld (v := .slice A55 n55 c55) sca24 rfl (((((hm64).kn hk432 (by omega)).lo hk1227).lo hk1485).cell rfl)) ?_
                refine SR.nil ⟨hS1489, _, rfl, ?_⟩
                refine AH.goto (by kernel_rfl) rfl (hn1374 _ _ ?_)
                exact ⟨g1482, ⟨rfl, rfl, rfl, rfl, rfl, rfl, trivial⟩, hS1489, ((hO1486).down (by omega)), (((hb436).lo hk1227).lo hk1485), ((((hm64).kn hk432 (by omega)).lo hk1227).lo hk1485), ((((hO65).kd hk432 hd68).lo hk1227).lo hk1485), (fun b_ h h' => hd1490 (h'.trans h.symm)), (fun b_ h h' => hd1491 (h'.trans h.symm))⟩
              · refine SR.call ent26 (c___spec_l1Cur__among w1483 Lc t434 s435 (((hb436).lo hk1227).lo hk1485) (((((hm62).kn hk432 (by omega)).lo hk1227).lo hk1485)) (by omega) (by omega) ([0, 1, 99] : List Int) (((hO1486).rd)) (by omega) (by omega) (show ¬ g1482 = gc from by first | omega | (have := (hO1486).base_le rfl; omega))) rfl ?_
                rintro e w1494 ⟨v1496, t1497, s1498, rfl, hb1499, ht1500, hq1501, hk1495⟩
                refine ⟨_, rfl, ?_⟩
                have hz1502 := hk1495.size
                have hB1503 := hB1488.step hk1495 (fun i_ hi_ e' => e')
                have hS1504 := (hS1489).step hk1495 (fun _ _ e => .inl e)
                have hq1505 : (0 : Int) ≤ v1496 ∧ v1496 ≤ 99 := mem_rngB (lo := 0) (hi := 99) (by decide) hq1501
                refine SR.nil ⟨hS1504, _, rfl, ?_⟩
                refine AH.br [1, 6] (by kernel_rfl) rfl ⟨Br.mk' rfl trivial ?_, Br.mk' rfl trivial ?_, trivial⟩
                · refine SR.q' (r_ld (v := .slice A55 n55 c55) sca24 rfl ((((((hm64).kn hk432 (by omega)).lo hk1227).lo hk1485).kn hk1495 (by omega)).cell rfl)) ?_
                  refine SR.nil ⟨hS1504, _, rfl, ?_⟩
                  refine AH.goto (by kernel_rfl) rfl (hn1300 _ _ ?_)
                  exact ⟨g1482, v1496, t1497, s1498, ⟨rfl, rfl, rfl, rfl, rfl, trivial⟩, hS1504, (hb1499), (((((hm64).kn hk432 (by omega)).lo hk1227).lo hk1485).kn hk1495 (by omega)), (((((hO65).kd hk432 hd68).lo hk1227).lo hk1485).kd hk1495 hd68), ht1500, hq1501, hq1505⟩
                · refine SR.lit (vs := [.int .i64 0, .int .i64 1]) (L := ([0, 1] : List Int)) (enc := encI) tel30 (fun _ => rfl) rfl rfl rfl (by decide) ?_
                  intro g1506 w1507 hg1508 hk1509 hO1510
                  have hz1511 := hk1509.size
                  have hB1512 := hB1503.lo hk1509
                  have hS1513 := (hS1504).lo hk1509
                  have hd1514 : ¬ A55 = some ⟨g1506, 0, none⟩ := fun e' => by have := (((((hO65).kd hk432 hd68).lo hk1227).lo hk1485).kd hk1495 hd68).base_le e'; omega
                  have hd1515 : ¬ A56 = some ⟨g1506, 0, none⟩ := fun e' => by have := (((((hO66).kd hk432 hd72).lo hk1227).lo hk1485).kd hk1495 hd72).base_le e'; omega
                  refine SR.nil ⟨hS1513, _, rfl, ?_⟩
                  refine AH.goto (by kernel_rfl) rfl (hn1340 _ _ ?_)
                  exact ⟨g1482, v1496, t1497, s1498, g1506, ⟨rfl, rfl, rfl, rfl, rfl, rfl, trivial⟩, hS1513, ((hO1510).down (by omega)), ((hb1499).lo hk1509), ((((((hm64).kn hk432 (by omega)).lo hk1227).lo hk1485).kn hk1495 (by omega)).lo hk1509), ((((((hO65).kd hk432 hd68).lo hk1227).lo hk1485).kd hk1495 hd68).lo hk1509), (fun b_ h h' => hd1514 (h'.trans h.symm)), (fun b_ h h' => hd1515 (h'.trans h.symm)), ht1500, hq1501, hq1505⟩
              · refine SR.lit (vs := [.int .i64 0, .int .i64 1]) (L := ([0, 1] : List Int)) (enc := encI) tel30 (fun _ => rfl) rfl rfl rfl (by decide) ?_
                intro g1519 w1520 hg1521 hk1522 hO1523
                have hz1524 := hk1522.size
                have hB1525 := hB1488.lo hk1522
                have hS1526 := (hS1489).lo hk1522
                have hd1527 : ¬ A55 = some ⟨g1519, 0, none⟩ := fun e' => by have := ((((hO65).kd hk432 hd68).lo hk1227).lo hk1485).base_le e'; omega
                have hd1528 : ¬ A56 = some ⟨g1519, 0, none⟩ := fun e' => by have := ((((hO66).kd hk432 hd72).lo hk1227).lo hk1485).base_le e'; omega
                have hd1529 : ¬ (pA g1482) = some ⟨g1519, 0, none⟩ := fun e' => by have := (hO1486).base_le e'; omega
                refine SR.nil ⟨hS1526, _, rfl, ?_⟩
                refine AH.goto (by kernel_rfl) rfl (hn1432 _ _ ?_)
                exact ⟨g1482, g1519, ⟨rfl, rfl, rfl, rfl, rfl, rfl, rfl, trivial⟩, hS1526, (((hO1486).lo hk1522).down (by omega)), ((hO1523).down (by omega)), ((((hb436).lo hk1227).lo hk1485).lo hk1522), (((((hm64).kn hk432 (by omega)).lo hk1227).lo hk1485).lo hk1522), (((((hO65).kd hk432 hd68).lo hk1227).lo hk1485).lo hk1522), (fun b_ h h' => hd1490 (h'.trans h.symm)), (fun b_ h h' => hd1491 (h'.trans h.symm)), (fun b_ h h' => hd1529 (h.trans h'.symm)), (fun b_ h h' => hd1527 (h'.trans h.symm)), (fun b_ h h' => hd1528 (h'.trans h.symm))⟩
            · refine SR.lit (vs := [.int .i64 0, .int .i64 1]) (L := ([0, 1] : List Int)) (enc := encI) tel30 (fun _ => rfl) rfl rfl rfl (by decide) ?_
              intro g1535 w1536 hg1537 hk1538 hO1539
              have hz1540 := hk1538.size
              have hB1541 := hB1229.lo hk1538
              have hS1542 := ((Kp.refl w431 : Kp (fun b_ => b_ = gc ∨ A55 = some ⟨b_, 0, none⟩ ∨ b_ = g24) w431 w431).lo hk1227).lo hk1538
              have hd1543 : ¬ A55 = some ⟨g1535, 0, none⟩ := fun e' => by have := (((hO65).kd hk432 hd68).lo hk1227).base_le e'; omega
              have hd1544 : ¬ A56 = some ⟨g1535, 0, none⟩ := fun e' => by have := (((hO66).kd hk432 hd72).lo hk1227).base_le e'; omega
              refine SR.nil ⟨hS1542, _, rfl, ?_⟩
              refine AH.br [1, 3] (by kernel_rfl) rfl ⟨Br.mk' rfl trivial ?_, Br.mk' rfl trivial ?_, trivial⟩
              · refine SR.q' (r_ld (v := .slice A55 n55 c55) sca24 rfl (((((hm64).kn hk432 (by omega)).lo hk1227).lo hk1538).cell rfl)) ?_
                refine SR.nil ⟨hS1542, _, rfl, ?_⟩
                refine AH.goto (by kernel_rfl) rfl (hn1409 _ _ ?_)
                exact ⟨g1535, ⟨rfl, rfl, rfl, rfl, rfl, rfl, trivial⟩, hS1542, ((hO1539).down (by omega)), (((hb436).lo hk1227).lo hk1538), ((((hm64).kn hk432 (by omega)).lo hk1227).lo hk1538), ((((hO65).kd hk432 hd68).lo hk1227).lo hk1538), (fun b_ h h' => hd1543 (h'.trans h.symm)), (fun b_ h h' => hd1544 (h'.trans h.symm))⟩
              · refine SR.lit (vs := [.int .i64 0, .int .i64 1, .int .i64 99]) (L := ([0, 1, 99] : List Int)) (enc := encI) tel30 (fun _ => rfl) rfl rfl rfl (by decide) ?_
                intro g1547 w1548 hg1549 hk1550 hO1551
                have hz1552 := hk1550.size
                have hB1553 := hB1541.lo hk1550
                have hS1554 := (hS1542).lo hk1550
                have hd1555 : ¬ A55 = some ⟨g1547, 0, none⟩ := fun e' => by have := ((((hO65).kd hk432 hd68).lo hk1227).lo hk1538).base_le e'; omega
                have hd1556 : ¬ A56 = some ⟨g1547, 0, none⟩ := fun e' => by have := ((((hO66).kd hk432 hd72).lo hk1227).lo hk1538).base_le e'; omega
                have hd1557 : ¬ (pA g1535) = some ⟨g1547, 0, none⟩ := fun e' => by have := (hO1539).base_le e'; omega
                refine SR.nil ⟨hS1554, _, rfl, ?_⟩
                refine AH.goto (by kernel_rfl) rfl (hn1432 _ _ ?_)
                exact ⟨g1547, g1535, ⟨rfl, rfl, rfl, rfl, rfl, rfl, rfl, trivial⟩, hS1554, ((hO1551).down (by omega)), (((hO1539).lo hk1550).down (by omega)), ((((hb436).lo hk1227).lo hk1538).lo hk1550), (((((hm64).kn hk432 (by omega)).lo hk1227).lo hk1538).lo hk1550), (((((hO65).kd hk432 hd68).lo hk1227).lo hk1538).lo hk1550), (fun b_ h h' => hd1555 (h'.trans h.symm)), (fun b_ h h' => hd1556 (h'.trans h.symm)), (fun b_ h h' => hd1557 (h'.trans h.symm)), (fun b_ h h' => hd1543 (h'.trans h.symm)), (fun b_ h h' => hd1544 (h'.trans h.symm))⟩
          rintro f1563 w1564 ⟨A988, c989, g907, v925, t926, s927, g938, v957, t958, s959, g970, hat1566, hR1565, hm1018, hm1019, hm1020, hd1021, hd1022, hd1023, hd1024, ht929, hq930, hq934, ht961, hq962, hq966⟩
          rw [← sets_of_at hat1566]
          have hz1567 := hR1565.size
          have hB1568 := hB440.step hR1565 (fun i_ hi_ e' => e'.elim (fun e' => e') (fun e' => e'.elim (fun e' => by have := (((hO65).kd hk432 hd68)).base_le e'; exfalso; omega) (fun e' => by have e'' : i_ = g24 := e'; exfalso; omega)))
          refine W.seq ?_
          have hm1569 := ((hm63).kn hk432 (by omega)).kp hR1565 (fun e' => e'.elim (fun e' => by have e'' : g1 = gc := e'; omega) (fun e' => e'.elim (fun e' => hd69 e') (fun e' => by have e'' : g1 = g24 := e'; omega)))
          have hm1570 := ((hO66).kd hk432 hd72).kp hR1565 (fun b_ hb e' => e'.elim (fun e' => hd72 (by have e'' : b_ = gc := e'; rw [← e'']; exact hb)) (fun e' => e'.elim (fun e' => hd71 b_ e' hb) (fun e' => hd74 (by have e'' : b_ = g24 := e'; rw [← e'']; exact hb))))
          refine W.regS (SR.q' (r_lda (l := [.slice A988 (n55 + 1) c989, .slice A56 n56 c56, .int .i64 o.Bought, .int .i64 o.Dropped, .int .i64 o.Mended]) agg27 rfl (fun _ _ hu => (hm1020).cell hu) rfl) <| SR.store (o := 0) (vs := [.slice A988 (n55 + 1) c989, .slice A56 n56 c56, .int .i64 o.Bought, .int .i64 o.Dropped, .int .i64 o.Mended]) agg27.2 rfl rfl rfl rfl (hm1569) (Nat.le_of_ble_eq_true rfl) rfl ?_)
          intro w1571 hk1572 hs1573 hb1574
          have hz1575 := hk1572.size
          have hB1576 := hB1568.new hk1572 (by omega)
          refine SR.nil ?_
          refine W.ret ?_
          refine retC rfl rfl agg27 (hb1574) rfl ?_
          exact ⟨A988, n55 + 1, c989, A56, n56, c56, (⟨o.Maps ++ ([(⟨v925, 0, v957⟩ : LMap)] : List LMap), o.Away, o.Bought, o.Dropped, o.Mended⟩ : Library), t958, s959, eR (eA rfl), (SlO.eqv (((hm1018).kd hk1572 hd1022).down (by omega)) (by first | rfl | omega | grind)), (SlO.eqv (((hm1570).kd hk1572 hd73).down (by omega)) (by first | rfl | omega | grind)), hd1024, ((hm1019).kn hk1572 (by omega)), ⟨by omega, by omega⟩, (by first | omega | (simp only [List.length_append, List.length_cons, List.length_nil]; omega)), (by first | assumption | exact MapB.of (And.left (And.left ‹LibOK _›)) | exact MapB.app (MapB.of (And.left (And.left ‹LibOK _›))) (by first | omega | (dsimp only; omega)) | exact MapB.nil), hB1576⟩
        · refine W.seq ?_
          refine W.regS (SR.q' (r_eq rfl rfl) <| SR.q' (r_as (v := .bool _) rfl) <| SR.nil ?_)
          refine W.cond_d rfl (fun h1577 => ?_) (fun h1577 => ?_)
          · refine W.seq ?_
            refine W.regA (Kp (fun b_ => b_ = gc ∨ A56 = some ⟨b_, 0, none⟩ ∨ b_ = g24) w431) (fun f' w' => ∃ (g1751 : Nat) (v1769 : Int) (t1770 : Int) (s1771 : Int) (g1782 : Nat) (A1799 : Option Addr) (c1800 : Nat), At f' [(2, .pointer (pA g1)), (3, .pointer (pA g24))] ∧ (Kp (fun b_ => b_ = gc ∨ A56 = some ⟨b_, 0, none⟩ ∨ b_ = g24) w431 w') ∧ (SlO w' w.heap.size encAway 2 57 A1799 (n56 + 1) c1800 (o.Away ++ ([(⟨v1769, 5⟩ : Away)] : List Away))) ∧ (Blk w' gc ec [.slice Ac nc cc, .int .i64 t1770, .int .u64 s1771]) ∧ (Blk w' g24 27 [.slice A55 n55 c55, .slice A1799 (n56 + 1) c1800, .int .i64 o.Bought, .int .i64 o.Dropped, .int .i64 o.Mended]) ∧ (¬ A1799 = some ⟨gc, 0, none⟩) ∧ (¬ A1799 = some ⟨g1, 0, none⟩) ∧ (¬ A1799 = some ⟨g24, 0, none⟩) ∧ (∀ b_, A1799 = some ⟨b_, 0, none⟩ → ¬ A55 = some ⟨b_, 0, none⟩) ∧ (t434 ≤ t1770 ∧ t1770 ≤ t434 + 2) ∧ (v1769 ∈ ([0, 1, 99] : List Int)) ∧ ((0 : Int) ≤ v1769 ∧ v1769 ≤ 99)) mo ?_ ?_
            · intro w1883 hk1884
              have hz1885 := hk1884.size
              have hB1886 := hB440.lo hk1884
              refine AH.via #[true, true, true, true, true, true, true, false, false, false] 3 (fun f' w' => ∃ (g1751 : Nat) (v1769 : Int) (t1770 : Int) (s1771 : Int) (g1782 : Nat), At f' [(2, .pointer (pA g1)), (3, .pointer (pA g24)), (54, .slice A56 n56 c56), (59, .slice (pA g1782) 1 1)] ∧ (Kp (fun b_ => b_ = gc ∨ A56 = some ⟨b_, 0, none⟩ ∨ b_ = g24) w431 w') ∧ (SlO w' w431.heap.size encAway 2 57 (pA g1782) 1 1 ([(⟨v1769, 5⟩ : Away)] : List Away)) ∧ (Blk w' gc ec [.slice Ac nc cc, .int .i64 t1770, .int .u64 s1771]) ∧ (Blk w' g24 27 [.slice A55 n55 c55, .slice A56 n56 c56, .int .i64 o.Bought, .int .i64 o.Dropped, .int .i64 o.Mended]) ∧ (SlO w' w.heap.size encAway 2 57 A56 n56 c56 o.Away) ∧ (∀ b_, (pA g1782) = some ⟨b_, 0, none⟩ → ¬ A55 = some ⟨b_, 0, none⟩) ∧ (∀ b_, (pA g1782) = some ⟨b_, 0, none⟩ → ¬ A56 = some ⟨b_, 0, none⟩) ∧ (t434 ≤ t1770 ∧ t1770 ≤ t434 + 2) ∧ (v1769 ∈ ([0, 1, 99] : List Int)) ∧ ((0 : Int) ≤ v1769 ∧ v1769 ≤ 99)) ?_ (fun hn1887 => ?_)
              · rintro f1888 w1889 ⟨g1751, v1769, t1770, s1771, g1782, hat1891, hR1890, hm1793, hm1794, hm1795, hm1796, hd1797, hd1798, ht1773, hq1774, hq1778⟩
                rw [← sets_of_at hat1891]
                have hz1892 := hR1890.size
                have hB1893 := hB440.step hR1890 (fun i_ hi_ e' => e'.elim (fun e' => e') (fun e' => e'.elim (fun e' => by have := (((hO66).kd hk432 hd72)).base_le e'; exfalso; omega) (fun e' => by have e'' : i_ = g24 := e'; exfalso; omega)))
                refine AH.br [7] (by kernel_rfl) rfl ⟨Br.mk' rfl trivial ?_, trivial⟩
                refine SR.app tel25 rfl rfl (hm1796) ((hm1793).rd) (fun _ => rfl) (by omega) (by omega) ?_
                intro A1894 c1895 w1896 hk1897 hO1898 hN1899
                have hz1900 := hk1897.size
                have hB1901 := hB1893.step hk1897 (fun i_ hi_ e' => by have := ((hm1796)).base_le e'; first | omega | (exfalso; omega) | exact e' | exact .inl e' | exact .inr e')
                have hS1902 := (hR1890).step hk1897 (fun _ _ e => .inr (.inl e))
                have hd1903 : ¬ A1894 = some ⟨gc, 0, none⟩ := fun e' => (hN1899 gc e').elim (fun h => hd72 (h.trans e')) (fun h => by have := (hm1794).lt; omega)
                have hd1904 : ¬ A1894 = some ⟨g1, 0, none⟩ := fun e' => (hN1899 g1 e').elim (fun h => hd73 (h.trans e')) (fun h => by have := (((hm63).kn hk432 (by omega)).kp hR1890 (fun e' => e'.elim (fun e' => by have e'' : g1 = gc := e'; omega) (fun e' => e'.elim (fun e' => hd73 e') (fun e' => by have e'' : g1 = g24 := e'; omega)))).lt; omega)
                have hd1905 : ¬ A1894 = some ⟨g24, 0, none⟩ := fun e' => (hN1899 g24 e').elim (fun h => hd74 (h.trans e')) (fun h => by have := (hm1795).lt; omega)
                have hd1906 : ∀ b_, A1894 = some ⟨b_, 0, none⟩ → ¬ A55 = some ⟨b_, 0, none⟩ := fun b_ e' h' => (hN1899 b_ e').elim (fun h => hd71 b_ h' (h.trans e')) (fun h => by have := (((hO65).kd hk432 hd68).kp hR1890 (fun b_ hb e' => e'.elim (fun e' => hd68 (by have e'' : b_ = gc := e'; rw [← e'']; exact hb)) (fun e' => e'.elim (fun e' => hd71 b_ hb e') (fun e' => hd70 (by have e'' : b_ = g24 := e'; rw [← e'']; exact hb))))).base_le h'; omega)
                refine SR.nil ⟨hS1902, _, rfl, ?_⟩
                refine AH.take 8 rfl (by kernel_rfl) trivial (hS1902) (fun w' hw' => r_fa fa27_1 rfl) <| AH.br [9] (by kernel_rfl) rfl ⟨Br.mk' rfl trivial ?_, trivial⟩
                refine SR.store (o := 1) (vs := [.slice A1894 (n56 + 1) c1895]) sca25.2 rfl rfl rfl rfl ((hm1795).kp hk1897 (fun e' => hd74 e')) (Nat.le_of_ble_eq_true rfl) rfl ?_
                intro w1908 hk1909 hs1910 hb1911
                have hz1912 := hk1909.size
                have hB1913 := hB1901.new hk1909 (by omega)
                have hS1914 := (hS1902).step hk1909 (fun _ _ e => .inr (.inr (e)))
                refine SR.nil ⟨hS1914, _, rfl, ?_⟩
                refine AH.done (by kernel_rfl) ?_
                exact ⟨g1751, v1769, t1770, s1771, g1782, A1894, c1895, ⟨rfl, rfl, trivial⟩, hS1914, ((hO1898).kd hk1909 hd1905), (((hm1794).kp hk1897 (fun e' => hd72 e')).kn hk1909 (by omega)), (hb1911), hd1903, hd1904, hd1905, hd1906, ht1773, hq1774, hq1778⟩
              refine AH.via #[true, true, true, true, true, true, false, false, false, false] 4 (fun f' w' => ∃ (g1751 : Nat) (v1769 : Int) (t1770 : Int) (s1771 : Int), At f' [(2, .pointer (pA g1)), (3, .pointer (pA g24)), (54, .slice A56 n56 c56), (58, .agg (List.toArray [.int .i64 v1769, .int .i64 5]))] ∧ (Kp (fun b_ => b_ = gc ∨ A56 = some ⟨b_, 0, none⟩ ∨ b_ = g24) w431 w') ∧ (Blk w' gc ec [.slice Ac nc cc, .int .i64 t1770, .int .u64 s1771]) ∧ (Blk w' g24 27 [.slice A55 n55 c55, .slice A56 n56 c56, .int .i64 o.Bought, .int .i64 o.Dropped, .int .i64 o.Mended]) ∧ (SlO w' w.heap.size encAway 2 57 A56 n56 c56 o.Away) ∧ (t434 ≤ t1770 ∧ t1770 ≤ t434 + 2) ∧ (v1769 ∈ ([0, 1, 99] : List Int)) ∧ ((0 : Int) ≤ v1769 ∧ v1769 ≤ 99)) ?_ (fun hn1919 => ?_)
              · rintro f1920 w1921 ⟨g1751, v1769, t1770, s1771, hat1923, hR1922, hm1779, hm1780, hm1781, ht1773, hq1774, hq1778⟩
                rw [← sets_of_at hat1923]
                have hz1924 := hR1922.size
                have hB1925 := hB440.step hR1922 (fun i_ hi_ e' => e'.elim (fun e' => e') (fun e' => e'.elim (fun e' => by have := (((hO66).kd hk432 hd72)).base_le e'; exfalso; omega) (fun e' => by have e'' : i_ = g24 := e'; exfalso; omega)))
                refine AH.br [6] (by kernel_rfl) rfl ⟨Br.mk' rfl trivial ?_, trivial⟩
                refine SR.lit (vs := [.agg (List.toArray [.int .i64 v1769, .int .i64 5])]) (L := ([(⟨v1769, 5⟩ : Away)] : List Away)) (enc := encAway) tel25 (fun _ => rfl) rfl rfl rfl (by decide) ?_
                intro g1926 w1927 hg1928 hk1929 hO1930
                have hz1931 := hk1929.size
                have hB1932 := hB1925.lo hk1929
                have hS1933 := (hR1922).lo hk1929
                have hd1934 : ¬ A55 = some ⟨g1926, 0, none⟩ := fun e' => by have := (((hO65).kd hk432 hd68).kp hR1922 (fun b_ hb e' => e'.elim (fun e' => hd68 (by have e'' : b_ = gc := e'; rw [← e'']; exact hb)) (fun e' => e'.elim (fun e' => hd71 b_ hb e') (fun e' => hd70 (by have e'' : b_ = g24 := e'; rw [← e'']; exact hb))))).base_le e'; omega
                have hd1935 : ¬ A56 = some ⟨g1926, 0, none⟩ := fun e' => by have := (hm1781).base_le e'; omega
                refine SR.nil ⟨hS1933, _, rfl, ?_⟩
                refine AH.goto (by kernel_rfl) rfl (hn1887 _ _ ?_)
                exact ⟨g1751, v1769, t1770, s1771, g1926, ⟨rfl, rfl, rfl, rfl, trivial⟩, hS1933, ((hO1930).down (by omega)), ((hm1779).lo hk1929), ((hm1780).lo hk1929), ((hm1781).lo hk1929), (fun b_ h h' => hd1934 (h'.trans h.symm)), (fun b_ h h' => hd1935 (h'.trans h.symm)), ht1773, hq1774, hq1778⟩
              refine AH.via #[true, true, true, true, false, false, false, false, false, false] 6 (fun f' w' => ∃ (g1751 : Nat), At f' [(2, .pointer (pA g1)), (3, .pointer (pA g24)), (54, .slice A56 n56 c56), (55, .pointer (pA gc)), (56, .slice (pA g1751) 3 3)] ∧ (Kp (fun b_ => b_ = gc ∨ A56 = some ⟨b_, 0, none⟩ ∨ b_ = g24) w431 w') ∧ (SlO w' w431.heap.size encI 1 3 (pA g1751) 3 3 ([0, 1, 99] : List Int)) ∧ (Blk w' gc ec [.slice Ac nc cc, .int .i64 t434, .int .u64 s435]) ∧ (Blk w' g24 27 [.slice A55 n55 c55, .slice A56 n56 c56, .int .i64 o.Bought, .int .i64 o.Dropped, .int .i64 o.Mended]) ∧ (SlO w' w.heap.size encAway 2 57 A56 n56 c56 o.Away) ∧ (∀ b_, (pA g1751) = some ⟨b_, 0, none⟩ → ¬ A55 = some ⟨b_, 0, none⟩) ∧ (∀ b_, (pA g1751) = some ⟨b_, 0, none⟩ → ¬ A56 = some ⟨b_, 0, none⟩)) ?_ (fun hn1938 => ?_)
              · rintro f1939 w1940 ⟨g1751, hat1942, hR1941, hm1761, hm1762, hm1763, hm1764, hd1765, hd1766⟩
                rw [← sets_of_at hat1942]
                have hz1943 := hR1941.size
                have hB1944 := hB440.step hR1941 (fun i_ hi_ e' => e'.elim (fun e' => e') (fun e' => e'.elim (fun e' => by have := (((hO66).kd hk432 hd72)).base_le e'; exfalso; omega) (fun e' => by have e'' : i_ = g24 := e'; exfalso; omega)))
                refine AH.br [4] (by kernel_rfl) rfl ⟨Br.mk' rfl trivial ?_, trivial⟩
                refine SR.call ent26 (c___spec_l1Cur__among w1940 Lc t434 s435 (hm1762) ((((hm62).kn hk432 (by omega)).kp hR1941 (fun b_ hb e' => e'.elim (fun e' => by have e'' : b_ = gc := e'; omega) (fun e' => e'.elim (fun e' => by have := (((hO66).kd hk432 hd72)).base_le e'; omega) (fun e' => by have e'' : b_ = g24 := e'; omega))))) (by omega) (by omega) ([0, 1, 99] : List Int) (((hm1761).rd)) (by omega) (by omega) (show ¬ g1751 = gc from by first | omega | (have := (hm1761).base_le rfl; omega))) rfl ?_
                rintro e w1945 ⟨v1947, t1948, s1949, rfl, hb1950, ht1951, hq1952, hk1946⟩
                refine ⟨_, rfl, ?_⟩
                have hz1953 := hk1946.size
                have hB1954 := hB1944.step hk1946 (fun i_ hi_ e' => e')
                have hS1955 := (hR1941).step hk1946 (fun _ _ e => .inl e)
                have hq1956 : (0 : Int) ≤ v1947 ∧ v1947 ≤ 99 := mem_rngB (lo := 0) (hi := 99) (by decide) hq1952
                refine SR.nil ⟨hS1955, _, rfl, ?_⟩
                refine AH.take 5 rfl (by kernel_rfl) trivial (hS1955) (fun w' hw' => r_build (vs := [(0, .int .i64 v1947), (1, .int .i64 5)]) rfl (bld57_0_1 _ _)) <| AH.goto (by kernel_rfl) rfl (hn1919 _ _ ?_)
                exact ⟨g1751, v1947, t1948, s1949, ⟨rfl, rfl, rfl, rfl, trivial⟩, hS1955, (hb1950), ((hm1763).kn hk1946 (by omega)), ((hm1764).kd hk1946 hd72), ht1951, hq1952, hq1956⟩
              refine AH.take 0 rfl (by kernel_rfl) trivial ((Kp.refl w431 : Kp (fun b_ => b_ = gc ∨ A56 = some ⟨b_, 0, none⟩ ∨ b_ = g24) w431 w431).lo hk1884) (fun w' hw' => r_fa fa27_1 rfl) <| AH.take 2 rfl (by kernel_rfl) trivial ((Kp.refl w431 : Kp (fun b_ => b_ = gc ∨ A56 = some ⟨b_, 0, none⟩ ∨ b_ = g24) w431 w431).lo hk1884) (fun w' hw' => r_mv (v := .pointer (some _)) rfl) <| AH.br [1, 3] (by kernel_rfl) rfl ⟨Br.mk' rfl trivial ?_, Br.mk' rfl trivial ?_, trivial⟩
              · refine SR.q' (r_ld (v := .slice A56 n56 c56) sca25 rfl ((((hm64).kn hk432 (by omega)).lo hk1884).cell rfl)) ?_
                refine SR.nil ⟨(Kp.refl w431 : Kp (fun b_ => b_ = gc ∨ A56 = some ⟨b_, 0, none⟩ ∨ b_ = g24) w431 w431).lo hk1884, _, rfl, ?_⟩
                refine AH.br [3] (by kernel_rfl) rfl ⟨Br.mk' rfl trivial ?_, trivial⟩
                refine SR.lit (vs := [.int .i64 0, .int .i64 1, .int .i64 99]) (L := ([0, 1, 99] : List Int)) (enc := encI) tel30 (fun _ => rfl) rfl rfl rfl (by decide) ?_
                intro g1957 w1958 hg1959 hk1960 hO1961
                have hz1962 := hk1960.size
                have hB1963 := hB1886.lo hk1960
                have hS1964 := ((Kp.refl w431 : Kp (fun b_ => b_ = gc ∨ A56 = some ⟨b_, 0, none⟩ ∨ b_ = g24) w431 w431).lo hk1884).lo hk1960
                have hd1965 : ¬ A55 = some ⟨g1957, 0, none⟩ := fun e' => by have := (((hO65).kd hk432 hd68).lo hk1884).base_le e'; omega
                have hd1966 : ¬ A56 = some ⟨g1957, 0, none⟩ := fun e' => by have := (((hO66).kd hk432 hd72).lo hk1884).base_le e'; omega
                refine SR.nil ⟨hS1964, _, rfl, ?_⟩
                refine AH.goto (by kernel_rfl) rfl (hn1938 _ _ ?_)
                exact ⟨g1957, ⟨rfl, rfl, rfl, rfl, rfl, trivial⟩, hS1964, ((hO1961).down (by omega)), (((hb436).lo hk1884).lo hk1960), ((((hm64).kn hk432 (by omega)).lo hk1884).lo hk1960), ((((hO66).kd hk432 hd72).lo hk1884).lo hk1960), (fun b_ h h' => hd1965 (h'.trans h.symm)), (fun b_ h h' => hd1966 (h'.trans h.symm))⟩
              · refine SR.lit (vs := [.int .i64 0, .int .i64 1, .int .i64 99]) (L := ([0, 1, 99] : List Int)) (enc := encI) tel30 (fun _ => rfl) rfl rfl rfl (by decide) ?_
                intro g1969 w1970 hg1971 hk1972 hO1973
                have hz1974 := hk1972.size
                have hB1975 := hB1886.lo hk1972
                have hS1976 := ((Kp.refl w431 : Kp (fun b_ => b_ = gc ∨ A56 = some ⟨b_, 0, none⟩ ∨ b_ = g24) w431 w431).lo hk1884).lo hk1972
                have hd1977 : ¬ A55 = some ⟨g1969, 0, none⟩ := fun e' => by have := (((hO65).kd hk432 hd68).lo hk1884).base_le e'; omega
                have hd1978 : ¬ A56 = some ⟨g1969, 0, none⟩ := fun e' => by have := (((hO66).kd hk432 hd72).lo hk1884).base_le e'; omega
                refine SR.nil ⟨hS1976, _, rfl, ?_⟩
                refine AH.br [1, 4] (by kernel_rfl) rfl ⟨Br.mk' rfl trivial ?_, Br.mk' rfl trivial ?_, trivial⟩
                · refine SR.q' (r_ld (v := .slice A56 n56 c56) sca25 rfl (((((hm64).kn hk432 (by omega)).lo hk1884).lo hk1972).cell rfl)) ?_
                  refine SR.nil ⟨hS1976, _, rfl, ?_⟩
                  refine AH.goto (by kernel_rfl) rfl (hn1938 _ _ ?_)
                  exact ⟨g1969, ⟨rfl, rfl, rfl, rfl, rfl, trivial⟩, hS1976, ((hO1973).down (by omega)), (((hb436).lo hk1884).lo hk1972), ((((hm64).kn hk432 (by omega)).lo hk1884).lo hk1972), ((((hO66).kd hk432 hd72).lo hk1884).lo hk1972), (fun b_ h h' => hd1977 (h'.trans h.symm)), (fun b_ h h' => hd1978 (h'.trans h.symm))⟩
                · refine SR.call ent26 (c___spec_l1Cur__among w1970 Lc t434 s435 (((hb436).lo hk1884).lo hk1972) (((((hm62).kn hk432 (by omega)).lo hk1884).lo hk1972)) (by omega) (by omega) ([0, 1, 99] : List Int) (((hO1973).rd)) (by omega) (by omega) (show ¬ g1969 = gc from by first | omega | (have := (hO1973).base_le rfl; omega))) rfl ?_
                  rintro e w1981 ⟨v1983, t1984, s1985, rfl, hb1986, ht1987, hq1988, hk1982⟩
                  refine ⟨_, rfl, ?_⟩
                  have hz1989 := hk1982.size
                  have hB1990 := hB1975.step hk1982 (fun i_ hi_ e' => e')
                  have hS1991 := (hS1976).step hk1982 (fun _ _ e => .inl e)
                  have hq1992 : (0 : Int) ≤ v1983 ∧ v1983 ≤ 99 := mem_rngB (lo := 0) (hi := 99) (by decide) hq1988
                  refine SR.nil ⟨hS1991, _, rfl, ?_⟩
                  refine AH.take 5 rfl (by kernel_rfl) trivial (hS1991) (fun w' hw' => r_build (vs := [(0, .int .i64 v1983), (1, .int .i64 5)]) rfl (bld57_0_1 _ _)) <| AH.br [1, 6] (by kernel_rfl) rfl ⟨Br.mk' rfl trivial ?_, Br.mk' rfl trivial ?_, trivial⟩
                  · refine SR.q' (r_ld (v := .slice A56 n56 c56) sca25 rfl ((((((hm64).kn hk432 (by omega)).lo hk1884).lo hk1972).kn hk1982 (by omega)).cell rfl)) ?_
                    refine SR.nil ⟨hS1991, _, rfl, ?_⟩
                    refine AH.goto (by kernel_rfl) rfl (hn1919 _ _ ?_)
                    exact ⟨g1969, v1983, t1984, s1985, ⟨rfl, rfl, rfl, rfl, trivial⟩, hS1991, (hb1986), (((((hm64).kn hk432 (by omega)).lo hk1884).lo hk1972).kn hk1982 (by omega)), (((((hO66).kd hk432 hd72).lo hk1884).lo hk1972).kd hk1982 hd72), ht1987, hq1988, hq1992⟩
                  · refine SR.lit (vs := [.agg (List.toArray [.int .i64 v1983, .int .i64 5])]) (L := ([(⟨v1983, 5⟩ : Away)] : List Away)) (enc := encAway) tel25 (fun _ => rfl) rfl rfl rfl (by decide) ?_
                    intro g1993 w1994 hg1995 hk1996 hO1997
                    have hz1998 := hk1996.size
                    have hB1999 := hB1990.lo hk1996
                    have hS2000 := (hS1991).lo hk1996
                    have hd2001 : ¬ A55 = some ⟨g1993, 0, none⟩ := fun e' => by have := (((((hO65).kd hk432 hd68).lo hk1884).lo hk1972).kd hk1982 hd68).base_le e'; omega
                    have hd2002 : ¬ A56 = some ⟨g1993, 0, none⟩ := fun e' => by have := (((((hO66).kd hk432 hd72).lo hk1884).lo hk1972).kd hk1982 hd72).base_le e'; omega
                    refine SR.nil ⟨hS2000, _, rfl, ?_⟩
                    refine AH.br [1] (by kernel_rfl) rfl ⟨Br.mk' rfl trivial ?_, trivial⟩
                    refine SR.q' (r_ld (v := .slice A56 n56 c56) sca25 rfl (((((((hm64).kn hk432 (by omega)).lo hk1884).lo hk1972).kn hk1982 (by omega)).lo hk1996).cell rfl)) ?_
                    refine SR.nil ⟨hS2000, _, rfl, ?_⟩
                    refine AH.goto (by kernel_rfl) rfl (hn1887 _ _ ?_)
                    exact ⟨g1969, v1983, t1984, s1985, g1993, ⟨rfl, rfl, rfl, rfl, trivial⟩, hS2000, ((hO1997).down (by omega)), ((hb1986).lo hk1996), ((((((hm64).kn hk432 (by omega)).lo hk1884).lo hk1972).kn hk1982 (by omega)).lo hk1996), ((((((hO66).kd hk432 hd72).lo hk1884).lo hk1972).kd hk1982 hd72).lo hk1996), (fun b_ h h' => hd2001 (h'.trans h.symm)), (fun b_ h h' => hd2002 (h'.trans h.symm)), ht1987, hq1988, hq1992⟩
            rintro f2006 w2007 ⟨g1751, v1769, t1770, s1771, g1782, A1799, c1800, hat2009, hR2008, hm1828, hm1829, hm1830, hd1831, hd1832, hd1833, hd1834, ht1773, hq1774, hq1778⟩
            rw [← sets_of_at hat2009]
            have hz2010 := hR2008.size
            have hB2011 := hB440.step hR2008 (fun i_ hi_ e' => e'.elim (fun e' => e') (fun e' => e'.elim (fun e' => by have := (((hO66).kd hk432 hd72)).base_le e'; exfalso; omega) (fun e' => by have e'' : i_ = g24 := e'; exfalso; omega)))
            have hm2012 := ((hm63).kn hk432 (by omega)).kp hR2008 (fun e' => e'.elim (fun e' => by have e'' : g1 = gc := e'; omega) (fun e' => e'.elim (fun e' => hd73 e') (fun e' => by have e'' : g1 = g24 := e'; omega)))
            have hm2013 := ((hO65).kd hk432 hd68).kp hR2008 (fun b_ hb e' => e'.elim (fun e' => hd68 (by have e'' : b_ = gc := e'; rw [← e'']; exact hb)) (fun e' => e'.elim (fun e' => hd71 b_ hb e') (fun e' => hd70 (by have e'' : b_ = g24 := e'; rw [← e'']; exact hb))))
            refine W.regS (SR.q' (r_fa fa27_2 rfl) <| SR.q' (r_ld (v := .int .i64 o.Bought) sca3 rfl ((hm1830).cell rfl)) <| SR.q' (r_add rfl rfl (by omega)) <| SR.q' (r_fa fa27_2 rfl) <| SR.store (o := 2) (vs := [.int .i64 (o.Bought + 1)]) sca3.2 rfl rfl rfl rfl (hm1830) (Nat.le_of_ble_eq_true rfl) rfl ?_)
            intro w2014 hk2015 hs2016 hb2017
            have hz2018 := hk2015.size
            have hB2019 := hB2011.new hk2015 (by omega)
            refine SR.nil ?_
            refine W.seq ?_
            refine W.regS (SR.q' (r_lda (l := [.slice A55 n55 c55, .slice A1799 (n56 + 1) c1800, .int .i64 (o.Bought + 1), .int .i64 o.Dropped, .int .i64 o.Mended]) agg27 rfl (fun _ _ hu => (hb2017).cell hu) rfl) <| SR.store (o := 0) (vs := [.slice A55 n55 c55, .slice A1799 (n56 + 1) c1800, .int .i64 (o.Bought + 1), .int .i64 o.Dropped, .int .i64 o.Mended]) agg27.2 rfl rfl rfl rfl ((hm2012).kn hk2015 (by omega)) (Nat.le_of_ble_eq_true rfl) rfl ?_)
            intro w2020 hk2021 hs2022 hb2023
            have hz2024 := hk2021.size
            have hB2025 := hB2019.new hk2021 (by omega)
            refine SR.nil ?_
            refine W.ret ?_
            refine retC rfl rfl agg27 (hb2023) rfl ?_
            exact ⟨A55, n55, c55, A1799, n56 + 1, c1800, (⟨o.Maps, o.Away ++ ([(⟨v1769, 5⟩ : Away)] : List Away), o.Bought + 1, o.Dropped, o.Mended⟩ : Library), t1770, s1771, eR (eA rfl), (SlO.eqv ((((hm2013).kd hk2015 hd70).kd hk2021 hd69).down (by omega)) (by first | rfl | omega | grind)), (SlO.eqv ((((hm1828).kd hk2015 hd1833).kd hk2021 hd1832).down (by omega)) (by first | rfl | omega | grind)), (fun b_ h h' => hd1834 b_ h' h), (((hm1829).kn hk2015 (by omega)).kn hk2021 (by omega)), ⟨by omega, by omega⟩, (by first | omega | (simp only [List.length_append, List.length_cons, List.length_nil]; omega)), hq84, hB2025⟩
          · refine W.skip ?_
            refine W.seq ?_
            refine W.regS (SR.q' (r_lda (l := [.slice A55 n55 c55, .slice A56 n56 c56, .int .i64 o.Bought, .int .i64 o.Dropped, .int .i64 o.Mended]) agg27 rfl (fun _ _ hu => ((hm64).kn hk432 (by omega)).cell hu) rfl) <| SR.store (o := 0) (vs := [.slice A55 n55 c55, .slice A56 n56 c56, .int .i64 o.Bought, .int .i64 o.Dropped, .int .i64 o.Mended]) agg27.2 rfl rfl rfl rfl ((hm63).kn hk432 (by omega)) (Nat.le_of_ble_eq_true rfl) rfl ?_)
            intro w2026 hk2027 hs2028 hb2029
            have hz2030 := hk2027.size
            have hB2031 := hB440.new hk2027 (by omega)
            refine SR.nil ?_
            refine W.ret ?_
            refine retC rfl rfl agg27 (hb2029) rfl ?_
            exact ⟨A55, n55, c55, A56, n56, c56, o, t434, s435, eR rfl, ((((hO65).kd hk432 hd68).kd hk2027 hd69).down (by omega)), ((((hO66).kd hk432 hd72).kd hk2027 hd73).down (by omega)), hd71, ((hb436).kn hk2027 (by omega)), ⟨by omega, by omega⟩, (by first | omega | (simp only [List.length_append, List.length_cons, List.length_nil]; omega)), hq84, hB2031⟩
end Go.Proofs.YtgobbcilgcbkaaaDoor
