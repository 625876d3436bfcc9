/- Walks, printed by a program of this claim's author. -/
import Derived.Test.YthgbcadgnihdiaaGreatDoorChecked
import Derived.Test.YthgbcadgnihdiaaGreatDoorRa
import Derived.Test.YthgbcadgnihdiaaGreatDoorFu
import Derived.Test.YthgbcadgnihdiaaGreatDoorFo
import Derived.Test.YthgbcadgnihdiaaGreatDoorFp
import Derived.Test.YthgbcadgnihdiaaGreatDoorFt
import Derived.Test.YthgbcadgnihdiaaGreatDoorG30y
namespace Go.Proofs.YthgbcadgnihdiaaGreatDoor
open Go Go.RowKit Fw
set_option maxRecDepth 10000
set_option linter.unusedVariables false
theorem bld52_0 (a0 : Option Addr) (b0 c0 : Nat) : Tryz.prog.built 52 [(0, .slice a0 b0 c0)] = some (List.toArray [.slice a0 b0 c0, .int .i64 0, .int .u64 0]) := by kernel_rfl
theorem ent27 : Ent Tryz.prog 27 := ent_of Tryz.func27 (by decide +kernel) rfl
theorem ent28 : Ent Tryz.prog 28 := ent_of Tryz.func28 (by decide +kernel) rfl
theorem ent47 : Ent Tryz.prog 47 := ent_of Tryz.func47 (by decide +kernel) rfl
theorem ent58 : Ent Tryz.prog 58 := ent_of Tryz.func58 (by decide +kernel) rfl
theorem eqg45 : Tryz.prog.eqGuardType Tryz.prog.depth 45 = false := by kernel_rfl
theorem eql45 (a b : Visit) (w : World) : (binOp .eql 45 (.agg (List.toArray (encVisit a))) (.agg (List.toArray (encVisit b)))).run Tryz.prog w = .ok (.bool (decide (a = b))) w := by
  have u3 := Tryz.underlying3
  have a3 := Tryz.isAgg3
  have z3 := Tryz.sizeOf3
  have hS : Tryz.prog.underlying 45 = some (.struct (Tryz.prog.fieldsOf 45)) := by kernel_rfl
  have hp : Tryz.prog.stoodInHeld 45 = false := by kernel_rfl
  have hd : (a = b) ↔ a.Reader = b.Reader ∧ a.Seat = b.Seat ∧ a.From = b.From ∧ a.Until = b.Until := by cases a; cases b; simp
  simp only [encVisit, hd]
  rw [run_eql_struct, show (10000 : Nat) = 9999 + 1 from rfl, run_equalIn_agg w 9999 45 _ _ hS hp]
  simp only [Program.fieldsOf, Tryz.underlying45]
  go_simp
  skip
  by_cases h0 : a.Reader = b.Reader <;> by_cases h1 : a.Seat = b.Seat <;> by_cases h2 : a.From = b.From <;> by_cases h3 : a.Until = b.Until <;> simp [h0, h1, h2, h3]

theorem z_c___spec_l1Cur__visitor_30 (Lc : List UInt8) (tc : Int) (sc : Int) (nc : Nat) (htc : 0 ≤ tc ∧ tc + 4 ≤ 4611686018427387904) (hbdc : (nc : Int) ≤ 9223372036854775807) (hlec : nc = Lc.length) (v10 : Int) (t11 : Int) (s12 : Int) (ht14 : tc ≤ t11 ∧ t11 ≤ tc + 2) (hq15 : (0 : Int) ≤ v10 ∧ ((v10 : Int) < 24 ∨ (v10 : Int) = 0)) (v20 : Int) (t21 : Int) (s22 : Int) (ht24 : t11 ≤ t21 ∧ t21 ≤ t11 + 2) (hq25 : v20 ∈ (([1, 2, 3, 4, 999, 7, 0, 1000] : List Int).take ((7 + (v10 / 12)).toNat))) (hq28 : v20 ∈ ([1, 2, 3, 4, 999, 7, 0, 1000] : List Int)) (hq29 : (0 : Int) ≤ v20 ∧ v20 ≤ 1000) : -1000000000 ≤ v20 ∧ v20 ≤ 1000000000 := by
  omega
theorem c___spec_l1Cur__visitor (w : World) {gc ec : Nat} {Ac : Option Addr} {nc cc Bc : Nat} (Lc : List UInt8) (tc sc : Int) (hc : Blk w gc ec [.slice Ac nc cc, .int .i64 tc, .int .u64 sc]) (hLc : SlR w Bc encB 1 Ac nc cc Lc) (hgc : Bc ≤ gc) (htc : 0 ≤ tc ∧ tc + 4 ≤ 4611686018427387904) : Calls Tryz.prog 47 #[.pointer (some ⟨gc, 0, none⟩)] w fun e w' => ∃ (v : Int) (tc' sc' : Int), e = .returned (.int .i64 v) ∧ Blk w' gc ec [.slice Ac nc cc, .int .i64 tc', .int .u64 sc'] ∧ (tc ≤ tc' ∧ tc' ≤ tc + 4) ∧ (-1000000000 ≤ v ∧ v ≤ 1000000000) ∧ Kp (fun b_ => b_ = gc) w w' := by
  refine calls_W 11 Tryz.func47 rfl rfl rfl ?_
  have hBlc := hc.lt
  have hbdc := hLc.bound
  have hlec := hLc.len
  have hBbc := hLc.bd
  refine W.seq ?_
  refine W.regS (SR.q' (r_as (v := .int .i64 0) rfl) <| SR.nil ?_)
  refine W.seq ?_
  refine W.regS (SR.q' (r_mv (v := .pointer (some _)) rfl) <| SR.lit (vs := [.int .i64 1, .int .i64 2, .int .i64 3, .int .i64 4, .int .i64 999, .int .i64 7, .int .i64 0, .int .i64 1000]) (L := ([1, 2, 3, 4, 999, 7, 0, 1000] : List Int)) (enc := encI) tel27 (fun _ => rfl) rfl rfl rfl (by decide) ?_)
  intro g1 w2 hg3 hk4 hO5
  have hz6 := hk4.size
  have hB7 := (Kp.refl w : Kp (fun b_ => b_ = gc) w w).lo hk4
  refine SR.q' (r_mv (v := .pointer (some _)) rfl) <| SR.call ent37 (c___spec_l1Cur__pick w2 Lc tc sc ((hc).lo hk4) (((hLc).lo hk4)) (by omega) (by omega) 24 (by first | omega | (simp only [List.length_append, List.length_cons, List.length_nil, List.length_take, List.length_drop]; omega))) rfl ?_
  rintro e w8 ⟨v10, t11, s12, rfl, hb13, ht14, hq15, hk9⟩
  refine ⟨_, rfl, ?_⟩
  have hz16 := hk9.size
  have hB17 := hB7.step hk9 (fun i_ hi_ e' => e')
  refine SR.q' (r_quo rfl rfl (by omega)) <| SR.q' (r_add rfl rfl (by omega)) <| SR.q' (r_cuth (h := (7 + (v10 / 12)).toNat) tsl27 rfl rfl (by omega) (Nat.le_trans (by omega : (7 + (v10 / 12)).toNat ≤ 8) ((hO5).kn hk9 (by omega)).rd.cap)) <| SR.call ent36 (c___spec_l1Cur__among w8 Lc t11 s12 (hb13) ((((hLc).lo hk4).kn hk9 (by omega))) (by omega) (by omega) (([1, 2, 3, 4, 999, 7, 0, 1000] : List Int).take ((7 + (v10 / 12)).toNat)) (((((hO5).kn hk9 (by omega)).head (h := (7 + (v10 / 12)).toNat) (by omega)).rd)) (by omega) (by omega) (show ¬ g1 = gc from by first | omega | (have := (((hO5).kn hk9 (by omega)).head (h := (7 + (v10 / 12)).toNat) (by omega)).base_le rfl; omega))) rfl ?_
  rintro e w18 ⟨v20, t21, s22, rfl, hb23, ht24, hq25, hk19⟩
  refine ⟨_, rfl, ?_⟩
  have hz26 := hk19.size
  have hB27 := hB17.step hk19 (fun i_ hi_ e' => e')
  have hq28 := List.mem_of_mem_take hq25
  have hq29 : (0 : Int) ≤ v20 ∧ v20 ≤ 1000 := mem_rngB (lo := 0) (hi := 1000) (by decide) hq28
  refine SR.q' (r_as (v := .int .i64 _) rfl) <| SR.nil ?_
  refine W.ret ?_
  refine ret1 rfl (v := .int .i64 _) rfl ?_
  exact ⟨v20, t21, s22, eR rfl, (hb23), ⟨by omega, by omega⟩, (z_c___spec_l1Cur__visitor_30 Lc tc sc nc htc hbdc hlec v10 t11 s12 ht14 hq15 v20 t21 s22 ht24 hq25 hq28 hq29), hB27⟩

theorem z_c___spec_l1Cur__minute30_31 (Lc : List UInt8) (tc : Int) (sc : Int) (nc : Nat) (htc : 0 ≤ tc ∧ tc + 6 ≤ 4611686018427387904) (hbdc : (nc : Int) ≤ 9223372036854775807) (hlec : nc = Lc.length) (L : List Visit) (nL : Nat) (hbdL : (nL : Int) ≤ 9223372036854775807) (hleL : nL = L.length) (hp0 : VsB L) (hp1 : nL ≤ 60) (h1 : (nL : Int) = 0) (v11 : Int) (t12 : Int) (s13 : Int) (ht15 : tc ≤ t12 ∧ t12 ≤ tc + 2) (hq16 : (0 : Int) ≤ v11 ∧ ((v11 : Int) < 24 ∨ (v11 : Int) = 0)) (v21 : Int) (t22 : Int) (s23 : Int) (ht25 : t12 ≤ t22 ∧ t22 ≤ t12 + 2) (hq26 : v21 ∈ (([480, 600, 1199, 1200, 479, 1201] : List Int).take ((4 + (v11 / 11)).toNat))) (hq29 : v21 ∈ ([480, 600, 1199, 1200, 479, 1201] : List Int)) (hq30 : (479 : Int) ≤ v21 ∧ v21 ≤ 1201) : -2000 ≤ v21 ∧ v21 ≤ 2000 := by
  omega
theorem z_c___spec_l1Cur__minute30_71 (Lc : List UInt8) (tc : Int) (sc : Int) (nc : Nat) (htc : 0 ≤ tc ∧ tc + 6 ≤ 4611686018427387904) (hbdc : (nc : Int) ≤ 9223372036854775807) (hlec : nc = Lc.length) (L : List Visit) (nL : Nat) (hbdL : (nL : Int) ≤ 9223372036854775807) (hleL : nL = L.length) (hp0 : VsB L) (hp1 : nL ≤ 60) (h1 : ¬ ((nL : Int) = 0)) (v34 : Bool) (t35 : Int) (s36 : Int) (ht38 : tc ≤ t35 ∧ t35 ≤ tc + 2) (h41 : v34 = true) (v51 : Int) (t52 : Int) (s53 : Int) (ht55 : t35 ≤ t52 ∧ t52 ≤ t35 + 2) (hq56 : (0 : Int) ≤ v51 ∧ ((v51 : Int) < 24 ∨ (v51 : Int) = 0)) (v61 : Int) (t62 : Int) (s63 : Int) (ht65 : t52 ≤ t62 ∧ t62 ≤ t52 + 2) (hq66 : v61 ∈ (([480, 600, 1199, 1200, 479, 1201] : List Int).take ((4 + (v51 / 11)).toNat))) (hq69 : v61 ∈ ([480, 600, 1199, 1200, 479, 1201] : List Int)) (hq70 : (479 : Int) ≤ v61 ∧ v61 ≤ 1201) : -2000 ≤ v61 ∧ v61 ≤ 2000 := by
  omega
theorem z_c___spec_l1Cur__minute30_125 (Lc : List UInt8) (tc : Int) (sc : Int) (nc : Nat) (htc : 0 ≤ tc ∧ tc + 6 ≤ 4611686018427387904) (hbdc : (nc : Int) ≤ 9223372036854775807) (hlec : nc = Lc.length) (L : List Visit) (nL : Nat) (hbdL : (nL : Int) ≤ 9223372036854775807) (hleL : nL = L.length) (hp0 : VsB L) (hp1 : nL ≤ 60) (h1 : ¬ ((nL : Int) = 0)) (v34 : Bool) (t35 : Int) (s36 : Int) (ht38 : tc ≤ t35 ∧ t35 ≤ tc + 2) (h41 : v34 = false) (v74 : Int) (t75 : Int) (s76 : Int) (ht78 : t35 ≤ t75 ∧ t75 ≤ t35 + 2) (hq79 : (0 : Int) ≤ v74 ∧ ((v74 : Int) < (nL : Int) ∨ (v74 : Int) = 0)) (hx83 : L[v74.toNat]? = some (gt L v74.toNat)) (hq84 : (-100000 ≤ (gt L v74.toNat).From ∧ (gt L v74.toNat).From ≤ 100000) ∧ (-100000 ≤ (gt L v74.toNat).Until ∧ (gt L v74.toNat).Until ≤ 100000)) (v108 : Int) (t109 : Int) (s110 : Int) (ht112 : t75 ≤ t109 ∧ t109 ≤ t75 + 2) (hq113 : v108 ∈ ([(gt L v74.toNat).From, ((gt L v74.toNat).From) + 1, ((gt L v74.toNat).Until) - 1, (gt L v74.toNat).Until, ((gt L v74.toNat).From) - 1] : List Int)) (hq116 : (v108 : Int) = ((gt L v74.toNat).From) ∨ (v108 : Int) = (((gt L v74.toNat).From) + 1) ∨ (v108 : Int) = (((gt L v74.toNat).Until) - 1) ∨ (v108 : Int) = ((gt L v74.toNat).Until) ∨ (v108 : Int) = (((gt L v74.toNat).From) - 1)) : -2000 ≤ (min 1200 (max 480 v108)) ∧ (min 1200 (max 480 v108)) ≤ 2000 := by
  omega
theorem c___spec_l1Cur__minute30 (w : World) {gc ec : Nat} {Ac : Option Addr} {nc cc Bc : Nat} (Lc : List UInt8) (tc sc : Int) (hc : Blk w gc ec [.slice Ac nc cc, .int .i64 tc, .int .u64 sc]) (hLc : SlR w Bc encB 1 Ac nc cc Lc) (hgc : Bc ≤ gc) (htc : 0 ≤ tc ∧ tc + 6 ≤ 4611686018427387904) {AL : Option Addr} {nL cL BL : Nat}  (L : List Visit) (hL : SlR w BL encVisit 4 AL nL cL L) (hp0 : VsB L) (hp1 : nL ≤ 60) (hp2 : 0 < nL → ¬ (adr AL).block = gc) : Calls Tryz.prog 28 #[.pointer (some ⟨gc, 0, none⟩), .slice AL nL cL] w fun e w' => ∃ (v : Int) (tc' sc' : Int), e = .returned (.int .i64 v) ∧ Blk w' gc ec [.slice Ac nc cc, .int .i64 tc', .int .u64 sc'] ∧ (tc ≤ tc' ∧ tc' ≤ tc + 6) ∧ (-2000 ≤ v ∧ v ≤ 2000) ∧ Kp (fun b_ => b_ = gc) w w' := by
  refine calls_W 46 Tryz.func28 rfl rfl rfl ?_
  have hBlc := hc.lt
  have hbdc := hLc.bound
  have hlec := hLc.len
  have hBbc := hLc.bd
  have hbdL := hL.bound
  have hleL := hL.len
  have hBbL := hL.bd
  refine W.seq ?_
  refine W.regS (SR.q' (r_as (v := .int .i64 0) rfl) <| SR.nil ?_)
  refine W.seq ?_
  refine W.seq ?_
  refine W.regS (SR.q' (r_mv (v := .slice _ _ _) rfl) <| SR.q' (r_len und24 rfl) <| SR.q' (r_eq rfl rfl) <| SR.q' (r_mv (v := .bool _) rfl) <| SR.splitD (fun h1 => ?_) (fun h1 => ?_))
  · refine SR.s' rfl <| SR.s' rfl <| SR.q' (r_pick true rfl (v := .bool true) rfl) <| SR.nil ?_
    refine W.cond_t rfl ?_
    refine W.seq ?_
    refine W.regS (SR.q' (r_mv (v := .pointer (some _)) rfl) <| SR.lit (vs := [.int .i64 480, .int .i64 600, .int .i64 1199, .int .i64 1200, .int .i64 479, .int .i64 1201]) (L := ([480, 600, 1199, 1200, 479, 1201] : List Int)) (enc := encI) tel27 (fun _ => rfl) rfl rfl rfl (by decide) ?_)
    intro g2 w3 hg4 hk5 hO6
    have hz7 := hk5.size
    have hB8 := (Kp.refl w : Kp (fun b_ => b_ = gc) w w).lo hk5
    refine SR.q' (r_mv (v := .pointer (some _)) rfl) <| SR.call ent37 (c___spec_l1Cur__pick w3 Lc tc sc ((hc).lo hk5) (((hLc).lo hk5)) (by omega) (by omega) 24 (by first | omega | (simp only [List.length_append, List.length_cons, List.length_nil, List.length_take, List.length_drop]; omega))) rfl ?_
    rintro e w9 ⟨v11, t12, s13, rfl, hb14, ht15, hq16, hk10⟩
    refine ⟨_, rfl, ?_⟩
    have hz17 := hk10.size
    have hB18 := hB8.step hk10 (fun i_ hi_ e' => e')
    refine SR.q' (r_quo rfl rfl (by omega)) <| SR.q' (r_add rfl rfl (by omega)) <| SR.q' (r_cuth (h := (4 + (v11 / 11)).toNat) tsl27 rfl rfl (by omega) (Nat.le_trans (by omega : (4 + (v11 / 11)).toNat ≤ 6) ((hO6).kn hk10 (by omega)).rd.cap)) <| SR.call ent36 (c___spec_l1Cur__among w9 Lc t12 s13 (hb14) ((((hLc).lo hk5).kn hk10 (by omega))) (by omega) (by omega) (([480, 600, 1199, 1200, 479, 1201] : List Int).take ((4 + (v11 / 11)).toNat)) (((((hO6).kn hk10 (by omega)).head (h := (4 + (v11 / 11)).toNat) (by omega)).rd)) (by omega) (by omega) (show ¬ g2 = gc from by first | omega | (have := (((hO6).kn hk10 (by omega)).head (h := (4 + (v11 / 11)).toNat) (by omega)).base_le rfl; omega))) rfl ?_
    rintro e w19 ⟨v21, t22, s23, rfl, hb24, ht25, hq26, hk20⟩
    refine ⟨_, rfl, ?_⟩
    have hz27 := hk20.size
    have hB28 := hB18.step hk20 (fun i_ hi_ e' => e')
    have hq29 := List.mem_of_mem_take hq26
    have hq30 : (479 : Int) ≤ v21 ∧ v21 ≤ 1201 := mem_rngB (lo := 479) (hi := 1201) (by decide) hq29
    refine SR.q' (r_as (v := .int .i64 _) rfl) <| SR.nil ?_
    refine W.ret ?_
    refine ret1 rfl (v := .int .i64 _) rfl ?_
    exact ⟨v21, t22, s23, eR rfl, (hb24), ⟨by omega, by omega⟩, (z_c___spec_l1Cur__minute30_31 Lc tc sc nc htc hbdc hlec L nL hbdL hleL hp0 hp1 h1 v11 t12 s13 ht15 hq16 v21 t22 s23 ht25 hq26 hq29 hq30), hB28⟩
  · refine SR.g' rfl (r_mv (v := .pointer (some _)) rfl) <| SR.gcall rfl ent56 (c___spec_l1Cur__one w Lc tc sc (hc) ((hLc)) (by omega) (by omega) 5 (by first | omega | (simp only [List.length_append, List.length_cons, List.length_nil, List.length_take, List.length_drop]; omega))) rfl ?_
    rintro e w32 ⟨v34, t35, s36, rfl, hb37, ht38, hk33⟩
    refine ⟨_, rfl, ?_⟩
    have hz39 := hk33.size
    have hB40 := (Kp.refl w : Kp (fun b_ => b_ = gc) w w).step hk33 (fun i_ hi_ e' => e')
    refine SR.q' (r_pick false rfl (v := .bool _) rfl) <| SR.nil ?_
    refine W.cond_b rfl (fun h41 => ?_) (fun h41 => ?_)
    · refine W.seq ?_
      refine W.regS (SR.q' (r_mv (v := .pointer (some _)) rfl) <| SR.lit (vs := [.int .i64 480, .int .i64 600, .int .i64 1199, .int .i64 1200, .int .i64 479, .int .i64 1201]) (L := ([480, 600, 1199, 1200, 479, 1201] : List Int)) (enc := encI) tel27 (fun _ => rfl) rfl rfl rfl (by decide) ?_)
      intro g42 w43 hg44 hk45 hO46
      have hz47 := hk45.size
      have hB48 := hB40.lo hk45
      refine SR.q' (r_mv (v := .pointer (some _)) rfl) <| SR.call ent37 (c___spec_l1Cur__pick w43 Lc t35 s36 ((hb37).lo hk45) ((((hLc).kn hk33 (by omega)).lo hk45)) (by omega) (by omega) 24 (by first | omega | (simp only [List.length_append, List.length_cons, List.length_nil, List.length_take, List.length_drop]; omega))) rfl ?_
      rintro e w49 ⟨v51, t52, s53, rfl, hb54, ht55, hq56, hk50⟩
      refine ⟨_, rfl, ?_⟩
      have hz57 := hk50.size
      have hB58 := hB48.step hk50 (fun i_ hi_ e' => e')
      refine SR.q' (r_quo rfl rfl (by omega)) <| SR.q' (r_add rfl rfl (by omega)) <| SR.q' (r_cuth (h := (4 + (v51 / 11)).toNat) tsl27 rfl rfl (by omega) (Nat.le_trans (by omega : (4 + (v51 / 11)).toNat ≤ 6) ((hO46).kn hk50 (by omega)).rd.cap)) <| SR.call ent36 (c___spec_l1Cur__among w49 Lc t52 s53 (hb54) (((((hLc).kn hk33 (by omega)).lo hk45).kn hk50 (by omega))) (by omega) (by omega) (([480, 600, 1199, 1200, 479, 1201] : List Int).take ((4 + (v51 / 11)).toNat)) (((((hO46).kn hk50 (by omega)).head (h := (4 + (v51 / 11)).toNat) (by omega)).rd)) (by omega) (by omega) (show ¬ g42 = gc from by first | omega | (have := (((hO46).kn hk50 (by omega)).head (h := (4 + (v51 / 11)).toNat) (by omega)).base_le rfl; omega))) rfl ?_
      rintro e w59 ⟨v61, t62, s63, rfl, hb64, ht65, hq66, hk60⟩
      refine ⟨_, rfl, ?_⟩
      have hz67 := hk60.size
      have hB68 := hB58.step hk60 (fun i_ hi_ e' => e')
      have hq69 := List.mem_of_mem_take hq66
      have hq70 : (479 : Int) ≤ v61 ∧ v61 ≤ 1201 := mem_rngB (lo := 479) (hi := 1201) (by decide) hq69
      refine SR.q' (r_as (v := .int .i64 _) rfl) <| SR.nil ?_
      refine W.ret ?_
      refine ret1 rfl (v := .int .i64 _) rfl ?_
      exact ⟨v61, t62, s63, eR rfl, (hb64), ⟨by omega, by omega⟩, (z_c___spec_l1Cur__minute30_71 Lc tc sc nc htc hbdc hlec L nL hbdL hleL hp0 hp1 h1 v34 t35 s36 ht38 h41 v51 t52 s53 ht55 hq56 v61 t62 s63 ht65 hq66 hq69 hq70), hB68⟩
    · refine W.skip ?_
      refine W.seq ?_
      refine W.regS (SR.q' (r_mv (v := .slice _ _ _) rfl) <| SR.q' (r_mv (v := .pointer (some _)) rfl) <| SR.q' (r_mv (v := .slice _ _ _) rfl) <| SR.q' (r_len und24 rfl) <| SR.call ent37 (c___spec_l1Cur__pick w32 Lc t35 s36 (hb37) (((hLc).kn hk33 (by omega))) (by omega) (by omega) (nL : Int) (by first | omega | (simp only [List.length_append, List.length_cons, List.length_nil, List.length_take, List.length_drop]; omega))) rfl ?_)
      rintro e w72 ⟨v74, t75, s76, rfl, hb77, ht78, hq79, hk73⟩
      refine ⟨_, rfl, ?_⟩
      have hz80 := hk73.size
      have hB81 := hB40.step hk73 (fun i_ hi_ e' => e')
      have hx83 := (((hL).kpb hk33 (fun hn_ e' => (hp2 (by omega)) e')).kpb hk73 (fun hn_ e' => (hp2 (by omega)) e')).elem (i := v74.toNat) (by omega)
      have hq84 := VsB.at hp0 hx83
      refine SR.q' (r_ixR tsl24 (((hL).kpb hk33 (fun hn_ e' => (hp2 (by omega)) e')).kpb hk73 (fun hn_ e' => (hp2 (by omega)) e')) rfl rfl (by omega)) <| SR.q' (r_lda (l := encVisit (gt L v74.toNat)) agg45 rfl (fun _ _ hu => (((hL).kpb hk33 (fun hn_ e' => (hp2 (by omega)) e')).kpb hk73 (fun hn_ e' => (hp2 (by omega)) e')).cell hx83 hu) ((((hL).kpb hk33 (fun hn_ e' => (hp2 (by omega)) e')).kpb hk73 (fun hn_ e' => (hp2 (by omega)) e')).esz _)) <| SR.alloc (l := [.int .i64 0, .int .i64 0, .int .i64 0, .int .i64 0]) tz45 rfl ?_
      intro g85 w86 hg87 hk88 hs89 hb90
      have hz91 := hk88.size
      have hB92 := hB81.lo hk88
      refine SR.store (o := 0) (vs := [.int .i64 ((gt L v74.toNat).Reader), .int .i64 ((gt L v74.toNat).Seat), .int .i64 ((gt L v74.toNat).From), .int .i64 ((gt L v74.toNat).Until)]) agg45.2 rfl rfl rfl rfl (hb90) (Nat.le_of_ble_eq_true rfl) rfl ?_
      intro w93 hk94 hs95 hb96
      have hz97 := hk94.size
      have hB98 := hB92.new hk94 (by omega)
      refine SR.nil ?_
      refine W.seq ?_
      refine W.regS (SR.q' (r_mv (v := .pointer (some _)) rfl) <| SR.q' (r_fa fa45_2 rfl) <| SR.q' (r_ld (v := .int .i64 ((gt L v74.toNat).From)) sca3 rfl ((hb96).cell rfl)) <| SR.q' (r_fa fa45_2 rfl) <| SR.q' (r_ld (v := .int .i64 ((gt L v74.toNat).From)) sca3 rfl ((hb96).cell rfl)) <| SR.q' (r_add rfl rfl (by omega)) <| SR.q' (r_fa fa45_3 rfl) <| SR.q' (r_ld (v := .int .i64 ((gt L v74.toNat).Until)) sca3 rfl ((hb96).cell rfl)) <| SR.q' (r_sub rfl rfl (by omega)) <| SR.q' (r_fa fa45_3 rfl) <| SR.q' (r_ld (v := .int .i64 ((gt L v74.toNat).Until)) sca3 rfl ((hb96).cell rfl)) <| SR.q' (r_fa fa45_2 rfl) <| SR.q' (r_ld (v := .int .i64 ((gt L v74.toNat).From)) sca3 rfl ((hb96).cell rfl)) <| SR.q' (r_sub rfl rfl (by omega)) <| SR.lit (vs := [.int .i64 ((gt L v74.toNat).From), .int .i64 (((gt L v74.toNat).From) + 1), .int .i64 (((gt L v74.toNat).Until) - 1), .int .i64 ((gt L v74.toNat).Until), .int .i64 (((gt L v74.toNat).From) - 1)]) (L := ([(gt L v74.toNat).From, ((gt L v74.toNat).From) + 1, ((gt L v74.toNat).Until) - 1, (gt L v74.toNat).Until, ((gt L v74.toNat).From) - 1] : List Int)) (enc := encI) tel27 (fun _ => rfl) rfl rfl rfl (by decide) ?_)
      intro g99 w100 hg101 hk102 hO103
      have hz104 := hk102.size
      have hB105 := hB98.lo hk102
      refine SR.call ent36 (c___spec_l1Cur__among w100 Lc t75 s76 ((((hb77).lo hk88).kn hk94 (by omega)).lo hk102) (((((((hLc).kn hk33 (by omega)).kn hk73 (by omega)).lo hk88).kn hk94 (by omega)).lo hk102)) (by omega) (by omega) ([(gt L v74.toNat).From, ((gt L v74.toNat).From) + 1, ((gt L v74.toNat).Until) - 1, (gt L v74.toNat).Until, ((gt L v74.toNat).From) - 1] : List Int) (((hO103).rd)) (by omega) (by omega) (show ¬ g99 = gc from by first | omega | (have := (hO103).base_le rfl; omega))) rfl ?_
      rintro e w106 ⟨v108, t109, s110, rfl, hb111, ht112, hq113, hk107⟩
      refine ⟨_, rfl, ?_⟩
      have hz114 := hk107.size
      have hB115 := hB105.step hk107 (fun i_ hi_ e' => e')
      have hq116 : (v108 : Int) = ((gt L v74.toNat).From) ∨ (v108 : Int) = (((gt L v74.toNat).From) + 1) ∨ (v108 : Int) = (((gt L v74.toNat).Until) - 1) ∨ (v108 : Int) = ((gt L v74.toNat).Until) ∨ (v108 : Int) = (((gt L v74.toNat).From) - 1) := by simpa only [List.mem_cons, List.not_mem_nil, or_false] using hq113
      refine SR.call ent58 (c_spec_l1Most w106 480 v108) rfl ?_
      rintro e w117 ⟨rfl, hk118⟩
      refine ⟨_, rfl, ?_⟩
      have hz119 := hk118.size
      have hB120 := hB115.lo hk118
      refine SR.call ent57 (c_spec_l1Least w117 1200 (max 480 v108)) rfl ?_
      rintro e w121 ⟨rfl, hk122⟩
      refine ⟨_, rfl, ?_⟩
      have hz123 := hk122.size
      have hB124 := hB120.lo hk122
      refine SR.q' (r_as (v := .int .i64 _) rfl) <| SR.nil ?_
      refine W.ret ?_
      refine ret1 rfl (v := .int .i64 _) rfl ?_
      exact ⟨(min 1200 (max 480 v108)), t109, s110, eR rfl, (((hb111).lo hk118).lo hk122), ⟨by omega, by omega⟩, (z_c___spec_l1Cur__minute30_125 Lc tc sc nc htc hbdc hlec L nL hbdL hleL hp0 hp1 h1 v34 t35 s36 ht38 h41 v74 t75 s76 ht78 hq79 hx83 hq84 v108 t109 s110 ht112 hq113 hq116), hB124⟩

theorem c_spec_DrawLeaveSeat (w : World) {AC : Option Addr} {nC cC BC : Nat}  (C : List UInt8) (hC : SlR w BC encB 1 AC nC cC C) (hp0 : (nC : Int) ≤ 65536) : Calls Tryz.prog 43 #[.slice AC nC cC] w fun e w' => ∃ (A1' : Option Addr) (n1' c1' : Nat) (L : List Visit) (r : Int) (m : Int), e = .returned (.tuple (List.toArray [.slice A1' n1' c1', .int .i64 r, .int .i64 m])) ∧ SlO w' w.heap.size encVisit 4 45 A1' n1' c1' L ∧ (VsB L) ∧ (L.length ≤ 60) ∧ Lo w w' := by
  refine calls_W 51 Tryz.func43 rfl rfl rfl ?_
  have hbdC := hC.bound
  have hleC := hC.len
  have hBbC := hC.bd
  refine W.seq ?_
  refine W.regS (SR.q' (r_as (v := .slice none 0 0) rfl) <| SR.q' (r_as (v := .int .i64 0) rfl) <| SR.q' (r_as (v := .int .i64 0) rfl) <| SR.nil ?_)
  refine W.seq ?_
  refine W.regS (SR.q' (r_mv (v := .slice _ _ _) rfl) <| SR.q' (r_build (vs := [(0, .slice AC nC cC)]) rfl (bld52_0 _ _ _)) <| SR.box (v := .agg (List.toArray _)) (l := [.slice AC nC cC, .int .i64 0, .int .u64 0]) rfl rfl ?_)
  intro g1 w2 hg3 hk4 hs5 hb6
  have hz7 := hk4.size
  have hB8 := (Lo.refl w).lo hk4
  refine SR.q' (r_as (v := .pointer (some _)) rfl) <| SR.nil ?_
  refine W.seq ?_
  refine W.regS (SR.q' (r_mv (v := .pointer (some _)) rfl) <| SR.call ent27 (c___spec_l1Cur__visits w2 C 0 0 (hb6) (((hC).lo hk4)) (by omega) (by omega)) rfl ?_)
  rintro e w9 ⟨A11, n12, c13, v15, t16, s17, rfl, hO14, hb18, ht19, hq20, hq21, hk10⟩
  refine ⟨_, rfl, ?_⟩
  have hz22 := hk10.size
  have hB23 := hB8.new hk10 (by omega)
  have hl24 := hO14.len
  have hl25 := hO14.rd.bound
  refine SR.q' (r_as (v := .slice _ _ _) rfl) <| SR.nil ?_
  refine W.seq ?_
  refine W.seq ?_
  refine W.regS (SR.q' (r_mv (v := .slice _ _ _) rfl) <| SR.q' (r_len und24 rfl) <| SR.q' (r_eq rfl rfl) <| SR.q' (r_mv (v := .bool _) rfl) <| SR.splitD (fun h26 => ?_) (fun h26 => ?_))
  · refine SR.s' rfl <| SR.s' rfl <| SR.q' (r_pick true rfl (v := .bool true) rfl) <| SR.nil ?_
    refine W.cond_t rfl ?_
    refine W.seq ?_
    refine W.regS (SR.q' (r_mv (v := .slice _ _ _) rfl) <| SR.q' (r_mv (v := .pointer (some _)) rfl) <| SR.call ent47 (c___spec_l1Cur__visitor w9 C t16 s17 (hb18) ((((hC).lo hk4).kn hk10 (by omega))) (by omega) (by omega)) rfl ?_)
    rintro e w27 ⟨v29, t30, s31, rfl, hb32, ht33, hq34, hk28⟩
    refine ⟨_, rfl, ?_⟩
    have hz35 := hk28.size
    have hB36 := hB23.new hk28 (by omega)
    refine SR.q' (r_mv (v := .pointer (some _)) rfl) <| SR.q' (r_mv (v := .slice _ _ _) rfl) <| SR.call ent28 (c___spec_l1Cur__minute30 w27 C t30 s31 (hb32) (((((hC).lo hk4).kn hk10 (by omega)).kn hk28 (by omega))) (by omega) (by omega) v15 ((((hO14).kn hk28 (by omega)).rd)) (by assumption) (by omega) (((hO14).kn hk28 (by omega)).apart (fun e' => by have := ((hO14).kn hk28 (by omega)).base_le e'; omega))) rfl ?_
    rintro e w37 ⟨v39, t40, s41, rfl, hb42, ht43, hq44, hk38⟩
    refine ⟨_, rfl, ?_⟩
    have hz45 := hk38.size
    have hB46 := hB36.new hk38 (by omega)
    refine SR.q' (r_as (v := .slice _ _ _) rfl) <| SR.q' (r_as (v := .int .i64 _) rfl) <| SR.q' (r_as (v := .int .i64 _) rfl) <| SR.nil ?_
    refine W.ret ?_
    refine ret3 rfl (v := .slice _ _ _) (v' := .int .i64 _) (v'' := .int .i64 _) rfl rfl rfl ?_
    exact ⟨A11, n12, c13, v15, v29, v39, eR (eT3 rfl rfl rfl), ((((hO14).kn hk28 (by omega)).kn hk38 (by omega)).down (by omega)), hq20, hq21, hB46⟩
  · refine SR.g' rfl (r_mv (v := .pointer (some _)) rfl) <| SR.gcall rfl ent56 (c___spec_l1Cur__one w9 C t16 s17 (hb18) ((((hC).lo hk4).kn hk10 (by omega))) (by omega) (by omega) 4 (by first | omega | (simp only [List.length_append, List.length_cons, List.length_nil, List.length_take, List.length_drop]; omega))) rfl ?_
    rintro e w47 ⟨v49, t50, s51, rfl, hb52, ht53, hk48⟩
    refine ⟨_, rfl, ?_⟩
    have hz54 := hk48.size
    have hB55 := hB23.new hk48 (by omega)
    refine SR.q' (r_pick false rfl (v := .bool _) rfl) <| SR.nil ?_
    refine W.cond_b rfl (fun h56 => ?_) (fun h56 => ?_)
    · refine W.seq ?_
      refine W.regS (SR.q' (r_mv (v := .slice _ _ _) rfl) <| SR.q' (r_mv (v := .pointer (some _)) rfl) <| SR.call ent47 (c___spec_l1Cur__visitor w47 C t50 s51 (hb52) (((((hC).lo hk4).kn hk10 (by omega)).kn hk48 (by omega))) (by omega) (by omega)) rfl ?_)
      rintro e w57 ⟨v59, t60, s61, rfl, hb62, ht63, hq64, hk58⟩
      refine ⟨_, rfl, ?_⟩
      have hz65 := hk58.size
      have hB66 := hB55.new hk58 (by omega)
      refine SR.q' (r_mv (v := .pointer (some _)) rfl) <| SR.q' (r_mv (v := .slice _ _ _) rfl) <| SR.call ent28 (c___spec_l1Cur__minute30 w57 C t60 s61 (hb62) ((((((hC).lo hk4).kn hk10 (by omega)).kn hk48 (by omega)).kn hk58 (by omega))) (by omega) (by omega) v15 (((((hO14).kn hk48 (by omega)).kn hk58 (by omega)).rd)) (by assumption) (by omega) ((((hO14).kn hk48 (by omega)).kn hk58 (by omega)).apart (fun e' => by have := (((hO14).kn hk48 (by omega)).kn hk58 (by omega)).base_le e'; omega))) rfl ?_
      rintro e w67 ⟨v69, t70, s71, rfl, hb72, ht73, hq74, hk68⟩
      refine ⟨_, rfl, ?_⟩
      have hz75 := hk68.size
      have hB76 := hB66.new hk68 (by omega)
      refine SR.q' (r_as (v := .slice _ _ _) rfl) <| SR.q' (r_as (v := .int .i64 _) rfl) <| SR.q' (r_as (v := .int .i64 _) rfl) <| SR.nil ?_
      refine W.ret ?_
      refine ret3 rfl (v := .slice _ _ _) (v' := .int .i64 _) (v'' := .int .i64 _) rfl rfl rfl ?_
      exact ⟨A11, n12, c13, v15, v59, v69, eR (eT3 rfl rfl rfl), (((((hO14).kn hk48 (by omega)).kn hk58 (by omega)).kn hk68 (by omega)).down (by omega)), hq20, hq21, hB76⟩
    · refine W.skip ?_
      refine W.seq ?_
      refine W.regS (SR.q' (r_mv (v := .slice _ _ _) rfl) <| SR.q' (r_mv (v := .pointer (some _)) rfl) <| SR.q' (r_mv (v := .slice _ _ _) rfl) <| SR.q' (r_len und24 rfl) <| SR.call ent37 (c___spec_l1Cur__pick w47 C t50 s51 (hb52) (((((hC).lo hk4).kn hk10 (by omega)).kn hk48 (by omega))) (by omega) (by omega) (n12 : Int) (by first | omega | (simp only [List.length_append, List.length_cons, List.length_nil, List.length_take, List.length_drop]; omega))) rfl ?_)
      rintro e w77 ⟨v79, t80, s81, rfl, hb82, ht83, hq84, hk78⟩
      refine ⟨_, rfl, ?_⟩
      have hz85 := hk78.size
      have hB86 := hB55.new hk78 (by omega)
      have hx88 := ((((hO14).kn hk48 (by omega)).kn hk78 (by omega)).rd).elem (i := v79.toNat) (by omega)
      have hq89 := VsB.at hq20 hx88
      refine SR.q' (r_ixR tsl24 ((((hO14).kn hk48 (by omega)).kn hk78 (by omega)).rd) rfl rfl (by omega)) <| SR.q' (r_lda (l := encVisit (gt v15 v79.toNat)) agg45 rfl (fun _ _ hu => ((((hO14).kn hk48 (by omega)).kn hk78 (by omega)).rd).cell hx88 hu) (((((hO14).kn hk48 (by omega)).kn hk78 (by omega)).rd).esz _)) <| SR.alloc (l := [.int .i64 0, .int .i64 0, .int .i64 0, .int .i64 0]) tz45 rfl ?_
      intro g90 w91 hg92 hk93 hs94 hb95
      have hz96 := hk93.size
      have hB97 := hB86.lo hk93
      have hd98 : ¬ A11 = some ⟨g90, 0, none⟩ := fun e' => by have := (((hO14).kn hk48 (by omega)).kn hk78 (by omega)).base_le e'; omega
      refine SR.store (o := 0) (vs := [.int .i64 ((gt v15 v79.toNat).Reader), .int .i64 ((gt v15 v79.toNat).Seat), .int .i64 ((gt v15 v79.toNat).From), .int .i64 ((gt v15 v79.toNat).Until)]) agg45.2 rfl rfl rfl rfl (hb95) (Nat.le_of_ble_eq_true rfl) rfl ?_
      intro w99 hk100 hs101 hb102
      have hz103 := hk100.size
      have hB104 := hB97.new hk100 (by omega)
      refine SR.nil ?_
      refine W.seq ?_
      refine W.regA (Kp (fun b_ => b_ = g1) w99) (fun f' w' => ∃ (g133 : Nat), ∃ (v144 : Int), ∃ (t145 : Int), ∃ (s146 : Int), At f' [(2, .slice A11 n12 c13), (3, .int .i64 ((gt v15 v79.toNat).Reader)), (4, .int .i64 v144)] ∧ (Kp (fun b_ => b_ = g1) w99 w') ∧ (Blk w' g1 52 [.slice AC nC cC, .int .i64 t145, .int .u64 s146]) ∧ (t80 ≤ t145 ∧ t145 ≤ t80 + 2) ∧ (v144 ∈ ([(gt v15 v79.toNat).From, (gt v15 v79.toNat).From, ((gt v15 v79.toNat).From) + 1, ((gt v15 v79.toNat).Until) - 1, (gt v15 v79.toNat).Until] : List Int)) ∧ ((v144 : Int) = ((gt v15 v79.toNat).From) ∨ (v144 : Int) = ((gt v15 v79.toNat).From) ∨ (v144 : Int) = (((gt v15 v79.toNat).From) + 1) ∨ (v144 : Int) = (((gt v15 v79.toNat).Until) - 1) ∨ (v144 : Int) = ((gt v15 v79.toNat).Until))) mo ?_ ?_
      · intro w129 hk130
        have hz131 := hk130.size
        have hB132 := hB104.lo hk130
        refine AH.take 0 rfl (by kernel_rfl) trivial ((Kp.refl w99 : Kp (fun b_ => b_ = g1) w99 w99).lo hk130) (fun w' hw' => r_mv (v := .slice _ _ _) rfl) <| AH.take 1 rfl (by kernel_rfl) trivial ((Kp.refl w99 : Kp (fun b_ => b_ = g1) w99 w99).lo hk130) (fun w' hw' => r_fa fa45_0 rfl) <| AH.take 2 rfl (by kernel_rfl) trivial ((Kp.refl w99 : Kp (fun b_ => b_ = g1) w99 w99).lo hk130) (fun w' hw' => r_ld (v := .int .i64 ((gt v15 v79.toNat).Reader)) sca3 rfl (((hb102).kn hw' (by omega)).cell rfl)) <| AH.take 3 rfl (by kernel_rfl) trivial ((Kp.refl w99 : Kp (fun b_ => b_ = g1) w99 w99).lo hk130) (fun w' hw' => r_mv (v := .pointer (some _)) rfl) <| AH.take 4 rfl (by kernel_rfl) trivial ((Kp.refl w99 : Kp (fun b_ => b_ = g1) w99 w99).lo hk130) (fun w' hw' => r_fa fa45_2 rfl) <| AH.take 5 rfl (by kernel_rfl) trivial ((Kp.refl w99 : Kp (fun b_ => b_ = g1) w99 w99).lo hk130) (fun w' hw' => r_ld (v := .int .i64 ((gt v15 v79.toNat).From)) sca3 rfl (((hb102).kn hw' (by omega)).cell rfl)) <| AH.take 6 rfl (by kernel_rfl) trivial ((Kp.refl w99 : Kp (fun b_ => b_ = g1) w99 w99).lo hk130) (fun w' hw' => r_fa fa45_2 rfl) <| AH.take 7 rfl (by kernel_rfl) trivial ((Kp.refl w99 : Kp (fun b_ => b_ = g1) w99 w99).lo hk130) (fun w' hw' => r_ld (v := .int .i64 ((gt v15 v79.toNat).From)) sca3 rfl (((hb102).kn hw' (by omega)).cell rfl)) <| AH.take 8 rfl (by kernel_rfl) trivial ((Kp.refl w99 : Kp (fun b_ => b_ = g1) w99 w99).lo hk130) (fun w' hw' => r_fa fa45_2 rfl) <| AH.take 9 rfl (by kernel_rfl) trivial ((Kp.refl w99 : Kp (fun b_ => b_ = g1) w99 w99).lo hk130) (fun w' hw' => r_ld (v := .int .i64 ((gt v15 v79.toNat).From)) sca3 rfl (((hb102).kn hw' (by omega)).cell rfl)) <| AH.take 10 rfl (by kernel_rfl) trivial ((Kp.refl w99 : Kp (fun b_ => b_ = g1) w99 w99).lo hk130) (fun w' hw' => r_add rfl rfl (by omega)) <| AH.take 11 rfl (by kernel_rfl) trivial ((Kp.refl w99 : Kp (fun b_ => b_ = g1) w99 w99).lo hk130) (fun w' hw' => r_fa fa45_3 rfl) <| AH.take 12 rfl (by kernel_rfl) trivial ((Kp.refl w99 : Kp (fun b_ => b_ = g1) w99 w99).lo hk130) (fun w' hw' => r_ld (v := .int .i64 ((gt v15 v79.toNat).Until)) sca3 rfl (((hb102).kn hw' (by omega)).cell rfl)) <| AH.take 13 rfl (by kernel_rfl) trivial ((Kp.refl w99 : Kp (fun b_ => b_ = g1) w99 w99).lo hk130) (fun w' hw' => r_sub rfl rfl (by omega)) <| AH.take 14 rfl (by kernel_rfl) trivial ((Kp.refl w99 : Kp (fun b_ => b_ = g1) w99 w99).lo hk130) (fun w' hw' => r_fa fa45_3 rfl) <| AH.take 15 rfl (by kernel_rfl) trivial ((Kp.refl w99 : Kp (fun b_ => b_ = g1) w99 w99).lo hk130) (fun w' hw' => r_ld (v := .int .i64 ((gt v15 v79.toNat).Until)) sca3 rfl (((hb102).kn hw' (by omega)).cell rfl)) <| AH.br [16] (by kernel_rfl) rfl ⟨Br.mk' rfl trivial ?_, trivial⟩
        refine SR.lit (vs := [.int .i64 ((gt v15 v79.toNat).From), .int .i64 ((gt v15 v79.toNat).From), .int .i64 (((gt v15 v79.toNat).From) + 1), .int .i64 (((gt v15 v79.toNat).Until) - 1), .int .i64 ((gt v15 v79.toNat).Until)]) (L := ([(gt v15 v79.toNat).From, (gt v15 v79.toNat).From, ((gt v15 v79.toNat).From) + 1, ((gt v15 v79.toNat).Until) - 1, (gt v15 v79.toNat).Until] : List Int)) (enc := encI) tel27 (fun _ => rfl) rfl rfl rfl (by decide) ?_
        intro g133 w134 hg135 hk136 hO137
        have hz138 := hk136.size
        have hB139 := hB132.lo hk136
        have hS140 := ((Kp.refl w99 : Kp (fun b_ => b_ = g1) w99 w99).lo hk130).lo hk136
        have hd141 : ¬ A11 = some ⟨g133, 0, none⟩ := fun e' => by have := ((((((hO14).kn hk48 (by omega)).kn hk78 (by omega)).lo hk93).kd hk100 hd98).lo hk130).base_le e'; omega
        refine SR.nil ⟨hS140, _, rfl, ?_⟩
        refine AH.br [17] (by kernel_rfl) rfl ⟨Br.mk' rfl trivial ?_, trivial⟩
        refine SR.call ent36 (c___spec_l1Cur__among w134 C t80 s81 (((((hb82).lo hk93).kn hk100 (by omega)).lo hk130).lo hk136) ((((((((((hC).lo hk4).kn hk10 (by omega)).kn hk48 (by omega)).kn hk78 (by omega)).lo hk93).kn hk100 (by omega)).lo hk130).lo hk136)) (by omega) (by omega) ([(gt v15 v79.toNat).From, (gt v15 v79.toNat).From, ((gt v15 v79.toNat).From) + 1, ((gt v15 v79.toNat).Until) - 1, (gt v15 v79.toNat).Until] : List Int) (((hO137).rd)) (by omega) (by omega) (show ¬ g133 = g1 from by first | omega | (have := (hO137).base_le rfl; omega))) rfl ?_
        rintro e w142 ⟨v144, t145, s146, rfl, hb147, ht148, hq149, hk143⟩
        refine ⟨_, rfl, ?_⟩
        have hz150 := hk143.size
        have hB151 := hB139.new hk143 (by omega)
        have hS152 := (hS140).step hk143 (fun _ _ e => e)
        have hq153 : (v144 : Int) = ((gt v15 v79.toNat).From) ∨ (v144 : Int) = ((gt v15 v79.toNat).From) ∨ (v144 : Int) = (((gt v15 v79.toNat).From) + 1) ∨ (v144 : Int) = (((gt v15 v79.toNat).Until) - 1) ∨ (v144 : Int) = ((gt v15 v79.toNat).Until) := by simpa only [List.mem_cons, List.not_mem_nil, or_false] using hq149
        refine SR.nil ⟨hS152, _, rfl, ?_⟩
        refine AH.take 18 rfl (by kernel_rfl) trivial (hS152) (fun w' hw' => r_as (v := .slice _ _ _) rfl) <| AH.take 19 rfl (by kernel_rfl) trivial (hS152) (fun w' hw' => r_as (v := .int .i64 _) rfl) <| AH.take 20 rfl (by kernel_rfl) trivial (hS152) (fun w' hw' => r_as (v := .int .i64 _) rfl) <| AH.done (by kernel_rfl) ?_
        exact ⟨g133, v144, t145, s146, ⟨rfl, rfl, rfl, trivial⟩, hS152, (hb147), ht148, hq149, hq153⟩
      rintro f155 w156 ⟨g133, v144, t145, s146, hat158, hR157, hm154, ht148, hq149, hq153⟩
      rw [← sets_of_at hat158]
      have hz159 := hR157.size
      have hB160 := hB104.new hR157 (by omega)
      refine W.ret ?_
      refine ret3 rfl (v := .slice _ _ _) (v' := .int .i64 _) (v'' := .int .i64 _) rfl rfl rfl ?_
      exact ⟨A11, n12, c13, v15, ((gt v15 v79.toNat).Reader), v144, eR (eT3 rfl rfl rfl), (((((((hO14).kn hk48 (by omega)).kn hk78 (by omega)).lo hk93).kd hk100 hd98).kn hR157 (by omega)).down (by omega)), hq20, hq21, hB160⟩

theorem z_c_laws_rBig_1 (C : List UInt8) (nC : Nat) (hbdC : (nC : Int) ≤ 9223372036854775807) (hleC : nC = C.length) : (65536 < (nC : Int)) ↔ (65536 < (C.length : Int)) := by
  omega
theorem c_laws_rBig (w : World) {AC : Option Addr} {nC cC BC : Nat}  (C : List UInt8) (hC : SlR w BC encB 1 AC nC cC C) : Calls Tryz.prog 4 #[.slice AC nC cC] w fun e w' => e = .returned (.bool (decide (65536 < (C.length : Int)))) ∧ Lo w w' := by
  refine calls_W 6 Tryz.func4 rfl rfl rfl ?_
  have hbdC := hC.bound
  have hleC := hC.len
  have hBbC := hC.bd
  refine W.seq ?_
  refine W.regS (SR.q' (r_as (v := .bool false) rfl) <| SR.nil ?_)
  refine W.seq ?_
  refine W.regS (SR.q' (r_mv (v := .slice _ _ _) rfl) <| SR.q' (r_len und22 rfl) <| SR.q' (r_gt rfl rfl) <| SR.q' (r_as (v := .bool _) rfl) <| SR.nil ?_)
  refine W.ret ?_
  refine ret1 rfl (v := .bool _) rfl ?_
  exact ⟨eR (eDD (z_c_laws_rBig_1 C nC hbdC hleC)), (Lo.refl w)⟩

theorem z_c_laws_rInts_2 (L : List Int) (nL : Nat) (hbdL : (nL : Int) ≤ 9223372036854775807) (hleL : nL = L.length) (M : List Int) (nM : Nat) (hbdM : (nM : Int) ≤ 9223372036854775807) (hleM : nM = M.length) (h1 : ¬ ((nL : Int) = (nM : Int))) : ¬ (L = M) := by
  first | (intro e; subst e; omega) | exact ne_at ‹L[_]? = some _› ‹M[_]? = some _› ‹_› | exact take_end (And.right ‹_ ∧ L.take _ = M.take _›) hleL hleM (by omega) ‹_›
theorem z_c_laws_rInts_3 (L : List Int) (nL : Nat) (hbdL : (nL : Int) ≤ 9223372036854775807) (hleL : nL = L.length) (M : List Int) (nM : Nat) (hbdM : (nM : Int) ≤ 9223372036854775807) (hleM : nM = M.length) (h1 : (nL : Int) = (nM : Int)) : 0 ≤ nL ∧ L.take 0 = M.take 0 := by
  simp
theorem z_c_laws_rInts_21 (L : List Int) (nL : Nat) (hbdL : (nL : Int) ≤ 9223372036854775807) (hleL : nL = L.length) (M : List Int) (nM : Nat) (hbdM : (nM : Int) ≤ 9223372036854775807) (hleM : nM = M.length) (h1 : (nL : Int) = (nM : Int)) (k : Nat) (hi10 : k ≤ nL ∧ L.take k = M.take k) (h11 : (k : Int) < (nL : Int)) (hx13 : L[k]? = some (gt L k)) (hx15 : M[k]? = some (gt M k)) (h20 : ¬ ((gt L k) = (gt M k))) : ¬ (L = M) := by
  first | (intro e; subst e; omega) | exact ne_at ‹L[_]? = some _› ‹M[_]? = some _› ‹_› | exact take_end (And.right ‹_ ∧ L.take _ = M.take _›) hleL hleM (by omega) ‹_›
theorem z_c_laws_rInts_22 (L : List Int) (nL : Nat) (hbdL : (nL : Int) ≤ 9223372036854775807) (hleL : nL = L.length) (M : List Int) (nM : Nat) (hbdM : (nM : Int) ≤ 9223372036854775807) (hleM : nM = M.length) (h1 : (nL : Int) = (nM : Int)) (k : Nat) (hi10 : k ≤ nL ∧ L.take k = M.take k) (h11 : (k : Int) < (nL : Int)) (hx13 : L[k]? = some (gt L k)) (hx15 : M[k]? = some (gt M k)) (h20 : (gt L k) = (gt M k)) : k + 1 ≤ nL ∧ L.take (k + 1) = M.take (k + 1) := by
  exact ⟨by omega, take_next (And.right ‹_ ∧ L.take _ = M.take _›) ‹L[_]? = some _› ‹M[_]? = some _› (by assumption)⟩
theorem z_c_laws_rInts_23 (L : List Int) (nL : Nat) (hbdL : (nL : Int) ≤ 9223372036854775807) (hleL : nL = L.length) (M : List Int) (nM : Nat) (hbdM : (nM : Int) ≤ 9223372036854775807) (hleM : nM = M.length) (h1 : (nL : Int) = (nM : Int)) (k : Nat) (hi10 : k ≤ nL ∧ L.take k = M.take k) (h11 : (k : Int) < (nL : Int)) (hx13 : L[k]? = some (gt L k)) (hx15 : M[k]? = some (gt M k)) (h20 : (gt L k) = (gt M k)) : nL - (k + 1) < nL - k := by
  omega
theorem z_c_laws_rInts_24 (L : List Int) (nL : Nat) (hbdL : (nL : Int) ≤ 9223372036854775807) (hleL : nL = L.length) (M : List Int) (nM : Nat) (hbdM : (nM : Int) ≤ 9223372036854775807) (hleM : nM = M.length) (h1 : (nL : Int) = (nM : Int)) (k : Nat) (hi10 : k ≤ nL ∧ L.take k = M.take k) (h11 : ¬ ((k : Int) < (nL : Int))) : L = M := by
  first | (intro e; subst e; omega) | exact ne_at ‹L[_]? = some _› ‹M[_]? = some _› ‹_› | exact take_end (And.right ‹_ ∧ L.take _ = M.take _›) hleL hleM (by omega) ‹_›
theorem c_laws_rInts (w : World) {AL : Option Addr} {nL cL BL : Nat}  (L : List Int) (hL : SlR w BL encI 1 AL nL cL L) {AM : Option Addr} {nM cM BM : Nat}  (M : List Int) (hM : SlR w BM encI 1 AM nM cM M) : Calls Tryz.prog 8 #[.slice AL nL cL, .slice AM nM cM] w fun e w' => e = .returned (.bool (decide (L = M))) ∧ Lo w w' := by
  refine calls_W 26 Tryz.func8 rfl rfl rfl ?_
  have hbdL := hL.bound
  have hleL := hL.len
  have hBbL := hL.bd
  have hbdM := hM.bound
  have hleM := hM.len
  have hBbM := hM.bd
  refine W.seq ?_
  refine W.regS (SR.q' (r_as (v := .bool false) rfl) <| SR.nil ?_)
  refine W.seq ?_
  refine W.seq ?_
  refine W.regS (SR.q' (r_mv (v := .slice _ _ _) rfl) <| SR.q' (r_len und27 rfl) <| SR.q' (r_mv (v := .slice _ _ _) rfl) <| SR.q' (r_len und27 rfl) <| SR.q' (r_ne rfl rfl) <| SR.nil ?_)
  refine W.cond_n rfl (fun h1 => ?_) (fun h1 => ?_)
  · refine W.seq ?_
    refine W.regS (SR.q' (r_as (v := .bool false) rfl) <| SR.nil ?_)
    refine W.ret ?_
    refine ret1 rfl (v := .bool _) rfl ?_
    exact ⟨eR (eDF (z_c_laws_rInts_2 L nL hbdL hleL M nM hbdM hleM h1)), (Lo.refl w)⟩
  · refine W.skip ?_
    refine W.seq ?_
    refine W.seq ?_
    refine W.regS (SR.q' (r_as (v := .int .i64 0) rfl) <| SR.nil ?_)
    refine W.block ?_
    refine W.loop (σ := Nat) (fun g => [(0, .slice AL nL cL), (1, .slice AM nM cM), (5, .int .i64 (g : Int))]) (fun g w' => (Lo w w') ∧ (SlR w' BL encI 1 AL nL cL L) ∧ (SlR w' BM encI 1 AM nM cM M) ∧ (g ≤ nL ∧ L.take g = M.take g)) (fun g => nL - g) 0 ?_ ?_ ?_
    · exact ⟨rfl, rfl, rfl, trivial⟩
    · exact ⟨(Lo.refl w), hL, hM, (z_c_laws_rInts_3 L nL hbdL hleL M nM hbdM hleM h1)⟩
    · rintro k f4 w5 hP7
      obtain ⟨hB6, hm8, hm9, hi10⟩ : (Lo w w5) ∧ (SlR w5 BL encI 1 AL nL cL L) ∧ (SlR w5 BM encI 1 AM nM cM M) ∧ (k ≤ nL ∧ L.take k = M.take k) := hP7
      refine (?_ : W _ _ _ _ _ (act _ (sets f4 [(0, .slice AL nL cL), (1, .slice AM nM cM), (5, .int .i64 (k : Int))])) _)
      have hzw5 := hB6.size
      refine W.seq ?_
      refine W.seq ?_
      refine W.regS (SR.q' (r_mv (v := .int .i64 _) rfl) <| SR.q' (r_mv (v := .slice _ _ _) rfl) <| SR.q' (r_len und27 rfl) <| SR.q' (r_lt rfl rfl) <| SR.nil ?_)
      refine W.cond_d rfl (fun h11 => ?_) (fun h11 => ?_)
      · refine W.skip ?_
        refine W.seq ?_
        refine W.block ?_
        refine W.seq ?_
        refine W.regD mo (by kernel_rfl) (QR.q' (fun w' hw' => r_mv (v := .slice _ _ _) rfl) <| QR.q' (fun w' hw' => r_mv (v := .int .i64 _) rfl) <| ?_)
        have hx13 := (hm8).elem (i := k) (by omega)
        refine QR.q' (fun w' hw' => r_ixR tsl27 (((hm8).lo hw')) rfl rfl (by omega)) <| QR.q' (fun w' hw' => r_ld (v := .int .i64 (gt L k)) sca3 rfl ((((hm8).lo hw')).cell0 hx13 rfl)) <| QR.q' (fun w' hw' => r_mv (v := .slice _ _ _) rfl) <| QR.q' (fun w' hw' => r_mv (v := .int .i64 _) rfl) <| ?_
        have hx15 := (hm9).elem (i := k) (by omega)
        refine QR.q' (fun w' hw' => r_ixR tsl27 (((hm9).lo hw')) rfl rfl (by omega)) <| QR.q' (fun w' hw' => r_ld (v := .int .i64 (gt M k)) sca3 rfl ((((hm9).lo hw')).cell0 hx15 rfl)) <| QR.q' (fun w' hw' => r_ne rfl rfl) <| QR.nil ?_
        intro w16 hk17
        have hz18 := hk17.size
        have hB19 := hB6.lo hk17
        refine W.cond_n rfl (fun h20 => ?_) (fun h20 => ?_)
        · refine W.seq ?_
          refine W.regS (SR.q' (r_as (v := .bool false) rfl) <| SR.nil ?_)
          refine W.ret ?_
          refine ret1 rfl (v := .bool _) rfl ?_
          exact ⟨eR (eDF (z_c_laws_rInts_21 L nL hbdL hleL M nM hbdM hleM h1 k hi10 h11 hx13 hx15 h20)), hB19⟩
        · refine W.skip ?_
          refine W.regS (SR.q' (r_mv (v := .int .i64 _) rfl) <| SR.q' (r_add rfl rfl (by omega)) <| SR.q' (r_as (v := .int .i64 _) rfl) <| SR.nil ?_)
          refine ⟨k + 1, _, rfl, ⟨rfl, rfl, rfl, trivial⟩, ⟨hB19, (hm8).lo hk17, (hm9).lo hk17, ?_⟩, ?_⟩
          · exact (z_c_laws_rInts_22 L nL hbdL hleL M nM hbdM hleM h1 k hi10 h11 hx13 hx15 h20)
          · exact (z_c_laws_rInts_23 L nL hbdL hleL M nM hbdM hleM h1 k hi10 h11 hx13 hx15 h20)
      · refine W.exit (xin_here ?_)
        refine W.seq ?_
        refine W.regS (SR.q' (r_as (v := .bool true) rfl) <| SR.nil ?_)
        refine W.ret ?_
        refine ret1 rfl (v := .bool _) rfl ?_
        exact ⟨eR (eDT (z_c_laws_rInts_24 L nL hbdL hleL M nM hbdM hleM h1 k hi10 h11)), hB6⟩

theorem z_c_laws_rVisits_2 (L : List Visit) (nL : Nat) (hbdL : (nL : Int) ≤ 9223372036854775807) (hleL : nL = L.length) (M : List Visit) (nM : Nat) (hbdM : (nM : Int) ≤ 9223372036854775807) (hleM : nM = M.length) (h1 : ¬ ((nL : Int) = (nM : Int))) : ¬ (L = M) := by
  first | (intro e; subst e; omega) | exact ne_at ‹L[_]? = some _› ‹M[_]? = some _› ‹_› | exact take_end (And.right ‹_ ∧ L.take _ = M.take _›) hleL hleM (by omega) ‹_›
theorem z_c_laws_rVisits_3 (L : List Visit) (nL : Nat) (hbdL : (nL : Int) ≤ 9223372036854775807) (hleL : nL = L.length) (M : List Visit) (nM : Nat) (hbdM : (nM : Int) ≤ 9223372036854775807) (hleM : nM = M.length) (h1 : (nL : Int) = (nM : Int)) : 0 ≤ nL ∧ L.take 0 = M.take 0 := by
  simp
theorem z_c_laws_rVisits_21 (L : List Visit) (nL : Nat) (hbdL : (nL : Int) ≤ 9223372036854775807) (hleL : nL = L.length) (M : List Visit) (nM : Nat) (hbdM : (nM : Int) ≤ 9223372036854775807) (hleM : nM = M.length) (h1 : (nL : Int) = (nM : Int)) (k : Nat) (hi10 : k ≤ nL ∧ L.take k = M.take k) (h11 : (k : Int) < (nL : Int)) (hx13 : L[k]? = some (gt L k)) (hx15 : M[k]? = some (gt M k)) (h20 : ¬ ((gt L k) = (gt M k))) : ¬ (L = M) := by
  first | (intro e; subst e; omega) | exact ne_at ‹L[_]? = some _› ‹M[_]? = some _› ‹_› | exact take_end (And.right ‹_ ∧ L.take _ = M.take _›) hleL hleM (by omega) ‹_›
theorem z_c_laws_rVisits_22 (L : List Visit) (nL : Nat) (hbdL : (nL : Int) ≤ 9223372036854775807) (hleL : nL = L.length) (M : List Visit) (nM : Nat) (hbdM : (nM : Int) ≤ 9223372036854775807) (hleM : nM = M.length) (h1 : (nL : Int) = (nM : Int)) (k : Nat) (hi10 : k ≤ nL ∧ L.take k = M.take k) (h11 : (k : Int) < (nL : Int)) (hx13 : L[k]? = some (gt L k)) (hx15 : M[k]? = some (gt M k)) (h20 : (gt L k) = (gt M k)) : k + 1 ≤ nL ∧ L.take (k + 1) = M.take (k + 1) := by
  exact ⟨by omega, take_next (And.right ‹_ ∧ L.take _ = M.take _›) ‹L[_]? = some _› ‹M[_]? = some _› (by assumption)⟩
theorem z_c_laws_rVisits_23 (L : List Visit) (nL : Nat) (hbdL : (nL : Int) ≤ 9223372036854775807) (hleL : nL = L.length) (M : List Visit) (nM : Nat) (hbdM : (nM : Int) ≤ 9223372036854775807) (hleM : nM = M.length) (h1 : (nL : Int) = (nM : Int)) (k : Nat) (hi10 : k ≤ nL ∧ L.take k = M.take k) (h11 : (k : Int) < (nL : Int)) (hx13 : L[k]? = some (gt L k)) (hx15 : M[k]? = some (gt M k)) (h20 : (gt L k) = (gt M k)) : nL - (k + 1) < nL - k := by
  omega
theorem z_c_laws_rVisits_24 (L : List Visit) (nL : Nat) (hbdL : (nL : Int) ≤ 9223372036854775807) (hleL : nL = L.length) (M : List Visit) (nM : Nat) (hbdM : (nM : Int) ≤ 9223372036854775807) (hleM : nM = M.length) (h1 : (nL : Int) = (nM : Int)) (k : Nat) (hi10 : k ≤ nL ∧ L.take k = M.take k) (h11 : ¬ ((k : Int) < (nL : Int))) : L = M := by
  first | (intro e; subst e; omega) | exact ne_at ‹L[_]? = some _› ‹M[_]? = some _› ‹_› | exact take_end (And.right ‹_ ∧ L.take _ = M.take _›) hleL hleM (by omega) ‹_›
theorem c_laws_rVisits (w : World) {AL : Option Addr} {nL cL BL : Nat}  (L : List Visit) (hL : SlR w BL encVisit 4 AL nL cL L) {AM : Option Addr} {nM cM BM : Nat}  (M : List Visit) (hM : SlR w BM encVisit 4 AM nM cM M) : Calls Tryz.prog 19 #[.slice AL nL cL, .slice AM nM cM] w fun e w' => e = .returned (.bool (decide (L = M))) ∧ Lo w w' := by
  refine calls_W 26 Tryz.func19 rfl rfl rfl ?_
  have hbdL := hL.bound
  have hleL := hL.len
  have hBbL := hL.bd
  have hbdM := hM.bound
  have hleM := hM.len
  have hBbM := hM.bd
  refine W.seq ?_
  refine W.regS (SR.q' (r_as (v := .bool false) rfl) <| SR.nil ?_)
  refine W.seq ?_
  refine W.seq ?_
  refine W.regS (SR.q' (r_mv (v := .slice _ _ _) rfl) <| SR.q' (r_len und24 rfl) <| SR.q' (r_mv (v := .slice _ _ _) rfl) <| SR.q' (r_len und24 rfl) <| SR.q' (r_ne rfl rfl) <| SR.nil ?_)
  refine W.cond_n rfl (fun h1 => ?_) (fun h1 => ?_)
  · refine W.seq ?_
    refine W.regS (SR.q' (r_as (v := .bool false) rfl) <| SR.nil ?_)
    refine W.ret ?_
    refine ret1 rfl (v := .bool _) rfl ?_
    exact ⟨eR (eDF (z_c_laws_rVisits_2 L nL hbdL hleL M nM hbdM hleM h1)), (Lo.refl w)⟩
  · refine W.skip ?_
    refine W.seq ?_
    refine W.seq ?_
    refine W.regS (SR.q' (r_as (v := .int .i64 0) rfl) <| SR.nil ?_)
    refine W.block ?_
    refine W.loop (σ := Nat) (fun g => [(0, .slice AL nL cL), (1, .slice AM nM cM), (5, .int .i64 (g : Int))]) (fun g w' => (Lo w w') ∧ (SlR w' BL encVisit 4 AL nL cL L) ∧ (SlR w' BM encVisit 4 AM nM cM M) ∧ (g ≤ nL ∧ L.take g = M.take g)) (fun g => nL - g) 0 ?_ ?_ ?_
    · exact ⟨rfl, rfl, rfl, trivial⟩
    · exact ⟨(Lo.refl w), hL, hM, (z_c_laws_rVisits_3 L nL hbdL hleL M nM hbdM hleM h1)⟩
    · rintro k f4 w5 hP7
      obtain ⟨hB6, hm8, hm9, hi10⟩ : (Lo w w5) ∧ (SlR w5 BL encVisit 4 AL nL cL L) ∧ (SlR w5 BM encVisit 4 AM nM cM M) ∧ (k ≤ nL ∧ L.take k = M.take k) := hP7
      refine (?_ : W _ _ _ _ _ (act _ (sets f4 [(0, .slice AL nL cL), (1, .slice AM nM cM), (5, .int .i64 (k : Int))])) _)
      have hzw5 := hB6.size
      refine W.seq ?_
      refine W.seq ?_
      refine W.regS (SR.q' (r_mv (v := .int .i64 _) rfl) <| SR.q' (r_mv (v := .slice _ _ _) rfl) <| SR.q' (r_len und24 rfl) <| SR.q' (r_lt rfl rfl) <| SR.nil ?_)
      refine W.cond_d rfl (fun h11 => ?_) (fun h11 => ?_)
      · refine W.skip ?_
        refine W.seq ?_
        refine W.block ?_
        refine W.seq ?_
        refine W.regD mo (by kernel_rfl) (QR.q' (fun w' hw' => r_mv (v := .slice _ _ _) rfl) <| QR.q' (fun w' hw' => r_mv (v := .int .i64 _) rfl) <| ?_)
        have hx13 := (hm8).elem (i := k) (by omega)
        refine QR.q' (fun w' hw' => r_ixR tsl24 (((hm8).lo hw')) rfl rfl (by omega)) <| QR.q' (fun w' hw' => r_lda (l := encVisit (gt L k)) agg45 rfl (fun _ _ hu => (((hm8).lo hw')).cell hx13 hu) ((((hm8).lo hw')).esz _)) <| QR.q' (fun w' hw' => r_mv (v := .slice _ _ _) rfl) <| QR.q' (fun w' hw' => r_mv (v := .int .i64 _) rfl) <| ?_
        have hx15 := (hm9).elem (i := k) (by omega)
        refine QR.q' (fun w' hw' => r_ixR tsl24 (((hm9).lo hw')) rfl rfl (by omega)) <| QR.q' (fun w' hw' => r_lda (l := encVisit (gt M k)) agg45 rfl (fun _ _ hu => (((hm9).lo hw')).cell hx15 hu) ((((hm9).lo hw')).esz _)) <| QR.q' (fun w' hw' => r_neA (l := encVisit (gt L k)) (r := encVisit (gt M k)) rfl rfl eqg45 (eql45 (gt L k) (gt M k))) <| QR.nil ?_
        intro w16 hk17
        have hz18 := hk17.size
        have hB19 := hB6.lo hk17
        refine W.cond_n rfl (fun h20 => ?_) (fun h20 => ?_)
        · refine W.seq ?_
          refine W.regS (SR.q' (r_as (v := .bool false) rfl) <| SR.nil ?_)
          refine W.ret ?_
          refine ret1 rfl (v := .bool _) rfl ?_
          exact ⟨eR (eDF (z_c_laws_rVisits_21 L nL hbdL hleL M nM hbdM hleM h1 k hi10 h11 hx13 hx15 h20)), hB19⟩
        · refine W.skip ?_
          refine W.regS (SR.q' (r_mv (v := .int .i64 _) rfl) <| SR.q' (r_add rfl rfl (by omega)) <| SR.q' (r_as (v := .int .i64 _) rfl) <| SR.nil ?_)
          refine ⟨k + 1, _, rfl, ⟨rfl, rfl, rfl, trivial⟩, ⟨hB19, (hm8).lo hk17, (hm9).lo hk17, ?_⟩, ?_⟩
          · exact (z_c_laws_rVisits_22 L nL hbdL hleL M nM hbdM hleM h1 k hi10 h11 hx13 hx15 h20)
          · exact (z_c_laws_rVisits_23 L nL hbdL hleL M nM hbdM hleM h1 k hi10 h11 hx13 hx15 h20)
      · refine W.exit (xin_here ?_)
        refine W.seq ?_
        refine W.regS (SR.q' (r_as (v := .bool true) rfl) <| SR.nil ?_)
        refine W.ret ?_
        refine ret1 rfl (v := .bool _) rfl ?_
        exact ⟨eR (eDT (z_c_laws_rVisits_24 L nL hbdL hleL M nM hbdM hleM h1 k hi10 h11)), hB6⟩

theorem z_c_laws_rHas_1 (L : List Int) (nL : Nat) (hbdL : (nL : Int) ≤ 9223372036854775807) (hleL : nL = L.length) (x : Int) : 0 ≤ nL ∧ x ∉ L.take 0 := by
  simp
theorem z_c_laws_rHas_12 (L : List Int) (nL : Nat) (hbdL : (nL : Int) ≤ 9223372036854775807) (hleL : nL = L.length) (x : Int) (k : Nat) (hi7 : k ≤ nL ∧ x ∉ L.take k) (h8 : (k : Int) < (nL : Int)) (hx10 : L[k]? = some (gt L k)) (h11 : (gt L k) = x) : x ∈ L := by
  first | exact has_yes ‹L[_]? = some _› (by assumption) | exact has_no (And.right ‹_ ∧ _ ∉ L.take _›) (by omega)
theorem z_c_laws_rHas_13 (L : List Int) (nL : Nat) (hbdL : (nL : Int) ≤ 9223372036854775807) (hleL : nL = L.length) (x : Int) (k : Nat) (hi7 : k ≤ nL ∧ x ∉ L.take k) (h8 : (k : Int) < (nL : Int)) (hx10 : L[k]? = some (gt L k)) (h11 : ¬ ((gt L k) = x)) : k + 1 ≤ nL ∧ x ∉ L.take (k + 1) := by
  exact ⟨by omega, has_next (And.right ‹_ ∧ _ ∉ L.take _›) ‹L[_]? = some _› (by assumption)⟩
theorem z_c_laws_rHas_14 (L : List Int) (nL : Nat) (hbdL : (nL : Int) ≤ 9223372036854775807) (hleL : nL = L.length) (x : Int) (k : Nat) (hi7 : k ≤ nL ∧ x ∉ L.take k) (h8 : (k : Int) < (nL : Int)) (hx10 : L[k]? = some (gt L k)) (h11 : ¬ ((gt L k) = x)) : nL - (k + 1) < nL - k := by
  omega
theorem z_c_laws_rHas_15 (L : List Int) (nL : Nat) (hbdL : (nL : Int) ≤ 9223372036854775807) (hleL : nL = L.length) (x : Int) (k : Nat) (hi7 : k ≤ nL ∧ x ∉ L.take k) (h8 : ¬ ((k : Int) < (nL : Int))) : ¬ (x ∈ L) := by
  first | exact has_yes ‹L[_]? = some _› (by assumption) | exact has_no (And.right ‹_ ∧ _ ∉ L.take _›) (by omega)
theorem c_laws_rHas (w : World) {AL : Option Addr} {nL cL BL : Nat}  (L : List Int) (hL : SlR w BL encI 1 AL nL cL L) (x : Int) : Calls Tryz.prog 15 #[.slice AL nL cL, .int .i64 x] w fun e w' => e = .returned (.bool (decide (x ∈ L))) ∧ Lo w w' := by
  refine calls_W 18 Tryz.func15 rfl rfl rfl ?_
  have hbdL := hL.bound
  have hleL := hL.len
  have hBbL := hL.bd
  refine W.seq ?_
  refine W.regS (SR.q' (r_as (v := .bool false) rfl) <| SR.nil ?_)
  refine W.seq ?_
  refine W.seq ?_
  refine W.regS (SR.q' (r_as (v := .int .i64 0) rfl) <| SR.nil ?_)
  refine W.block ?_
  refine W.loop (σ := Nat) (fun g => [(0, .slice AL nL cL), (1, .int .i64 x), (5, .int .i64 (g : Int))]) (fun g w' => (Lo w w') ∧ (SlR w' BL encI 1 AL nL cL L) ∧ (g ≤ nL ∧ x ∉ L.take g)) (fun g => nL - g) 0 ?_ ?_ ?_
  · exact ⟨rfl, rfl, rfl, trivial⟩
  · exact ⟨(Lo.refl w), hL, (z_c_laws_rHas_1 L nL hbdL hleL x)⟩
  · rintro k f2 w3 hP5
    obtain ⟨hB4, hm6, hi7⟩ : (Lo w w3) ∧ (SlR w3 BL encI 1 AL nL cL L) ∧ (k ≤ nL ∧ x ∉ L.take k) := hP5
    refine (?_ : W _ _ _ _ _ (act _ (sets f2 [(0, .slice AL nL cL), (1, .int .i64 x), (5, .int .i64 (k : Int))])) _)
    have hzw3 := hB4.size
    refine W.seq ?_
    refine W.seq ?_
    refine W.regS (SR.q' (r_mv (v := .int .i64 _) rfl) <| SR.q' (r_mv (v := .slice _ _ _) rfl) <| SR.q' (r_len und27 rfl) <| SR.q' (r_lt rfl rfl) <| SR.nil ?_)
    refine W.cond_d rfl (fun h8 => ?_) (fun h8 => ?_)
    · refine W.skip ?_
      refine W.seq ?_
      refine W.block ?_
      refine W.seq ?_
      refine W.regS (SR.q' (r_mv (v := .slice _ _ _) rfl) <| SR.q' (r_mv (v := .int .i64 _) rfl) <| ?_)
      have hx10 := (hm6).elem (i := k) (by omega)
      refine SR.q' (r_ixR tsl27 (hm6) rfl rfl (by omega)) <| SR.q' (r_ld (v := .int .i64 (gt L k)) sca3 rfl ((hm6).cell0 hx10 rfl)) <| SR.q' (r_mv (v := .int .i64 _) rfl) <| SR.q' (r_eq rfl rfl) <| SR.nil ?_
      refine W.cond_d rfl (fun h11 => ?_) (fun h11 => ?_)
      · refine W.seq ?_
        refine W.regS (SR.q' (r_as (v := .bool true) rfl) <| SR.nil ?_)
        refine W.ret ?_
        refine ret1 rfl (v := .bool _) rfl ?_
        exact ⟨eR (eDT (z_c_laws_rHas_12 L nL hbdL hleL x k hi7 h8 hx10 h11)), hB4⟩
      · refine W.skip ?_
        refine W.regS (SR.q' (r_mv (v := .int .i64 _) rfl) <| SR.q' (r_add rfl rfl (by omega)) <| SR.q' (r_as (v := .int .i64 _) rfl) <| SR.nil ?_)
        refine ⟨k + 1, _, rfl, ⟨rfl, rfl, rfl, trivial⟩, ⟨hB4, hm6, ?_⟩, ?_⟩
        · exact (z_c_laws_rHas_13 L nL hbdL hleL x k hi7 h8 hx10 h11)
        · exact (z_c_laws_rHas_14 L nL hbdL hleL x k hi7 h8 hx10 h11)
    · refine W.exit (xin_here ?_)
      refine W.seq ?_
      refine W.regS (SR.q' (r_as (v := .bool false) rfl) <| SR.nil ?_)
      refine W.ret ?_
      refine ret1 rfl (v := .bool _) rfl ?_
      exact ⟨eR (eDF (z_c_laws_rHas_15 L nL hbdL hleL x k hi7 h8)), hB4⟩
end Go.Proofs.YthgbcadgnihdiaaGreatDoor
