/- Walks, printed by a program of this claim's author. -/
import Derived.Test.YthgbcadgnihdiaaChecked
import Derived.Test.YthgbcadgnihdiaaRa
import Derived.Test.YthgbcadgnihdiaaRb
import Derived.Test.YthgbcadgnihdiaaFu
import Derived.Test.YthgbcadgnihdiaaFs
import Derived.Test.YthgbcadgnihdiaaFq
import Derived.Test.YthgbcadgnihdiaaFo
import Derived.Test.YthgbcadgnihdiaaFp
import Derived.Test.YthgbcadgnihdiaaRd
import Derived.Test.YthgbcadgnihdiaaG30y
namespace Go.Proofs.Ythgbcadgnihdiaa
open Go Go.RowKit Fw
set_option maxRecDepth 10000
set_option linter.unusedVariables false
theorem bld71_0 (a0 : Option Addr) (b0 c0 : Nat) : Try.prog.built 71 [(0, .slice a0 b0 c0)] = some (List.toArray [.slice a0 b0 c0, .int .i64 0, .int .u64 0]) := by kernel_rfl
theorem ent27 : Ent Try.prog 27 := ent_of Try.func27 (by decide +kernel) rfl
theorem ent55 : Ent Try.prog 55 := ent_of Try.func55 (by decide +kernel) rfl
theorem ent56 : Ent Try.prog 56 := ent_of Try.func56 (by decide +kernel) rfl
theorem ent59 : Ent Try.prog 59 := ent_of Try.func59 (by decide +kernel) rfl
theorem ent82 : Ent Try.prog 82 := ent_of Try.func82 (by decide +kernel) rfl
theorem eqg59 : Try.prog.eqGuardType Try.prog.depth 59 = false := by kernel_rfl
theorem eql59 (a b : Visit) (w : World) : (binOp .eql 59 (.agg (List.toArray (encVisit a))) (.agg (List.toArray (encVisit b)))).run Try.prog w = .ok (.bool (decide (a = b))) w := by
  have u3 := Try.underlying3
  have a3 := Try.isAgg3
  have z3 := Try.sizeOf3
  have hS : Try.prog.underlying 59 = some (.struct (Try.prog.fieldsOf 59)) := by kernel_rfl
  have hp : Try.prog.stoodInHeld 59 = false := by kernel_rfl
  have hd : (a = b) ↔ a.Reader = b.Reader ∧ a.Seat = b.Seat ∧ a.From = b.From ∧ a.Until = b.Until := by cases a; cases b; simp
  simp only [encVisit, hd]
  rw [run_eql_struct, show (10000 : Nat) = 9999 + 1 from rfl, run_equalIn_agg w 9999 59 _ _ hS hp]
  simp only [Program.fieldsOf, Try.underlying59]
  go_simp
  skip
  by_cases h0 : a.Reader = b.Reader <;> by_cases h1 : a.Seat = b.Seat <;> by_cases h2 : a.From = b.From <;> by_cases h3 : a.Until = b.Until <;> simp [h0, h1, h2, h3]

theorem z_c___spec_l1Cur__visitor_30 (Lc : List UInt8) (tc : Int) (sc : Int) (nc : Nat) (htc : 0 ≤ tc ∧ tc + 4 ≤ 4611686018427387904) (hbdc : (nc : Int) ≤ 9223372036854775807) (hlec : nc = Lc.length) (v10 : Int) (t11 : Int) (s12 : Int) (ht14 : tc ≤ t11 ∧ t11 ≤ tc + 2) (hq15 : (0 : Int) ≤ v10 ∧ ((v10 : Int) < 24 ∨ (v10 : Int) = 0)) (v20 : Int) (t21 : Int) (s22 : Int) (ht24 : t11 ≤ t21 ∧ t21 ≤ t11 + 2) (hq25 : v20 ∈ (([1, 2, 3, 4, 999, 7, 0, 1000] : List Int).take ((7 + (v10 / 12)).toNat))) (hq28 : v20 ∈ ([1, 2, 3, 4, 999, 7, 0, 1000] : List Int)) (hq29 : (0 : Int) ≤ v20 ∧ v20 ≤ 1000) : -1000000000 ≤ v20 ∧ v20 ≤ 1000000000 := by
  omega
theorem c___spec_l1Cur__visitor (w : World) {gc ec : Nat} {Ac : Option Addr} {nc cc Bc : Nat} (Lc : List UInt8) (tc sc : Int) (hc : Blk w gc ec [.slice Ac nc cc, .int .i64 tc, .int .u64 sc]) (hLc : SlR w Bc encB 1 Ac nc cc Lc) (hgc : Bc ≤ gc) (htc : 0 ≤ tc ∧ tc + 4 ≤ 4611686018427387904) : Calls Try.prog 59 #[.pointer (some ⟨gc, 0, none⟩)] w fun e w' => ∃ (v : Int) (tc' sc' : Int), e = .returned (.int .i64 v) ∧ Blk w' gc ec [.slice Ac nc cc, .int .i64 tc', .int .u64 sc'] ∧ (tc ≤ tc' ∧ tc' ≤ tc + 4) ∧ (-1000000000 ≤ v ∧ v ≤ 1000000000) ∧ Kp (fun b_ => b_ = gc) w w' := by
  refine calls_W 11 Try.func59 rfl rfl rfl ?_
  have hBlc := hc.lt
  have hbdc := hLc.bound
  have hlec := hLc.len
  have hBbc := hLc.bd
  refine W.seq ?_
  refine W.regS (SR.q' (r_as (v := .int .i64 0) rfl) <| SR.nil ?_)
  refine W.seq ?_
  refine W.regS (SR.q' (r_mv (v := .pointer (some _)) rfl) <| SR.lit (vs := [.int .i64 1, .int .i64 2, .int .i64 3, .int .i64 4, .int .i64 999, .int .i64 7, .int .i64 0, .int .i64 1000]) (L := ([1, 2, 3, 4, 999, 7, 0, 1000] : List Int)) (enc := encI) tel39 (fun _ => rfl) rfl rfl rfl (by decide) ?_)
  intro g1 w2 hg3 hk4 hO5
  have hz6 := hk4.size
  have hB7 := (Kp.refl w : Kp (fun b_ => b_ = gc) w w).lo hk4
  refine SR.q' (r_mv (v := .pointer (some _)) rfl) <| SR.call ent62 (c___spec_l1Cur__pick w2 Lc tc sc ((hc).lo hk4) (((hLc).lo hk4)) (by omega) (by omega) 24 (by first | omega | (simp only [List.length_append, List.length_cons, List.length_nil, List.length_take, List.length_drop]; omega))) rfl ?_
  rintro e w8 ⟨v10, t11, s12, rfl, hb13, ht14, hq15, hk9⟩
  refine ⟨_, rfl, ?_⟩
  have hz16 := hk9.size
  have hB17 := hB7.step hk9 (fun i_ hi_ e' => e')
  refine SR.q' (r_quo rfl rfl (by omega)) <| SR.q' (r_add rfl rfl (by omega)) <| SR.q' (r_cuth (h := (7 + (v10 / 12)).toNat) tsl39 rfl rfl (by omega) (Nat.le_trans (by omega : (7 + (v10 / 12)).toNat ≤ 8) ((hO5).kp hk9 (fun b_ hb e' => by have e'' : b_ = gc := e'; have := (hO5).base_le hb; omega)).rd.cap)) <| SR.call ent57 (c___spec_l1Cur__among w8 Lc t11 s12 (hb13) ((((hLc).lo hk4).kp hk9 (fun b_ hb e' => by have e'' : b_ = gc := e'; omega))) (by omega) (by omega) (([1, 2, 3, 4, 999, 7, 0, 1000] : List Int).take ((7 + (v10 / 12)).toNat)) (((((hO5).kp hk9 (fun b_ hb e' => by have e'' : b_ = gc := e'; have := (hO5).base_le hb; omega)).head (h := (7 + (v10 / 12)).toNat) (by omega)).rd)) (by omega) (by omega) (show ¬ g1 = gc from by omega)) rfl ?_
  rintro e w18 ⟨v20, t21, s22, rfl, hb23, ht24, hq25, hk19⟩
  refine ⟨_, rfl, ?_⟩
  have hz26 := hk19.size
  have hB27 := hB17.step hk19 (fun i_ hi_ e' => e')
  have hq28 := List.mem_of_mem_take hq25
  have hq29 : (0 : Int) ≤ v20 ∧ v20 ≤ 1000 := mem_rngB (lo := 0) (hi := 1000) (by decide) hq28
  refine SR.q' (r_as (v := .int .i64 _) rfl) <| SR.nil ?_
  refine W.ret ?_
  refine ret1 rfl (v := .int .i64 _) rfl ?_
  exact ⟨v20, t21, s22, eR rfl, (hb23), ⟨by omega, by omega⟩, (z_c___spec_l1Cur__visitor_30 Lc tc sc nc htc hbdc hlec v10 t11 s12 ht14 hq15 v20 t21 s22 ht24 hq25 hq28 hq29), hB27⟩

theorem z_c___spec_l1Cur__minute30_31 (Lc : List UInt8) (tc : Int) (sc : Int) (nc : Nat) (htc : 0 ≤ tc ∧ tc + 6 ≤ 4611686018427387904) (hbdc : (nc : Int) ≤ 9223372036854775807) (hlec : nc = Lc.length) (L : List Visit) (nL : Nat) (hbdL : (nL : Int) ≤ 9223372036854775807) (hleL : nL = L.length) (hp0 : VsB L) (hp1 : nL ≤ 60) (h1 : (nL : Int) = 0) (v11 : Int) (t12 : Int) (s13 : Int) (ht15 : tc ≤ t12 ∧ t12 ≤ tc + 2) (hq16 : (0 : Int) ≤ v11 ∧ ((v11 : Int) < 24 ∨ (v11 : Int) = 0)) (v21 : Int) (t22 : Int) (s23 : Int) (ht25 : t12 ≤ t22 ∧ t22 ≤ t12 + 2) (hq26 : v21 ∈ (([480, 600, 1199, 1200, 479, 1201] : List Int).take ((4 + (v11 / 11)).toNat))) (hq29 : v21 ∈ ([480, 600, 1199, 1200, 479, 1201] : List Int)) (hq30 : (479 : Int) ≤ v21 ∧ v21 ≤ 1201) : -2000 ≤ v21 ∧ v21 ≤ 2000 := by
  omega
theorem z_c___spec_l1Cur__minute30_71 (Lc : List UInt8) (tc : Int) (sc : Int) (nc : Nat) (htc : 0 ≤ tc ∧ tc + 6 ≤ 4611686018427387904) (hbdc : (nc : Int) ≤ 9223372036854775807) (hlec : nc = Lc.length) (L : List Visit) (nL : Nat) (hbdL : (nL : Int) ≤ 9223372036854775807) (hleL : nL = L.length) (hp0 : VsB L) (hp1 : nL ≤ 60) (h1 : ¬ ((nL : Int) = 0)) (v34 : Bool) (t35 : Int) (s36 : Int) (ht38 : tc ≤ t35 ∧ t35 ≤ tc + 2) (h41 : v34 = true) (v51 : Int) (t52 : Int) (s53 : Int) (ht55 : t35 ≤ t52 ∧ t52 ≤ t35 + 2) (hq56 : (0 : Int) ≤ v51 ∧ ((v51 : Int) < 24 ∨ (v51 : Int) = 0)) (v61 : Int) (t62 : Int) (s63 : Int) (ht65 : t52 ≤ t62 ∧ t62 ≤ t52 + 2) (hq66 : v61 ∈ (([480, 600, 1199, 1200, 479, 1201] : List Int).take ((4 + (v51 / 11)).toNat))) (hq69 : v61 ∈ ([480, 600, 1199, 1200, 479, 1201] : List Int)) (hq70 : (479 : Int) ≤ v61 ∧ v61 ≤ 1201) : -2000 ≤ v61 ∧ v61 ≤ 2000 := by
  omega
theorem z_c___spec_l1Cur__minute30_125 (Lc : List UInt8) (tc : Int) (sc : Int) (nc : Nat) (htc : 0 ≤ tc ∧ tc + 6 ≤ 4611686018427387904) (hbdc : (nc : Int) ≤ 9223372036854775807) (hlec : nc = Lc.length) (L : List Visit) (nL : Nat) (hbdL : (nL : Int) ≤ 9223372036854775807) (hleL : nL = L.length) (hp0 : VsB L) (hp1 : nL ≤ 60) (h1 : ¬ ((nL : Int) = 0)) (v34 : Bool) (t35 : Int) (s36 : Int) (ht38 : tc ≤ t35 ∧ t35 ≤ tc + 2) (h41 : v34 = false) (v74 : Int) (t75 : Int) (s76 : Int) (ht78 : t35 ≤ t75 ∧ t75 ≤ t35 + 2) (hq79 : (0 : Int) ≤ v74 ∧ ((v74 : Int) < (nL : Int) ∨ (v74 : Int) = 0)) (hx83 : L[v74.toNat]? = some (gt L v74.toNat)) (hq84 : (-100000 ≤ (gt L v74.toNat).From ∧ (gt L v74.toNat).From ≤ 100000) ∧ (-100000 ≤ (gt L v74.toNat).Until ∧ (gt L v74.toNat).Until ≤ 100000)) (v108 : Int) (t109 : Int) (s110 : Int) (ht112 : t75 ≤ t109 ∧ t109 ≤ t75 + 2) (hq113 : v108 ∈ ([(gt L v74.toNat).From, ((gt L v74.toNat).From) + 1, ((gt L v74.toNat).Until) - 1, (gt L v74.toNat).Until, ((gt L v74.toNat).From) - 1] : List Int)) (hq116 : (v108 : Int) = ((gt L v74.toNat).From) ∨ (v108 : Int) = (((gt L v74.toNat).From) + 1) ∨ (v108 : Int) = (((gt L v74.toNat).Until) - 1) ∨ (v108 : Int) = ((gt L v74.toNat).Until) ∨ (v108 : Int) = (((gt L v74.toNat).From) - 1)) : -2000 ≤ (min 1200 (max 480 v108)) ∧ (min 1200 (max 480 v108)) ≤ 2000 := by
  omega
theorem c___spec_l1Cur__minute30 (w : World) {gc ec : Nat} {Ac : Option Addr} {nc cc Bc : Nat} (Lc : List UInt8) (tc sc : Int) (hc : Blk w gc ec [.slice Ac nc cc, .int .i64 tc, .int .u64 sc]) (hLc : SlR w Bc encB 1 Ac nc cc Lc) (hgc : Bc ≤ gc) (htc : 0 ≤ tc ∧ tc + 6 ≤ 4611686018427387904) {AL : Option Addr} {nL cL BL : Nat}  (L : List Visit) (hL : SlR w BL encVisit 4 AL nL cL L) (hp0 : VsB L) (hp1 : nL ≤ 60) (hp2 : 0 < nL → ¬ (adr AL).block = gc) : Calls Try.prog 56 #[.pointer (some ⟨gc, 0, none⟩), .slice AL nL cL] w fun e w' => ∃ (v : Int) (tc' sc' : Int), e = .returned (.int .i64 v) ∧ Blk w' gc ec [.slice Ac nc cc, .int .i64 tc', .int .u64 sc'] ∧ (tc ≤ tc' ∧ tc' ≤ tc + 6) ∧ (-2000 ≤ v ∧ v ≤ 2000) ∧ Kp (fun b_ => b_ = gc) w w' := by
  refine calls_W 46 Try.func56 rfl rfl rfl ?_
  have hBlc := hc.lt
  have hbdc := hLc.bound
  have hlec := hLc.len
  have hBbc := hLc.bd
  have hbdL := hL.bound
  have hleL := hL.len
  have hBbL := hL.bd
  refine W.seq ?_
  refine W.regS (SR.q' (r_as (v := .int .i64 0) rfl) <| SR.nil ?_)
  refine W.seq ?_
  refine W.seq ?_
  refine W.regS (SR.q' (r_mv (v := .slice _ _ _) rfl) <| SR.q' (r_len und24 rfl) <| SR.q' (r_eq rfl rfl) <| SR.q' (r_mv (v := .bool _) rfl) <| SR.splitD (fun h1 => ?_) (fun h1 => ?_))
  · refine SR.s' rfl <| SR.s' rfl <| SR.q' (r_pick true rfl (v := .bool true) rfl) <| SR.nil ?_
    refine W.cond_t rfl ?_
    refine W.seq ?_
    refine W.regS (SR.q' (r_mv (v := .pointer (some _)) rfl) <| SR.lit (vs := [.int .i64 480, .int .i64 600, .int .i64 1199, .int .i64 1200, .int .i64 479, .int .i64 1201]) (L := ([480, 600, 1199, 1200, 479, 1201] : List Int)) (enc := encI) tel39 (fun _ => rfl) rfl rfl rfl (by decide) ?_)
    intro g2 w3 hg4 hk5 hO6
    have hz7 := hk5.size
    have hB8 := (Kp.refl w : Kp (fun b_ => b_ = gc) w w).lo hk5
    refine SR.q' (r_mv (v := .pointer (some _)) rfl) <| SR.call ent62 (c___spec_l1Cur__pick w3 Lc tc sc ((hc).lo hk5) (((hLc).lo hk5)) (by omega) (by omega) 24 (by first | omega | (simp only [List.length_append, List.length_cons, List.length_nil, List.length_take, List.length_drop]; omega))) rfl ?_
    rintro e w9 ⟨v11, t12, s13, rfl, hb14, ht15, hq16, hk10⟩
    refine ⟨_, rfl, ?_⟩
    have hz17 := hk10.size
    have hB18 := hB8.step hk10 (fun i_ hi_ e' => e')
    refine SR.q' (r_quo rfl rfl (by omega)) <| SR.q' (r_add rfl rfl (by omega)) <| SR.q' (r_cuth (h := (4 + (v11 / 11)).toNat) tsl39 rfl rfl (by omega) (Nat.le_trans (by omega : (4 + (v11 / 11)).toNat ≤ 6) ((hO6).kp hk10 (fun b_ hb e' => by have e'' : b_ = gc := e'; have := (hO6).base_le hb; omega)).rd.cap)) <| SR.call ent57 (c___spec_l1Cur__among w9 Lc t12 s13 (hb14) ((((hLc).lo hk5).kp hk10 (fun b_ hb e' => by have e'' : b_ = gc := e'; omega))) (by omega) (by omega) (([480, 600, 1199, 1200, 479, 1201] : List Int).take ((4 + (v11 / 11)).toNat)) (((((hO6).kp hk10 (fun b_ hb e' => by have e'' : b_ = gc := e'; have := (hO6).base_le hb; omega)).head (h := (4 + (v11 / 11)).toNat) (by omega)).rd)) (by omega) (by omega) (show ¬ g2 = gc from by omega)) rfl ?_
    rintro e w19 ⟨v21, t22, s23, rfl, hb24, ht25, hq26, hk20⟩
    refine ⟨_, rfl, ?_⟩
    have hz27 := hk20.size
    have hB28 := hB18.step hk20 (fun i_ hi_ e' => e')
    have hq29 := List.mem_of_mem_take hq26
    have hq30 : (479 : Int) ≤ v21 ∧ v21 ≤ 1201 := mem_rngB (lo := 479) (hi := 1201) (by decide) hq29
    refine SR.q' (r_as (v := .int .i64 _) rfl) <| SR.nil ?_
    refine W.ret ?_
    refine ret1 rfl (v := .int .i64 _) rfl ?_
    exact ⟨v21, t22, s23, eR rfl, (hb24), ⟨by omega, by omega⟩, (z_c___spec_l1Cur__minute30_31 Lc tc sc nc htc hbdc hlec L nL hbdL hleL hp0 hp1 h1 v11 t12 s13 ht15 hq16 v21 t22 s23 ht25 hq26 hq29 hq30), hB28⟩
  · refine SR.g' rfl (r_mv (v := .pointer (some _)) rfl) <| SR.gcall rfl ent58 (c___spec_l1Cur__one w Lc tc sc (hc) ((hLc)) (by omega) (by omega) 5 (by first | omega | (simp only [List.length_append, List.length_cons, List.length_nil, List.length_take, List.length_drop]; omega))) rfl ?_
    rintro e w32 ⟨v34, t35, s36, rfl, hb37, ht38, hk33⟩
    refine ⟨_, rfl, ?_⟩
    have hz39 := hk33.size
    have hB40 := (Kp.refl w : Kp (fun b_ => b_ = gc) w w).step hk33 (fun i_ hi_ e' => e')
    refine SR.q' (r_pick false rfl (v := .bool _) rfl) <| SR.nil ?_
    refine W.cond_b rfl (fun h41 => ?_) (fun h41 => ?_)
    · refine W.seq ?_
      refine W.regS (SR.q' (r_mv (v := .pointer (some _)) rfl) <| SR.lit (vs := [.int .i64 480, .int .i64 600, .int .i64 1199, .int .i64 1200, .int .i64 479, .int .i64 1201]) (L := ([480, 600, 1199, 1200, 479, 1201] : List Int)) (enc := encI) tel39 (fun _ => rfl) rfl rfl rfl (by decide) ?_)
      intro g42 w43 hg44 hk45 hO46
      have hz47 := hk45.size
      have hB48 := hB40.lo hk45
      refine SR.q' (r_mv (v := .pointer (some _)) rfl) <| SR.call ent62 (c___spec_l1Cur__pick w43 Lc t35 s36 ((hb37).lo hk45) ((((hLc).kp hk33 (fun b_ hb e' => by have e'' : b_ = gc := e'; omega)).lo hk45)) (by omega) (by omega) 24 (by first | omega | (simp only [List.length_append, List.length_cons, List.length_nil, List.length_take, List.length_drop]; omega))) rfl ?_
      rintro e w49 ⟨v51, t52, s53, rfl, hb54, ht55, hq56, hk50⟩
      refine ⟨_, rfl, ?_⟩
      have hz57 := hk50.size
      have hB58 := hB48.step hk50 (fun i_ hi_ e' => e')
      refine SR.q' (r_quo rfl rfl (by omega)) <| SR.q' (r_add rfl rfl (by omega)) <| SR.q' (r_cuth (h := (4 + (v51 / 11)).toNat) tsl39 rfl rfl (by omega) (Nat.le_trans (by omega : (4 + (v51 / 11)).toNat ≤ 6) ((hO46).kp hk50 (fun b_ hb e' => by have e'' : b_ = gc := e'; have := (hO46).base_le hb; omega)).rd.cap)) <| SR.call ent57 (c___spec_l1Cur__among w49 Lc t52 s53 (hb54) (((((hLc).kp hk33 (fun b_ hb e' => by have e'' : b_ = gc := e'; omega)).lo hk45).kp hk50 (fun b_ hb e' => by have e'' : b_ = gc := e'; omega))) (by omega) (by omega) (([480, 600, 1199, 1200, 479, 1201] : List Int).take ((4 + (v51 / 11)).toNat)) (((((hO46).kp hk50 (fun b_ hb e' => by have e'' : b_ = gc := e'; have := (hO46).base_le hb; omega)).head (h := (4 + (v51 / 11)).toNat) (by omega)).rd)) (by omega) (by omega) (show ¬ g42 = gc from by omega)) rfl ?_
      rintro e w59 ⟨v61, t62, s63, rfl, hb64, ht65, hq66, hk60⟩
      refine ⟨_, rfl, ?_⟩
      have hz67 := hk60.size
      have hB68 := hB58.step hk60 (fun i_ hi_ e' => e')
      have hq69 := List.mem_of_mem_take hq66
      have hq70 : (479 : Int) ≤ v61 ∧ v61 ≤ 1201 := mem_rngB (lo := 479) (hi := 1201) (by decide) hq69
      refine SR.q' (r_as (v := .int .i64 _) rfl) <| SR.nil ?_
      refine W.ret ?_
      refine ret1 rfl (v := .int .i64 _) rfl ?_
      exact ⟨v61, t62, s63, eR rfl, (hb64), ⟨by omega, by omega⟩, (z_c___spec_l1Cur__minute30_71 Lc tc sc nc htc hbdc hlec L nL hbdL hleL hp0 hp1 h1 v34 t35 s36 ht38 h41 v51 t52 s53 ht55 hq56 v61 t62 s63 ht65 hq66 hq69 hq70), hB68⟩
    · refine W.skip ?_
      refine W.seq ?_
      refine W.regS (SR.q' (r_mv (v := .slice _ _ _) rfl) <| SR.q' (r_mv (v := .pointer (some _)) rfl) <| SR.q' (r_mv (v := .slice _ _ _) rfl) <| SR.q' (r_len und24 rfl) <| SR.call ent62 (c___spec_l1Cur__pick w32 Lc t35 s36 (hb37) (((hLc).kp hk33 (fun b_ hb e' => by have e'' : b_ = gc := e'; omega))) (by omega) (by omega) (nL : Int) (by first | omega | (simp only [List.length_append, List.length_cons, List.length_nil, List.length_take, List.length_drop]; omega))) rfl ?_)
      rintro e w72 ⟨v74, t75, s76, rfl, hb77, ht78, hq79, hk73⟩
      refine ⟨_, rfl, ?_⟩
      have hz80 := hk73.size
      have hB81 := hB40.step hk73 (fun i_ hi_ e' => e')
      have hx83 := (((hL).kpb hk33 (fun e' => (hp2 (by omega)) e')).kpb hk73 (fun e' => (hp2 (by omega)) e')).elem (i := v74.toNat) (by omega)
      have hq84 := VsB.at hp0 hx83
      refine SR.q' (r_ixR tsl24 (((hL).kpb hk33 (fun e' => (hp2 (by omega)) e')).kpb hk73 (fun e' => (hp2 (by omega)) e')) rfl rfl (by omega)) <| SR.q' (r_lda (l := encVisit (gt L v74.toNat)) agg59 rfl (fun _ _ hu => (((hL).kpb hk33 (fun e' => (hp2 (by omega)) e')).kpb hk73 (fun e' => (hp2 (by omega)) e')).cell hx83 hu) ((((hL).kpb hk33 (fun e' => (hp2 (by omega)) e')).kpb hk73 (fun e' => (hp2 (by omega)) e')).esz _)) <| SR.alloc (l := [.int .i64 0, .int .i64 0, .int .i64 0, .int .i64 0]) tz59 rfl ?_
      intro g85 w86 hg87 hk88 hs89 hb90
      have hz91 := hk88.size
      have hB92 := hB81.lo hk88
      refine SR.store (o := 0) (vs := [.int .i64 ((gt L v74.toNat).Reader), .int .i64 ((gt L v74.toNat).Seat), .int .i64 ((gt L v74.toNat).From), .int .i64 ((gt L v74.toNat).Until)]) agg59.2 rfl rfl rfl rfl (hb90) (Nat.le_of_ble_eq_true rfl) rfl ?_
      intro w93 hk94 hs95 hb96
      have hz97 := hk94.size
      have hB98 := hB92.new hk94 (by omega)
      refine SR.nil ?_
      refine W.seq ?_
      refine W.regS (SR.q' (r_mv (v := .pointer (some _)) rfl) <| SR.q' (r_fa fa59_2 rfl) <| SR.q' (r_ld (v := .int .i64 ((gt L v74.toNat).From)) sca3 rfl ((hb96).cell rfl)) <| SR.q' (r_fa fa59_2 rfl) <| SR.q' (r_ld (v := .int .i64 ((gt L v74.toNat).From)) sca3 rfl ((hb96).cell rfl)) <| SR.q' (r_add rfl rfl (by omega)) <| SR.q' (r_fa fa59_3 rfl) <| SR.q' (r_ld (v := .int .i64 ((gt L v74.toNat).Until)) sca3 rfl ((hb96).cell rfl)) <| SR.q' (r_sub rfl rfl (by omega)) <| SR.q' (r_fa fa59_3 rfl) <| SR.q' (r_ld (v := .int .i64 ((gt L v74.toNat).Until)) sca3 rfl ((hb96).cell rfl)) <| SR.q' (r_fa fa59_2 rfl) <| SR.q' (r_ld (v := .int .i64 ((gt L v74.toNat).From)) sca3 rfl ((hb96).cell rfl)) <| SR.q' (r_sub rfl rfl (by omega)) <| SR.lit (vs := [.int .i64 ((gt L v74.toNat).From), .int .i64 (((gt L v74.toNat).From) + 1), .int .i64 (((gt L v74.toNat).Until) - 1), .int .i64 ((gt L v74.toNat).Until), .int .i64 (((gt L v74.toNat).From) - 1)]) (L := ([(gt L v74.toNat).From, ((gt L v74.toNat).From) + 1, ((gt L v74.toNat).Until) - 1, (gt L v74.toNat).Until, ((gt L v74.toNat).From) - 1] : List Int)) (enc := encI) tel39 (fun _ => rfl) rfl rfl rfl (by decide) ?_)
      intro g99 w100 hg101 hk102 hO103
      have hz104 := hk102.size
      have hB105 := hB98.lo hk102
      refine SR.call ent57 (c___spec_l1Cur__among w100 Lc t75 s76 ((((hb77).lo hk88).kp hk94 (fun e' => by have e'' : gc = g85 := e'; omega)).lo hk102) (((((((hLc).kp hk33 (fun b_ hb e' => by have e'' : b_ = gc := e'; omega)).kp hk73 (fun b_ hb e' => by have e'' : b_ = gc := e'; omega)).lo hk88).kp hk94 (fun b_ hb e' => by have e'' : b_ = g85 := e'; omega)).lo hk102)) (by omega) (by omega) ([(gt L v74.toNat).From, ((gt L v74.toNat).From) + 1, ((gt L v74.toNat).Until) - 1, (gt L v74.toNat).Until, ((gt L v74.toNat).From) - 1] : List Int) (((hO103).rd)) (by omega) (by omega) (show ¬ g99 = gc from by omega)) rfl ?_
      rintro e w106 ⟨v108, t109, s110, rfl, hb111, ht112, hq113, hk107⟩
      refine ⟨_, rfl, ?_⟩
      have hz114 := hk107.size
      have hB115 := hB105.step hk107 (fun i_ hi_ e' => e')
      have hq116 : (v108 : Int) = ((gt L v74.toNat).From) ∨ (v108 : Int) = (((gt L v74.toNat).From) + 1) ∨ (v108 : Int) = (((gt L v74.toNat).Until) - 1) ∨ (v108 : Int) = ((gt L v74.toNat).Until) ∨ (v108 : Int) = (((gt L v74.toNat).From) - 1) := by simpa only [List.mem_cons, List.not_mem_nil, or_false] using hq113
      refine SR.call ent82 (c_spec_l1Most w106 480 v108) rfl ?_
      rintro e w117 ⟨rfl, hk118⟩
      refine ⟨_, rfl, ?_⟩
      have hz119 := hk118.size
      have hB120 := hB115.lo hk118
      refine SR.call ent81 (c_spec_l1Least w117 1200 (max 480 v108)) rfl ?_
      rintro e w121 ⟨rfl, hk122⟩
      refine ⟨_, rfl, ?_⟩
      have hz123 := hk122.size
      have hB124 := hB120.lo hk122
      refine SR.q' (r_as (v := .int .i64 _) rfl) <| SR.nil ?_
      refine W.ret ?_
      refine ret1 rfl (v := .int .i64 _) rfl ?_
      exact ⟨(min 1200 (max 480 v108)), t109, s110, eR rfl, (((hb111).lo hk118).lo hk122), ⟨by omega, by omega⟩, (z_c___spec_l1Cur__minute30_125 Lc tc sc nc htc hbdc hlec L nL hbdL hleL hp0 hp1 h1 v34 t35 s36 ht38 h41 v74 t75 s76 ht78 hq79 hx83 hq84 v108 t109 s110 ht112 hq113 hq116), hB124⟩

theorem z_c_spec_DrawSeatReader_85 (C : List UInt8) (nC : Nat) (hbdC : (nC : Int) ≤ 9223372036854775807) (hleC : nC = C.length) (hp0 : (nC : Int) ≤ 65536) (v15 : List Visit) (t16 : Int) (s17 : Int) (ht19 : 0 ≤ t16 ∧ t16 ≤ 0 + 200) (hq20 : VsB v15) (hq21 : v15.length ≤ 60) (n12 : Nat) (hl24 : n12 = (v15).length) (hl25 : (n12 : Int) ≤ 9223372036854775807) (v28 : Int) (t29 : Int) (s30 : Int) (ht32 : t16 ≤ t29 ∧ t29 ≤ t16 + 6) (hq33 : -2000 ≤ v28 ∧ v28 ≤ 2000) (v46 : Int) (t47 : Int) (s48 : Int) (ht50 : t29 ≤ t47 ∧ t47 ≤ t29 + 2) (hq51 : v46 ∈ ([1, 30, 60, 240] : List Int)) (hq54 : (1 : Int) ≤ v46 ∧ v46 ≤ 240) (v57 : Bool) (t58 : Int) (s59 : Int) (ht61 : t47 ≤ t58 ∧ t58 ≤ t47 + 2) (h64 : v57 = true) (v67 : Int) (t68 : Int) (s69 : Int) (ht71 : t58 ≤ t68 ∧ t68 ≤ t58 + 6) (hq72 : -2000 ≤ v67 ∧ v67 ≤ 2000) (v77 : Int) (t78 : Int) (s79 : Int) (ht81 : t68 ≤ t78 ∧ t78 ≤ t68 + 4) (hq82 : -1000000000 ≤ v77 ∧ v77 ≤ 1000000000) : VsB v15 := by
  assumption
theorem z_c_spec_DrawSeatReader_86 (C : List UInt8) (nC : Nat) (hbdC : (nC : Int) ≤ 9223372036854775807) (hleC : nC = C.length) (hp0 : (nC : Int) ≤ 65536) (v15 : List Visit) (t16 : Int) (s17 : Int) (ht19 : 0 ≤ t16 ∧ t16 ≤ 0 + 200) (hq20 : VsB v15) (hq21 : v15.length ≤ 60) (n12 : Nat) (hl24 : n12 = (v15).length) (hl25 : (n12 : Int) ≤ 9223372036854775807) (v28 : Int) (t29 : Int) (s30 : Int) (ht32 : t16 ≤ t29 ∧ t29 ≤ t16 + 6) (hq33 : -2000 ≤ v28 ∧ v28 ≤ 2000) (v46 : Int) (t47 : Int) (s48 : Int) (ht50 : t29 ≤ t47 ∧ t47 ≤ t29 + 2) (hq51 : v46 ∈ ([1, 30, 60, 240] : List Int)) (hq54 : (1 : Int) ≤ v46 ∧ v46 ≤ 240) (v57 : Bool) (t58 : Int) (s59 : Int) (ht61 : t47 ≤ t58 ∧ t58 ≤ t47 + 2) (h64 : v57 = true) (v67 : Int) (t68 : Int) (s69 : Int) (ht71 : t58 ≤ t68 ∧ t68 ≤ t58 + 6) (hq72 : -2000 ≤ v67 ∧ v67 ≤ 2000) (v77 : Int) (t78 : Int) (s79 : Int) (ht81 : t68 ≤ t78 ∧ t78 ≤ t68 + 4) (hq82 : -1000000000 ≤ v77 ∧ v77 ≤ 1000000000) : v15.length ≤ 60 := by
  omega
theorem z_c_spec_DrawSeatReader_87 (C : List UInt8) (nC : Nat) (hbdC : (nC : Int) ≤ 9223372036854775807) (hleC : nC = C.length) (hp0 : (nC : Int) ≤ 65536) (v15 : List Visit) (t16 : Int) (s17 : Int) (ht19 : 0 ≤ t16 ∧ t16 ≤ 0 + 200) (hq20 : VsB v15) (hq21 : v15.length ≤ 60) (n12 : Nat) (hl24 : n12 = (v15).length) (hl25 : (n12 : Int) ≤ 9223372036854775807) (v28 : Int) (t29 : Int) (s30 : Int) (ht32 : t16 ≤ t29 ∧ t29 ≤ t16 + 6) (hq33 : -2000 ≤ v28 ∧ v28 ≤ 2000) (v46 : Int) (t47 : Int) (s48 : Int) (ht50 : t29 ≤ t47 ∧ t47 ≤ t29 + 2) (hq51 : v46 ∈ ([1, 30, 60, 240] : List Int)) (hq54 : (1 : Int) ≤ v46 ∧ v46 ≤ 240) (v57 : Bool) (t58 : Int) (s59 : Int) (ht61 : t47 ≤ t58 ∧ t58 ≤ t47 + 2) (h64 : v57 = true) (v67 : Int) (t68 : Int) (s69 : Int) (ht71 : t58 ≤ t68 ∧ t68 ≤ t58 + 6) (hq72 : -2000 ≤ v67 ∧ v67 ≤ 2000) (v77 : Int) (t78 : Int) (s79 : Int) (ht81 : t68 ≤ t78 ∧ t78 ≤ t68 + 4) (hq82 : -1000000000 ≤ v77 ∧ v77 ≤ 1000000000) : -1000000000 ≤ v77 ∧ v77 ≤ 1000000000 := by
  omega
theorem z_c_spec_DrawSeatReader_88 (C : List UInt8) (nC : Nat) (hbdC : (nC : Int) ≤ 9223372036854775807) (hleC : nC = C.length) (hp0 : (nC : Int) ≤ 65536) (v15 : List Visit) (t16 : Int) (s17 : Int) (ht19 : 0 ≤ t16 ∧ t16 ≤ 0 + 200) (hq20 : VsB v15) (hq21 : v15.length ≤ 60) (n12 : Nat) (hl24 : n12 = (v15).length) (hl25 : (n12 : Int) ≤ 9223372036854775807) (v28 : Int) (t29 : Int) (s30 : Int) (ht32 : t16 ≤ t29 ∧ t29 ≤ t16 + 6) (hq33 : -2000 ≤ v28 ∧ v28 ≤ 2000) (v46 : Int) (t47 : Int) (s48 : Int) (ht50 : t29 ≤ t47 ∧ t47 ≤ t29 + 2) (hq51 : v46 ∈ ([1, 30, 60, 240] : List Int)) (hq54 : (1 : Int) ≤ v46 ∧ v46 ≤ 240) (v57 : Bool) (t58 : Int) (s59 : Int) (ht61 : t47 ≤ t58 ∧ t58 ≤ t47 + 2) (h64 : v57 = true) (v67 : Int) (t68 : Int) (s69 : Int) (ht71 : t58 ≤ t68 ∧ t68 ≤ t58 + 6) (hq72 : -2000 ≤ v67 ∧ v67 ≤ 2000) (v77 : Int) (t78 : Int) (s79 : Int) (ht81 : t68 ≤ t78 ∧ t78 ≤ t68 + 4) (hq82 : -1000000000 ≤ v77 ∧ v77 ≤ 1000000000) : -1000000000 ≤ v28 ∧ v28 ≤ 1000000000 := by
  omega
theorem z_c_spec_DrawSeatReader_89 (C : List UInt8) (nC : Nat) (hbdC : (nC : Int) ≤ 9223372036854775807) (hleC : nC = C.length) (hp0 : (nC : Int) ≤ 65536) (v15 : List Visit) (t16 : Int) (s17 : Int) (ht19 : 0 ≤ t16 ∧ t16 ≤ 0 + 200) (hq20 : VsB v15) (hq21 : v15.length ≤ 60) (n12 : Nat) (hl24 : n12 = (v15).length) (hl25 : (n12 : Int) ≤ 9223372036854775807) (v28 : Int) (t29 : Int) (s30 : Int) (ht32 : t16 ≤ t29 ∧ t29 ≤ t16 + 6) (hq33 : -2000 ≤ v28 ∧ v28 ≤ 2000) (v46 : Int) (t47 : Int) (s48 : Int) (ht50 : t29 ≤ t47 ∧ t47 ≤ t29 + 2) (hq51 : v46 ∈ ([1, 30, 60, 240] : List Int)) (hq54 : (1 : Int) ≤ v46 ∧ v46 ≤ 240) (v57 : Bool) (t58 : Int) (s59 : Int) (ht61 : t47 ≤ t58 ∧ t58 ≤ t47 + 2) (h64 : v57 = true) (v67 : Int) (t68 : Int) (s69 : Int) (ht71 : t58 ≤ t68 ∧ t68 ≤ t58 + 6) (hq72 : -2000 ≤ v67 ∧ v67 ≤ 2000) (v77 : Int) (t78 : Int) (s79 : Int) (ht81 : t68 ≤ t78 ∧ t78 ≤ t68 + 4) (hq82 : -1000000000 ≤ v77 ∧ v77 ≤ 1000000000) : -1000000000 ≤ v67 ∧ v67 ≤ 1000000000 := by
  omega
theorem z_c_spec_DrawSeatReader_100 (C : List UInt8) (nC : Nat) (hbdC : (nC : Int) ≤ 9223372036854775807) (hleC : nC = C.length) (hp0 : (nC : Int) ≤ 65536) (v15 : List Visit) (t16 : Int) (s17 : Int) (ht19 : 0 ≤ t16 ∧ t16 ≤ 0 + 200) (hq20 : VsB v15) (hq21 : v15.length ≤ 60) (n12 : Nat) (hl24 : n12 = (v15).length) (hl25 : (n12 : Int) ≤ 9223372036854775807) (v28 : Int) (t29 : Int) (s30 : Int) (ht32 : t16 ≤ t29 ∧ t29 ≤ t16 + 6) (hq33 : -2000 ≤ v28 ∧ v28 ≤ 2000) (v46 : Int) (t47 : Int) (s48 : Int) (ht50 : t29 ≤ t47 ∧ t47 ≤ t29 + 2) (hq51 : v46 ∈ ([1, 30, 60, 240] : List Int)) (hq54 : (1 : Int) ≤ v46 ∧ v46 ≤ 240) (v57 : Bool) (t58 : Int) (s59 : Int) (ht61 : t47 ≤ t58 ∧ t58 ≤ t47 + 2) (h64 : v57 = false) (v92 : Int) (t93 : Int) (s94 : Int) (ht96 : t58 ≤ t93 ∧ t93 ≤ t58 + 4) (hq97 : -1000000000 ≤ v92 ∧ v92 ≤ 1000000000) : VsB v15 := by
  assumption
theorem z_c_spec_DrawSeatReader_101 (C : List UInt8) (nC : Nat) (hbdC : (nC : Int) ≤ 9223372036854775807) (hleC : nC = C.length) (hp0 : (nC : Int) ≤ 65536) (v15 : List Visit) (t16 : Int) (s17 : Int) (ht19 : 0 ≤ t16 ∧ t16 ≤ 0 + 200) (hq20 : VsB v15) (hq21 : v15.length ≤ 60) (n12 : Nat) (hl24 : n12 = (v15).length) (hl25 : (n12 : Int) ≤ 9223372036854775807) (v28 : Int) (t29 : Int) (s30 : Int) (ht32 : t16 ≤ t29 ∧ t29 ≤ t16 + 6) (hq33 : -2000 ≤ v28 ∧ v28 ≤ 2000) (v46 : Int) (t47 : Int) (s48 : Int) (ht50 : t29 ≤ t47 ∧ t47 ≤ t29 + 2) (hq51 : v46 ∈ ([1, 30, 60, 240] : List Int)) (hq54 : (1 : Int) ≤ v46 ∧ v46 ≤ 240) (v57 : Bool) (t58 : Int) (s59 : Int) (ht61 : t47 ≤ t58 ∧ t58 ≤ t47 + 2) (h64 : v57 = false) (v92 : Int) (t93 : Int) (s94 : Int) (ht96 : t58 ≤ t93 ∧ t93 ≤ t58 + 4) (hq97 : -1000000000 ≤ v92 ∧ v92 ≤ 1000000000) : v15.length ≤ 60 := by
  omega
theorem z_c_spec_DrawSeatReader_102 (C : List UInt8) (nC : Nat) (hbdC : (nC : Int) ≤ 9223372036854775807) (hleC : nC = C.length) (hp0 : (nC : Int) ≤ 65536) (v15 : List Visit) (t16 : Int) (s17 : Int) (ht19 : 0 ≤ t16 ∧ t16 ≤ 0 + 200) (hq20 : VsB v15) (hq21 : v15.length ≤ 60) (n12 : Nat) (hl24 : n12 = (v15).length) (hl25 : (n12 : Int) ≤ 9223372036854775807) (v28 : Int) (t29 : Int) (s30 : Int) (ht32 : t16 ≤ t29 ∧ t29 ≤ t16 + 6) (hq33 : -2000 ≤ v28 ∧ v28 ≤ 2000) (v46 : Int) (t47 : Int) (s48 : Int) (ht50 : t29 ≤ t47 ∧ t47 ≤ t29 + 2) (hq51 : v46 ∈ ([1, 30, 60, 240] : List Int)) (hq54 : (1 : Int) ≤ v46 ∧ v46 ≤ 240) (v57 : Bool) (t58 : Int) (s59 : Int) (ht61 : t47 ≤ t58 ∧ t58 ≤ t47 + 2) (h64 : v57 = false) (v92 : Int) (t93 : Int) (s94 : Int) (ht96 : t58 ≤ t93 ∧ t93 ≤ t58 + 4) (hq97 : -1000000000 ≤ v92 ∧ v92 ≤ 1000000000) : -1000000000 ≤ v92 ∧ v92 ≤ 1000000000 := by
  omega
theorem z_c_spec_DrawSeatReader_103 (C : List UInt8) (nC : Nat) (hbdC : (nC : Int) ≤ 9223372036854775807) (hleC : nC = C.length) (hp0 : (nC : Int) ≤ 65536) (v15 : List Visit) (t16 : Int) (s17 : Int) (ht19 : 0 ≤ t16 ∧ t16 ≤ 0 + 200) (hq20 : VsB v15) (hq21 : v15.length ≤ 60) (n12 : Nat) (hl24 : n12 = (v15).length) (hl25 : (n12 : Int) ≤ 9223372036854775807) (v28 : Int) (t29 : Int) (s30 : Int) (ht32 : t16 ≤ t29 ∧ t29 ≤ t16 + 6) (hq33 : -2000 ≤ v28 ∧ v28 ≤ 2000) (v46 : Int) (t47 : Int) (s48 : Int) (ht50 : t29 ≤ t47 ∧ t47 ≤ t29 + 2) (hq51 : v46 ∈ ([1, 30, 60, 240] : List Int)) (hq54 : (1 : Int) ≤ v46 ∧ v46 ≤ 240) (v57 : Bool) (t58 : Int) (s59 : Int) (ht61 : t47 ≤ t58 ∧ t58 ≤ t47 + 2) (h64 : v57 = false) (v92 : Int) (t93 : Int) (s94 : Int) (ht96 : t58 ≤ t93 ∧ t93 ≤ t58 + 4) (hq97 : -1000000000 ≤ v92 ∧ v92 ≤ 1000000000) : -1000000000 ≤ v28 ∧ v28 ≤ 1000000000 := by
  omega
theorem z_c_spec_DrawSeatReader_104 (C : List UInt8) (nC : Nat) (hbdC : (nC : Int) ≤ 9223372036854775807) (hleC : nC = C.length) (hp0 : (nC : Int) ≤ 65536) (v15 : List Visit) (t16 : Int) (s17 : Int) (ht19 : 0 ≤ t16 ∧ t16 ≤ 0 + 200) (hq20 : VsB v15) (hq21 : v15.length ≤ 60) (n12 : Nat) (hl24 : n12 = (v15).length) (hl25 : (n12 : Int) ≤ 9223372036854775807) (v28 : Int) (t29 : Int) (s30 : Int) (ht32 : t16 ≤ t29 ∧ t29 ≤ t16 + 6) (hq33 : -2000 ≤ v28 ∧ v28 ≤ 2000) (v46 : Int) (t47 : Int) (s48 : Int) (ht50 : t29 ≤ t47 ∧ t47 ≤ t29 + 2) (hq51 : v46 ∈ ([1, 30, 60, 240] : List Int)) (hq54 : (1 : Int) ≤ v46 ∧ v46 ≤ 240) (v57 : Bool) (t58 : Int) (s59 : Int) (ht61 : t47 ≤ t58 ∧ t58 ≤ t47 + 2) (h64 : v57 = false) (v92 : Int) (t93 : Int) (s94 : Int) (ht96 : t58 ≤ t93 ∧ t93 ≤ t58 + 4) (hq97 : -1000000000 ≤ v92 ∧ v92 ≤ 1000000000) : -1000000000 ≤ (v28 + v46) ∧ (v28 + v46) ≤ 1000000000 := by
  omega
theorem c_spec_DrawSeatReader (w : World) {AC : Option Addr} {nC cC BC : Nat}  (C : List UInt8) (hC : SlR w BC encB 1 AC nC cC C) (hp0 : (nC : Int) ≤ 65536) : Calls Try.prog 21 #[.slice AC nC cC] w fun e w' => ∃ (A1' : Option Addr) (n1' c1' : Nat) (L : List Visit) (r : Int) (a : Int) (b : Int), e = .returned (.tuple (List.toArray [.slice A1' n1' c1', .int .i64 r, .int .i64 a, .int .i64 b])) ∧ SlO w' w.heap.size encVisit 4 59 A1' n1' c1' L ∧ (VsB L) ∧ (L.length ≤ 60) ∧ (-1000000000 ≤ r ∧ r ≤ 1000000000) ∧ (-1000000000 ≤ a ∧ a ≤ 1000000000) ∧ (-1000000000 ≤ b ∧ b ≤ 1000000000) ∧ Lo w w' := by
  refine calls_W 33 Try.func21 rfl rfl rfl ?_
  have hbdC := hC.bound
  have hleC := hC.len
  have hBbC := hC.bd
  refine W.seq ?_
  refine W.regS (SR.q' (r_as (v := .slice none 0 0) rfl) <| SR.q' (r_as (v := .int .i64 0) rfl) <| SR.q' (r_as (v := .int .i64 0) rfl) <| SR.q' (r_as (v := .int .i64 0) rfl) <| SR.nil ?_)
  refine W.seq ?_
  refine W.regS (SR.q' (r_mv (v := .slice _ _ _) rfl) <| SR.q' (r_build (vs := [(0, .slice AC nC cC)]) rfl (bld71_0 _ _ _)) <| SR.box (v := .agg (List.toArray _)) (l := [.slice AC nC cC, .int .i64 0, .int .u64 0]) rfl rfl ?_)
  intro g1 w2 hg3 hk4 hs5 hb6
  have hz7 := hk4.size
  have hB8 := (Lo.refl w).lo hk4
  refine SR.q' (r_as (v := .pointer (some _)) rfl) <| SR.nil ?_
  refine W.seq ?_
  refine W.regS (SR.q' (r_mv (v := .pointer (some _)) rfl) <| SR.call ent55 (c___spec_l1Cur__visits w2 C 0 0 (hb6) (((hC).lo hk4)) (by omega) (by omega)) rfl ?_)
  rintro e w9 ⟨A11, n12, c13, v15, t16, s17, rfl, hO14, hb18, ht19, hq20, hq21, hk10⟩
  refine ⟨_, rfl, ?_⟩
  have hz22 := hk10.size
  have hB23 := hB8.new hk10 (by omega)
  have hl24 := hO14.len
  have hl25 := hO14.rd.bound
  refine SR.q' (r_as (v := .slice _ _ _) rfl) <| SR.nil ?_
  refine W.seq ?_
  refine W.regS (SR.q' (r_mv (v := .pointer (some _)) rfl) <| SR.q' (r_mv (v := .slice _ _ _) rfl) <| SR.call ent56 (c___spec_l1Cur__minute30 w9 C t16 s17 (hb18) ((((hC).lo hk4).kp hk10 (fun b_ hb e' => by have e'' : b_ = g1 := e'; omega))) (by omega) (by omega) v15 (((hO14).rd)) (by assumption) (by omega) ((hO14).apart (fun e' => by have := (hO14).base_le e'; omega))) rfl ?_)
  rintro e w26 ⟨v28, t29, s30, rfl, hb31, ht32, hq33, hk27⟩
  refine ⟨_, rfl, ?_⟩
  have hz34 := hk27.size
  have hB35 := hB23.new hk27 (by omega)
  refine SR.q' (r_as (v := .int .i64 _) rfl) <| SR.nil ?_
  refine W.seq ?_
  refine W.regS (SR.q' (r_mv (v := .int .i64 _) rfl) <| SR.q' (r_mv (v := .pointer (some _)) rfl) <| SR.lit (vs := [.int .i64 1, .int .i64 30, .int .i64 60, .int .i64 240]) (L := ([1, 30, 60, 240] : List Int)) (enc := encI) tel39 (fun _ => rfl) rfl rfl rfl (by decide) ?_)
  intro g36 w37 hg38 hk39 hO40
  have hz41 := hk39.size
  have hB42 := hB35.lo hk39
  have hd43 : ¬ A11 = some ⟨g36, 0, none⟩ := fun e' => by have := ((hO14).kp hk27 (fun b_ hb e' => by have e'' : b_ = g1 := e'; have := (hO14).base_le hb; omega)).base_le e'; omega
  refine SR.call ent57 (c___spec_l1Cur__among w37 C t29 s30 ((hb31).lo hk39) ((((((hC).lo hk4).kp hk10 (fun b_ hb e' => by have e'' : b_ = g1 := e'; omega)).kp hk27 (fun b_ hb e' => by have e'' : b_ = g1 := e'; omega)).lo hk39)) (by omega) (by omega) ([1, 30, 60, 240] : List Int) (((hO40).rd)) (by omega) (by omega) (show ¬ g36 = g1 from by omega)) rfl ?_
  rintro e w44 ⟨v46, t47, s48, rfl, hb49, ht50, hq51, hk45⟩
  refine ⟨_, rfl, ?_⟩
  have hz52 := hk45.size
  have hB53 := hB42.new hk45 (by omega)
  have hq54 : (1 : Int) ≤ v46 ∧ v46 ≤ 240 := mem_rngB (lo := 1) (hi := 240) (by decide) hq51
  refine SR.q' (r_add rfl rfl (by omega)) <| SR.q' (r_as (v := .int .i64 _) rfl) <| SR.nil ?_
  refine W.seq ?_
  refine W.seq ?_
  refine W.regS (SR.q' (r_mv (v := .pointer (some _)) rfl) <| SR.call ent58 (c___spec_l1Cur__one w44 C t47 s48 (hb49) (((((((hC).lo hk4).kp hk10 (fun b_ hb e' => by have e'' : b_ = g1 := e'; omega)).kp hk27 (fun b_ hb e' => by have e'' : b_ = g1 := e'; omega)).lo hk39).kp hk45 (fun b_ hb e' => by have e'' : b_ = g1 := e'; omega))) (by omega) (by omega) 8 (by first | omega | (simp only [List.length_append, List.length_cons, List.length_nil, List.length_take, List.length_drop]; omega))) rfl ?_)
  rintro e w55 ⟨v57, t58, s59, rfl, hb60, ht61, hk56⟩
  refine ⟨_, rfl, ?_⟩
  have hz62 := hk56.size
  have hB63 := hB53.new hk56 (by omega)
  refine SR.nil ?_
  refine W.cond_b rfl (fun h64 => ?_) (fun h64 => ?_)
  · refine W.regS (SR.q' (r_mv (v := .pointer (some _)) rfl) <| SR.q' (r_mv (v := .slice _ _ _) rfl) <| SR.call ent56 (c___spec_l1Cur__minute30 w55 C t58 s59 (hb60) ((((((((hC).lo hk4).kp hk10 (fun b_ hb e' => by have e'' : b_ = g1 := e'; omega)).kp hk27 (fun b_ hb e' => by have e'' : b_ = g1 := e'; omega)).lo hk39).kp hk45 (fun b_ hb e' => by have e'' : b_ = g1 := e'; omega)).kp hk56 (fun b_ hb e' => by have e'' : b_ = g1 := e'; omega))) (by omega) (by omega) v15 (((((((hO14).kp hk27 (fun b_ hb e' => by have e'' : b_ = g1 := e'; have := (hO14).base_le hb; omega)).lo hk39).kp hk45 (fun b_ hb e' => by have e'' : b_ = g1 := e'; have := (((hO14).kp hk27 (fun b_ hb e' => by have e'' : b_ = g1 := e'; have := (hO14).base_le hb; omega)).lo hk39).base_le hb; omega)).kp hk56 (fun b_ hb e' => by have e'' : b_ = g1 := e'; have := ((((hO14).kp hk27 (fun b_ hb e' => by have e'' : b_ = g1 := e'; have := (hO14).base_le hb; omega)).lo hk39).kp hk45 (fun b_ hb e' => by have e'' : b_ = g1 := e'; have := (((hO14).kp hk27 (fun b_ hb e' => by have e'' : b_ = g1 := e'; have := (hO14).base_le hb; omega)).lo hk39).base_le hb; omega)).base_le hb; omega)).rd)) (by assumption) (by omega) ((((((hO14).kp hk27 (fun b_ hb e' => by have e'' : b_ = g1 := e'; have := (hO14).base_le hb; omega)).lo hk39).kp hk45 (fun b_ hb e' => by have e'' : b_ = g1 := e'; have := (((hO14).kp hk27 (fun b_ hb e' => by have e'' : b_ = g1 := e'; have := (hO14).base_le hb; omega)).lo hk39).base_le hb; omega)).kp hk56 (fun b_ hb e' => by have e'' : b_ = g1 := e'; have := ((((hO14).kp hk27 (fun b_ hb e' => by have e'' : b_ = g1 := e'; have := (hO14).base_le hb; omega)).lo hk39).kp hk45 (fun b_ hb e' => by have e'' : b_ = g1 := e'; have := (((hO14).kp hk27 (fun b_ hb e' => by have e'' : b_ = g1 := e'; have := (hO14).base_le hb; omega)).lo hk39).base_le hb; omega)).base_le hb; omega)).apart (fun e' => by have := (((((hO14).kp hk27 (fun b_ hb e' => by have e'' : b_ = g1 := e'; have := (hO14).base_le hb; omega)).lo hk39).kp hk45 (fun b_ hb e' => by have e'' : b_ = g1 := e'; have := (((hO14).kp hk27 (fun b_ hb e' => by have e'' : b_ = g1 := e'; have := (hO14).base_le hb; omega)).lo hk39).base_le hb; omega)).kp hk56 (fun b_ hb e' => by have e'' : b_ = g1 := e'; have := ((((hO14).kp hk27 (fun b_ hb e' => by have e'' : b_ = g1 := e'; have := (hO14).base_le hb; omega)).lo hk39).kp hk45 (fun b_ hb e' => by have e'' : b_ = g1 := e'; have := (((hO14).kp hk27 (fun b_ hb e' => by have e'' : b_ = g1 := e'; have := (hO14).base_le hb; omega)).lo hk39).base_le hb; omega)).base_le hb; omega)).base_le e'; omega))) rfl ?_)
    rintro e w65 ⟨v67, t68, s69, rfl, hb70, ht71, hq72, hk66⟩
    refine ⟨_, rfl, ?_⟩
    have hz73 := hk66.size
    have hB74 := hB63.new hk66 (by omega)
    refine SR.q' (r_as (v := .int .i64 _) rfl) <| SR.nil ?_
    refine W.seq ?_
    refine W.regS (SR.q' (r_mv (v := .slice _ _ _) rfl) <| SR.q' (r_mv (v := .pointer (some _)) rfl) <| SR.call ent59 (c___spec_l1Cur__visitor w65 C t68 s69 (hb70) (((((((((hC).lo hk4).kp hk10 (fun b_ hb e' => by have e'' : b_ = g1 := e'; omega)).kp hk27 (fun b_ hb e' => by have e'' : b_ = g1 := e'; omega)).lo hk39).kp hk45 (fun b_ hb e' => by have e'' : b_ = g1 := e'; omega)).kp hk56 (fun b_ hb e' => by have e'' : b_ = g1 := e'; omega)).kp hk66 (fun b_ hb e' => by have e'' : b_ = g1 := e'; omega))) (by omega) (by omega)) rfl ?_)
    rintro e w75 ⟨v77, t78, s79, rfl, hb80, ht81, hq82, hk76⟩
    refine ⟨_, rfl, ?_⟩
    have hz83 := hk76.size
    have hB84 := hB74.new hk76 (by omega)
    refine SR.q' (r_mv (v := .int .i64 _) rfl) <| SR.q' (r_mv (v := .int .i64 _) rfl) <| SR.q' (r_as (v := .slice _ _ _) rfl) <| SR.q' (r_as (v := .int .i64 _) rfl) <| SR.q' (r_as (v := .int .i64 _) rfl) <| SR.q' (r_as (v := .int .i64 _) rfl) <| SR.nil ?_
    refine W.ret ?_
    refine ret4 rfl (v := .slice _ _ _) (v' := .int .i64 _) (v'' := .int .i64 _) (v''' := .int .i64 _) rfl rfl rfl rfl ?_
    exact ⟨A11, n12, c13, v15, v77, v28, v67, eR (eT4 rfl rfl rfl rfl), ((((((((hO14).kp hk27 (fun b_ hb e' => by have e'' : b_ = g1 := e'; have := (hO14).base_le hb; omega)).lo hk39).kp hk45 (fun b_ hb e' => by have e'' : b_ = g1 := e'; have := (((hO14).kp hk27 (fun b_ hb e' => by have e'' : b_ = g1 := e'; have := (hO14).base_le hb; omega)).lo hk39).base_le hb; omega)).kp hk56 (fun b_ hb e' => by have e'' : b_ = g1 := e'; have := ((((hO14).kp hk27 (fun b_ hb e' => by have e'' : b_ = g1 := e'; have := (hO14).base_le hb; omega)).lo hk39).kp hk45 (fun b_ hb e' => by have e'' : b_ = g1 := e'; have := (((hO14).kp hk27 (fun b_ hb e' => by have e'' : b_ = g1 := e'; have := (hO14).base_le hb; omega)).lo hk39).base_le hb; omega)).base_le hb; omega)).kp hk66 (fun b_ hb e' => by have e'' : b_ = g1 := e'; have := (((((hO14).kp hk27 (fun b_ hb e' => by have e'' : b_ = g1 := e'; have := (hO14).base_le hb; omega)).lo hk39).kp hk45 (fun b_ hb e' => by have e'' : b_ = g1 := e'; have := (((hO14).kp hk27 (fun b_ hb e' => by have e'' : b_ = g1 := e'; have := (hO14).base_le hb; omega)).lo hk39).base_le hb; omega)).kp hk56 (fun b_ hb e' => by have e'' : b_ = g1 := e'; have := ((((hO14).kp hk27 (fun b_ hb e' => by have e'' : b_ = g1 := e'; have := (hO14).base_le hb; omega)).lo hk39).kp hk45 (fun b_ hb e' => by have e'' : b_ = g1 := e'; have := (((hO14).kp hk27 (fun b_ hb e' => by have e'' : b_ = g1 := e'; have := (hO14).base_le hb; omega)).lo hk39).base_le hb; omega)).base_le hb; omega)).base_le hb; omega)).kp hk76 (fun b_ hb e' => by have e'' : b_ = g1 := e'; have := ((((((hO14).kp hk27 (fun b_ hb e' => by have e'' : b_ = g1 := e'; have := (hO14).base_le hb; omega)).lo hk39).kp hk45 (fun b_ hb e' => by have e'' : b_ = g1 := e'; have := (((hO14).kp hk27 (fun b_ hb e' => by have e'' : b_ = g1 := e'; have := (hO14).base_le hb; omega)).lo hk39).base_le hb; omega)).kp hk56 (fun b_ hb e' => by have e'' : b_ = g1 := e'; have := ((((hO14).kp hk27 (fun b_ hb e' => by have e'' : b_ = g1 := e'; have := (hO14).base_le hb; omega)).lo hk39).kp hk45 (fun b_ hb e' => by have e'' : b_ = g1 := e'; have := (((hO14).kp hk27 (fun b_ hb e' => by have e'' : b_ = g1 := e'; have := (hO14).base_le hb; omega)).lo hk39).base_le hb; omega)).base_le hb; omega)).kp hk66 (fun b_ hb e' => by have e'' : b_ = g1 := e'; have := (((((hO14).kp hk27 (fun b_ hb e' => by have e'' : b_ = g1 := e'; have := (hO14).base_le hb; omega)).lo hk39).kp hk45 (fun b_ hb e' => by have e'' : b_ = g1 := e'; have := (((hO14).kp hk27 (fun b_ hb e' => by have e'' : b_ = g1 := e'; have := (hO14).base_le hb; omega)).lo hk39).base_le hb; omega)).kp hk56 (fun b_ hb e' => by have e'' : b_ = g1 := e'; have := ((((hO14).kp hk27 (fun b_ hb e' => by have e'' : b_ = g1 := e'; have := (hO14).base_le hb; omega)).lo hk39).kp hk45 (fun b_ hb e' => by have e'' : b_ = g1 := e'; have := (((hO14).kp hk27 (fun b_ hb e' => by have e'' : b_ = g1 := e'; have := (hO14).base_le hb; omega)).lo hk39).base_le hb; omega)).base_le hb; omega)).base_le hb; omega)).base_le hb; omega)).down (by omega)), (z_c_spec_DrawSeatReader_85 C nC hbdC hleC hp0 v15 t16 s17 ht19 hq20 hq21 n12 hl24 hl25 v28 t29 s30 ht32 hq33 v46 t47 s48 ht50 hq51 hq54 v57 t58 s59 ht61 h64 v67 t68 s69 ht71 hq72 v77 t78 s79 ht81 hq82), (z_c_spec_DrawSeatReader_86 C nC hbdC hleC hp0 v15 t16 s17 ht19 hq20 hq21 n12 hl24 hl25 v28 t29 s30 ht32 hq33 v46 t47 s48 ht50 hq51 hq54 v57 t58 s59 ht61 h64 v67 t68 s69 ht71 hq72 v77 t78 s79 ht81 hq82), (z_c_spec_DrawSeatReader_87 C nC hbdC hleC hp0 v15 t16 s17 ht19 hq20 hq21 n12 hl24 hl25 v28 t29 s30 ht32 hq33 v46 t47 s48 ht50 hq51 hq54 v57 t58 s59 ht61 h64 v67 t68 s69 ht71 hq72 v77 t78 s79 ht81 hq82), (z_c_spec_DrawSeatReader_88 C nC hbdC hleC hp0 v15 t16 s17 ht19 hq20 hq21 n12 hl24 hl25 v28 t29 s30 ht32 hq33 v46 t47 s48 ht50 hq51 hq54 v57 t58 s59 ht61 h64 v67 t68 s69 ht71 hq72 v77 t78 s79 ht81 hq82), (z_c_spec_DrawSeatReader_89 C nC hbdC hleC hp0 v15 t16 s17 ht19 hq20 hq21 n12 hl24 hl25 v28 t29 s30 ht32 hq33 v46 t47 s48 ht50 hq51 hq54 v57 t58 s59 ht61 h64 v67 t68 s69 ht71 hq72 v77 t78 s79 ht81 hq82), hB84⟩
  · refine W.skip ?_
    refine W.seq ?_
    refine W.regS (SR.q' (r_mv (v := .slice _ _ _) rfl) <| SR.q' (r_mv (v := .pointer (some _)) rfl) <| SR.call ent59 (c___spec_l1Cur__visitor w55 C t58 s59 (hb60) ((((((((hC).lo hk4).kp hk10 (fun b_ hb e' => by have e'' : b_ = g1 := e'; omega)).kp hk27 (fun b_ hb e' => by have e'' : b_ = g1 := e'; omega)).lo hk39).kp hk45 (fun b_ hb e' => by have e'' : b_ = g1 := e'; omega)).kp hk56 (fun b_ hb e' => by have e'' : b_ = g1 := e'; omega))) (by omega) (by omega)) rfl ?_)
    rintro e w90 ⟨v92, t93, s94, rfl, hb95, ht96, hq97, hk91⟩
    refine ⟨_, rfl, ?_⟩
    have hz98 := hk91.size
    have hB99 := hB63.new hk91 (by omega)
    refine SR.q' (r_mv (v := .int .i64 _) rfl) <| SR.q' (r_mv (v := .int .i64 _) rfl) <| SR.q' (r_as (v := .slice _ _ _) rfl) <| SR.q' (r_as (v := .int .i64 _) rfl) <| SR.q' (r_as (v := .int .i64 _) rfl) <| SR.q' (r_as (v := .int .i64 _) rfl) <| SR.nil ?_
    refine W.ret ?_
    refine ret4 rfl (v := .slice _ _ _) (v' := .int .i64 _) (v'' := .int .i64 _) (v''' := .int .i64 _) rfl rfl rfl rfl ?_
    exact ⟨A11, n12, c13, v15, v92, v28, (v28 + v46), eR (eT4 rfl rfl rfl rfl), (((((((hO14).kp hk27 (fun b_ hb e' => by have e'' : b_ = g1 := e'; have := (hO14).base_le hb; omega)).lo hk39).kp hk45 (fun b_ hb e' => by have e'' : b_ = g1 := e'; have := (((hO14).kp hk27 (fun b_ hb e' => by have e'' : b_ = g1 := e'; have := (hO14).base_le hb; omega)).lo hk39).base_le hb; omega)).kp hk56 (fun b_ hb e' => by have e'' : b_ = g1 := e'; have := ((((hO14).kp hk27 (fun b_ hb e' => by have e'' : b_ = g1 := e'; have := (hO14).base_le hb; omega)).lo hk39).kp hk45 (fun b_ hb e' => by have e'' : b_ = g1 := e'; have := (((hO14).kp hk27 (fun b_ hb e' => by have e'' : b_ = g1 := e'; have := (hO14).base_le hb; omega)).lo hk39).base_le hb; omega)).base_le hb; omega)).kp hk91 (fun b_ hb e' => by have e'' : b_ = g1 := e'; have := (((((hO14).kp hk27 (fun b_ hb e' => by have e'' : b_ = g1 := e'; have := (hO14).base_le hb; omega)).lo hk39).kp hk45 (fun b_ hb e' => by have e'' : b_ = g1 := e'; have := (((hO14).kp hk27 (fun b_ hb e' => by have e'' : b_ = g1 := e'; have := (hO14).base_le hb; omega)).lo hk39).base_le hb; omega)).kp hk56 (fun b_ hb e' => by have e'' : b_ = g1 := e'; have := ((((hO14).kp hk27 (fun b_ hb e' => by have e'' : b_ = g1 := e'; have := (hO14).base_le hb; omega)).lo hk39).kp hk45 (fun b_ hb e' => by have e'' : b_ = g1 := e'; have := (((hO14).kp hk27 (fun b_ hb e' => by have e'' : b_ = g1 := e'; have := (hO14).base_le hb; omega)).lo hk39).base_le hb; omega)).base_le hb; omega)).base_le hb; omega)).down (by omega)), (z_c_spec_DrawSeatReader_100 C nC hbdC hleC hp0 v15 t16 s17 ht19 hq20 hq21 n12 hl24 hl25 v28 t29 s30 ht32 hq33 v46 t47 s48 ht50 hq51 hq54 v57 t58 s59 ht61 h64 v92 t93 s94 ht96 hq97), (z_c_spec_DrawSeatReader_101 C nC hbdC hleC hp0 v15 t16 s17 ht19 hq20 hq21 n12 hl24 hl25 v28 t29 s30 ht32 hq33 v46 t47 s48 ht50 hq51 hq54 v57 t58 s59 ht61 h64 v92 t93 s94 ht96 hq97), (z_c_spec_DrawSeatReader_102 C nC hbdC hleC hp0 v15 t16 s17 ht19 hq20 hq21 n12 hl24 hl25 v28 t29 s30 ht32 hq33 v46 t47 s48 ht50 hq51 hq54 v57 t58 s59 ht61 h64 v92 t93 s94 ht96 hq97), (z_c_spec_DrawSeatReader_103 C nC hbdC hleC hp0 v15 t16 s17 ht19 hq20 hq21 n12 hl24 hl25 v28 t29 s30 ht32 hq33 v46 t47 s48 ht50 hq51 hq54 v57 t58 s59 ht61 h64 v92 t93 s94 ht96 hq97), (z_c_spec_DrawSeatReader_104 C nC hbdC hleC hp0 v15 t16 s17 ht19 hq20 hq21 n12 hl24 hl25 v28 t29 s30 ht32 hq33 v46 t47 s48 ht50 hq51 hq54 v57 t58 s59 ht61 h64 v92 t93 s94 ht96 hq97), hB99⟩

theorem z_c_spec_DrawLeaveSeat_47 (C : List UInt8) (nC : Nat) (hbdC : (nC : Int) ≤ 9223372036854775807) (hleC : nC = C.length) (hp0 : (nC : Int) ≤ 65536) (v15 : List Visit) (t16 : Int) (s17 : Int) (ht19 : 0 ≤ t16 ∧ t16 ≤ 0 + 200) (hq20 : VsB v15) (hq21 : v15.length ≤ 60) (n12 : Nat) (hl24 : n12 = (v15).length) (hl25 : (n12 : Int) ≤ 9223372036854775807) (h26 : (n12 : Int) = 0) (v29 : Int) (t30 : Int) (s31 : Int) (ht33 : t16 ≤ t30 ∧ t30 ≤ t16 + 4) (hq34 : -1000000000 ≤ v29 ∧ v29 ≤ 1000000000) (v39 : Int) (t40 : Int) (s41 : Int) (ht43 : t30 ≤ t40 ∧ t40 ≤ t30 + 6) (hq44 : -2000 ≤ v39 ∧ v39 ≤ 2000) : VsB v15 := by
  assumption
theorem z_c_spec_DrawLeaveSeat_48 (C : List UInt8) (nC : Nat) (hbdC : (nC : Int) ≤ 9223372036854775807) (hleC : nC = C.length) (hp0 : (nC : Int) ≤ 65536) (v15 : List Visit) (t16 : Int) (s17 : Int) (ht19 : 0 ≤ t16 ∧ t16 ≤ 0 + 200) (hq20 : VsB v15) (hq21 : v15.length ≤ 60) (n12 : Nat) (hl24 : n12 = (v15).length) (hl25 : (n12 : Int) ≤ 9223372036854775807) (h26 : (n12 : Int) = 0) (v29 : Int) (t30 : Int) (s31 : Int) (ht33 : t16 ≤ t30 ∧ t30 ≤ t16 + 4) (hq34 : -1000000000 ≤ v29 ∧ v29 ≤ 1000000000) (v39 : Int) (t40 : Int) (s41 : Int) (ht43 : t30 ≤ t40 ∧ t40 ≤ t30 + 6) (hq44 : -2000 ≤ v39 ∧ v39 ≤ 2000) : v15.length ≤ 60 := by
  omega
theorem z_c_spec_DrawLeaveSeat_79 (C : List UInt8) (nC : Nat) (hbdC : (nC : Int) ≤ 9223372036854775807) (hleC : nC = C.length) (hp0 : (nC : Int) ≤ 65536) (v15 : List Visit) (t16 : Int) (s17 : Int) (ht19 : 0 ≤ t16 ∧ t16 ≤ 0 + 200) (hq20 : VsB v15) (hq21 : v15.length ≤ 60) (n12 : Nat) (hl24 : n12 = (v15).length) (hl25 : (n12 : Int) ≤ 9223372036854775807) (h26 : ¬ ((n12 : Int) = 0)) (v51 : Bool) (t52 : Int) (s53 : Int) (ht55 : t16 ≤ t52 ∧ t52 ≤ t16 + 2) (h58 : v51 = true) (v61 : Int) (t62 : Int) (s63 : Int) (ht65 : t52 ≤ t62 ∧ t62 ≤ t52 + 4) (hq66 : -1000000000 ≤ v61 ∧ v61 ≤ 1000000000) (v71 : Int) (t72 : Int) (s73 : Int) (ht75 : t62 ≤ t72 ∧ t72 ≤ t62 + 6) (hq76 : -2000 ≤ v71 ∧ v71 ≤ 2000) : VsB v15 := by
  assumption
theorem z_c_spec_DrawLeaveSeat_80 (C : List UInt8) (nC : Nat) (hbdC : (nC : Int) ≤ 9223372036854775807) (hleC : nC = C.length) (hp0 : (nC : Int) ≤ 65536) (v15 : List Visit) (t16 : Int) (s17 : Int) (ht19 : 0 ≤ t16 ∧ t16 ≤ 0 + 200) (hq20 : VsB v15) (hq21 : v15.length ≤ 60) (n12 : Nat) (hl24 : n12 = (v15).length) (hl25 : (n12 : Int) ≤ 9223372036854775807) (h26 : ¬ ((n12 : Int) = 0)) (v51 : Bool) (t52 : Int) (s53 : Int) (ht55 : t16 ≤ t52 ∧ t52 ≤ t16 + 2) (h58 : v51 = true) (v61 : Int) (t62 : Int) (s63 : Int) (ht65 : t52 ≤ t62 ∧ t62 ≤ t52 + 4) (hq66 : -1000000000 ≤ v61 ∧ v61 ≤ 1000000000) (v71 : Int) (t72 : Int) (s73 : Int) (ht75 : t62 ≤ t72 ∧ t72 ≤ t62 + 6) (hq76 : -2000 ≤ v71 ∧ v71 ≤ 2000) : v15.length ≤ 60 := by
  omega
theorem z_c_spec_DrawLeaveSeat_165 (C : List UInt8) (nC : Nat) (hbdC : (nC : Int) ≤ 9223372036854775807) (hleC : nC = C.length) (hp0 : (nC : Int) ≤ 65536) (v15 : List Visit) (t16 : Int) (s17 : Int) (ht19 : 0 ≤ t16 ∧ t16 ≤ 0 + 200) (hq20 : VsB v15) (hq21 : v15.length ≤ 60) (n12 : Nat) (hl24 : n12 = (v15).length) (hl25 : (n12 : Int) ≤ 9223372036854775807) (h26 : ¬ ((n12 : Int) = 0)) (v51 : Bool) (t52 : Int) (s53 : Int) (ht55 : t16 ≤ t52 ∧ t52 ≤ t16 + 2) (h58 : v51 = false) (v83 : Int) (t84 : Int) (s85 : Int) (ht87 : t52 ≤ t84 ∧ t84 ≤ t52 + 2) (hq88 : (0 : Int) ≤ v83 ∧ ((v83 : Int) < (n12 : Int) ∨ (v83 : Int) = 0)) (hx92 : v15[v83.toNat]? = some (gt v15 v83.toNat)) (hq93 : (-100000 ≤ (gt v15 v83.toNat).From ∧ (gt v15 v83.toNat).From ≤ 100000) ∧ (-100000 ≤ (gt v15 v83.toNat).Until ∧ (gt v15 v83.toNat).Until ≤ 100000)) (v148 : Int) (t149 : Int) (s150 : Int) (ht152 : t84 ≤ t149 ∧ t149 ≤ t84 + 2) (hq153 : v148 ∈ ([(gt v15 v83.toNat).From, (gt v15 v83.toNat).From, ((gt v15 v83.toNat).From) + 1, ((gt v15 v83.toNat).Until) - 1, (gt v15 v83.toNat).Until] : List Int)) (hq157 : (v148 : Int) = ((gt v15 v83.toNat).From) ∨ (v148 : Int) = ((gt v15 v83.toNat).From) ∨ (v148 : Int) = (((gt v15 v83.toNat).From) + 1) ∨ (v148 : Int) = (((gt v15 v83.toNat).Until) - 1) ∨ (v148 : Int) = ((gt v15 v83.toNat).Until)) : VsB v15 := by
  assumption
theorem z_c_spec_DrawLeaveSeat_166 (C : List UInt8) (nC : Nat) (hbdC : (nC : Int) ≤ 9223372036854775807) (hleC : nC = C.length) (hp0 : (nC : Int) ≤ 65536) (v15 : List Visit) (t16 : Int) (s17 : Int) (ht19 : 0 ≤ t16 ∧ t16 ≤ 0 + 200) (hq20 : VsB v15) (hq21 : v15.length ≤ 60) (n12 : Nat) (hl24 : n12 = (v15).length) (hl25 : (n12 : Int) ≤ 9223372036854775807) (h26 : ¬ ((n12 : Int) = 0)) (v51 : Bool) (t52 : Int) (s53 : Int) (ht55 : t16 ≤ t52 ∧ t52 ≤ t16 + 2) (h58 : v51 = false) (v83 : Int) (t84 : Int) (s85 : Int) (ht87 : t52 ≤ t84 ∧ t84 ≤ t52 + 2) (hq88 : (0 : Int) ≤ v83 ∧ ((v83 : Int) < (n12 : Int) ∨ (v83 : Int) = 0)) (hx92 : v15[v83.toNat]? = some (gt v15 v83.toNat)) (hq93 : (-100000 ≤ (gt v15 v83.toNat).From ∧ (gt v15 v83.toNat).From ≤ 100000) ∧ (-100000 ≤ (gt v15 v83.toNat).Until ∧ (gt v15 v83.toNat).Until ≤ 100000)) (v148 : Int) (t149 : Int) (s150 : Int) (ht152 : t84 ≤ t149 ∧ t149 ≤ t84 + 2) (hq153 : v148 ∈ ([(gt v15 v83.toNat).From, (gt v15 v83.toNat).From, ((gt v15 v83.toNat).From) + 1, ((gt v15 v83.toNat).Until) - 1, (gt v15 v83.toNat).Until] : List Int)) (hq157 : (v148 : Int) = ((gt v15 v83.toNat).From) ∨ (v148 : Int) = ((gt v15 v83.toNat).From) ∨ (v148 : Int) = (((gt v15 v83.toNat).From) + 1) ∨ (v148 : Int) = (((gt v15 v83.toNat).Until) - 1) ∨ (v148 : Int) = ((gt v15 v83.toNat).Until)) : v15.length ≤ 60 := by
  omega
theorem c_spec_DrawLeaveSeat (w : World) {AC : Option Addr} {nC cC BC : Nat}  (C : List UInt8) (hC : SlR w BC encB 1 AC nC cC C) (hp0 : (nC : Int) ≤ 65536) : Calls Try.prog 27 #[.slice AC nC cC] w fun e w' => ∃ (A1' : Option Addr) (n1' c1' : Nat) (L : List Visit) (r : Int) (m : Int), e = .returned (.tuple (List.toArray [.slice A1' n1' c1', .int .i64 r, .int .i64 m])) ∧ SlO w' w.heap.size encVisit 4 59 A1' n1' c1' L ∧ (VsB L) ∧ (L.length ≤ 60) ∧ Lo w w' := by
  refine calls_W 51 Try.func27 rfl rfl rfl ?_
  have hbdC := hC.bound
  have hleC := hC.len
  have hBbC := hC.bd
  refine W.seq ?_
  refine W.regS (SR.q' (r_as (v := .slice none 0 0) rfl) <| SR.q' (r_as (v := .int .i64 0) rfl) <| SR.q' (r_as (v := .int .i64 0) rfl) <| SR.nil ?_)
  refine W.seq ?_
  refine W.regS (SR.q' (r_mv (v := .slice _ _ _) rfl) <| SR.q' (r_build (vs := [(0, .slice AC nC cC)]) rfl (bld71_0 _ _ _)) <| SR.box (v := .agg (List.toArray _)) (l := [.slice AC nC cC, .int .i64 0, .int .u64 0]) rfl rfl ?_)
  intro g1 w2 hg3 hk4 hs5 hb6
  have hz7 := hk4.size
  have hB8 := (Lo.refl w).lo hk4
  refine SR.q' (r_as (v := .pointer (some _)) rfl) <| SR.nil ?_
  refine W.seq ?_
  refine W.regS (SR.q' (r_mv (v := .pointer (some _)) rfl) <| SR.call ent55 (c___spec_l1Cur__visits w2 C 0 0 (hb6) (((hC).lo hk4)) (by omega) (by omega)) rfl ?_)
  rintro e w9 ⟨A11, n12, c13, v15, t16, s17, rfl, hO14, hb18, ht19, hq20, hq21, hk10⟩
  refine ⟨_, rfl, ?_⟩
  have hz22 := hk10.size
  have hB23 := hB8.new hk10 (by omega)
  have hl24 := hO14.len
  have hl25 := hO14.rd.bound
  refine SR.q' (r_as (v := .slice _ _ _) rfl) <| SR.nil ?_
  refine W.seq ?_
  refine W.seq ?_
  refine W.regS (SR.q' (r_mv (v := .slice _ _ _) rfl) <| SR.q' (r_len und24 rfl) <| SR.q' (r_eq rfl rfl) <| SR.q' (r_mv (v := .bool _) rfl) <| SR.splitD (fun h26 => ?_) (fun h26 => ?_))
  · refine SR.s' rfl <| SR.s' rfl <| SR.q' (r_pick true rfl (v := .bool true) rfl) <| SR.nil ?_
    refine W.cond_t rfl ?_
    refine W.seq ?_
    refine W.regS (SR.q' (r_mv (v := .slice _ _ _) rfl) <| SR.q' (r_mv (v := .pointer (some _)) rfl) <| SR.call ent59 (c___spec_l1Cur__visitor w9 C t16 s17 (hb18) ((((hC).lo hk4).kp hk10 (fun b_ hb e' => by have e'' : b_ = g1 := e'; omega))) (by omega) (by omega)) rfl ?_)
    rintro e w27 ⟨v29, t30, s31, rfl, hb32, ht33, hq34, hk28⟩
    refine ⟨_, rfl, ?_⟩
    have hz35 := hk28.size
    have hB36 := hB23.new hk28 (by omega)
    refine SR.q' (r_mv (v := .pointer (some _)) rfl) <| SR.q' (r_mv (v := .slice _ _ _) rfl) <| SR.call ent56 (c___spec_l1Cur__minute30 w27 C t30 s31 (hb32) (((((hC).lo hk4).kp hk10 (fun b_ hb e' => by have e'' : b_ = g1 := e'; omega)).kp hk28 (fun b_ hb e' => by have e'' : b_ = g1 := e'; omega))) (by omega) (by omega) v15 ((((hO14).kp hk28 (fun b_ hb e' => by have e'' : b_ = g1 := e'; have := (hO14).base_le hb; omega)).rd)) (by assumption) (by omega) (((hO14).kp hk28 (fun b_ hb e' => by have e'' : b_ = g1 := e'; have := (hO14).base_le hb; omega)).apart (fun e' => by have := ((hO14).kp hk28 (fun b_ hb e' => by have e'' : b_ = g1 := e'; have := (hO14).base_le hb; omega)).base_le e'; omega))) rfl ?_
    rintro e w37 ⟨v39, t40, s41, rfl, hb42, ht43, hq44, hk38⟩
    refine ⟨_, rfl, ?_⟩
    have hz45 := hk38.size
    have hB46 := hB36.new hk38 (by omega)
    refine SR.q' (r_as (v := .slice _ _ _) rfl) <| SR.q' (r_as (v := .int .i64 _) rfl) <| SR.q' (r_as (v := .int .i64 _) rfl) <| SR.nil ?_
    refine W.ret ?_
    refine ret3 rfl (v := .slice _ _ _) (v' := .int .i64 _) (v'' := .int .i64 _) rfl rfl rfl ?_
    exact ⟨A11, n12, c13, v15, v29, v39, eR (eT3 rfl rfl rfl), ((((hO14).kp hk28 (fun b_ hb e' => by have e'' : b_ = g1 := e'; have := (hO14).base_le hb; omega)).kp hk38 (fun b_ hb e' => by have e'' : b_ = g1 := e'; have := ((hO14).kp hk28 (fun b_ hb e' => by have e'' : b_ = g1 := e'; have := (hO14).base_le hb; omega)).base_le hb; omega)).down (by omega)), (z_c_spec_DrawLeaveSeat_47 C nC hbdC hleC hp0 v15 t16 s17 ht19 hq20 hq21 n12 hl24 hl25 h26 v29 t30 s31 ht33 hq34 v39 t40 s41 ht43 hq44), (z_c_spec_DrawLeaveSeat_48 C nC hbdC hleC hp0 v15 t16 s17 ht19 hq20 hq21 n12 hl24 hl25 h26 v29 t30 s31 ht33 hq34 v39 t40 s41 ht43 hq44), hB46⟩
  · refine SR.g' rfl (r_mv (v := .pointer (some _)) rfl) <| SR.gcall rfl ent58 (c___spec_l1Cur__one w9 C t16 s17 (hb18) ((((hC).lo hk4).kp hk10 (fun b_ hb e' => by have e'' : b_ = g1 := e'; omega))) (by omega) (by omega) 4 (by first | omega | (simp only [List.length_append, List.length_cons, List.length_nil, List.length_take, List.length_drop]; omega))) rfl ?_
    rintro e w49 ⟨v51, t52, s53, rfl, hb54, ht55, hk50⟩
    refine ⟨_, rfl, ?_⟩
    have hz56 := hk50.size
    have hB57 := hB23.new hk50 (by omega)
    refine SR.q' (r_pick false rfl (v := .bool _) rfl) <| SR.nil ?_
    refine W.cond_b rfl (fun h58 => ?_) (fun h58 => ?_)
    · refine W.seq ?_
      refine W.regS (SR.q' (r_mv (v := .slice _ _ _) rfl) <| SR.q' (r_mv (v := .pointer (some _)) rfl) <| SR.call ent59 (c___spec_l1Cur__visitor w49 C t52 s53 (hb54) (((((hC).lo hk4).kp hk10 (fun b_ hb e' => by have e'' : b_ = g1 := e'; omega)).kp hk50 (fun b_ hb e' => by have e'' : b_ = g1 := e'; omega))) (by omega) (by omega)) rfl ?_)
      rintro e w59 ⟨v61, t62, s63, rfl, hb64, ht65, hq66, hk60⟩
      refine ⟨_, rfl, ?_⟩
      have hz67 := hk60.size
      have hB68 := hB57.new hk60 (by omega)
      refine SR.q' (r_mv (v := .pointer (some _)) rfl) <| SR.q' (r_mv (v := .slice _ _ _) rfl) <| SR.call ent56 (c___spec_l1Cur__minute30 w59 C t62 s63 (hb64) ((((((hC).lo hk4).kp hk10 (fun b_ hb e' => by have e'' : b_ = g1 := e'; omega)).kp hk50 (fun b_ hb e' => by have e'' : b_ = g1 := e'; omega)).kp hk60 (fun b_ hb e' => by have e'' : b_ = g1 := e'; omega))) (by omega) (by omega) v15 (((((hO14).kp hk50 (fun b_ hb e' => by have e'' : b_ = g1 := e'; have := (hO14).base_le hb; omega)).kp hk60 (fun b_ hb e' => by have e'' : b_ = g1 := e'; have := ((hO14).kp hk50 (fun b_ hb e' => by have e'' : b_ = g1 := e'; have := (hO14).base_le hb; omega)).base_le hb; omega)).rd)) (by assumption) (by omega) ((((hO14).kp hk50 (fun b_ hb e' => by have e'' : b_ = g1 := e'; have := (hO14).base_le hb; omega)).kp hk60 (fun b_ hb e' => by have e'' : b_ = g1 := e'; have := ((hO14).kp hk50 (fun b_ hb e' => by have e'' : b_ = g1 := e'; have := (hO14).base_le hb; omega)).base_le hb; omega)).apart (fun e' => by have := (((hO14).kp hk50 (fun b_ hb e' => by have e'' : b_ = g1 := e'; have := (hO14).base_le hb; omega)).kp hk60 (fun b_ hb e' => by have e'' : b_ = g1 := e'; have := ((hO14).kp hk50 (fun b_ hb e' => by have e'' : b_ = g1 := e'; have := (hO14).base_le hb; omega)).base_le hb; omega)).base_le e'; omega))) rfl ?_
      rintro e w69 ⟨v71, t72, s73, rfl, hb74, ht75, hq76, hk70⟩
      refine ⟨_, rfl, ?_⟩
      have hz77 := hk70.size
      have hB78 := hB68.new hk70 (by omega)
      refine SR.q' (r_as (v := .slice _ _ _) rfl) <| SR.q' (r_as (v := .int .i64 _) rfl) <| SR.q' (r_as (v := .int .i64 _) rfl) <| SR.nil ?_
      refine W.ret ?_
      refine ret3 rfl (v := .slice _ _ _) (v' := .int .i64 _) (v'' := .int .i64 _) rfl rfl rfl ?_
      exact ⟨A11, n12, c13, v15, v61, v71, eR (eT3 rfl rfl rfl), (((((hO14).kp hk50 (fun b_ hb e' => by have e'' : b_ = g1 := e'; have := (hO14).base_le hb; omega)).kp hk60 (fun b_ hb e' => by have e'' : b_ = g1 := e'; have := ((hO14).kp hk50 (fun b_ hb e' => by have e'' : b_ = g1 := e'; have := (hO14).base_le hb; omega)).base_le hb; omega)).kp hk70 (fun b_ hb e' => by have e'' : b_ = g1 := e'; have := (((hO14).kp hk50 (fun b_ hb e' => by have e'' : b_ = g1 := e'; have := (hO14).base_le hb; omega)).kp hk60 (fun b_ hb e' => by have e'' : b_ = g1 := e'; have := ((hO14).kp hk50 (fun b_ hb e' => by have e'' : b_ = g1 := e'; have := (hO14).base_le hb; omega)).base_le hb; omega)).base_le hb; omega)).down (by omega)), (z_c_spec_DrawLeaveSeat_79 C nC hbdC hleC hp0 v15 t16 s17 ht19 hq20 hq21 n12 hl24 hl25 h26 v51 t52 s53 ht55 h58 v61 t62 s63 ht65 hq66 v71 t72 s73 ht75 hq76), (z_c_spec_DrawLeaveSeat_80 C nC hbdC hleC hp0 v15 t16 s17 ht19 hq20 hq21 n12 hl24 hl25 h26 v51 t52 s53 ht55 h58 v61 t62 s63 ht65 hq66 v71 t72 s73 ht75 hq76), hB78⟩
    · refine W.skip ?_
      refine W.seq ?_
      refine W.regS (SR.q' (r_mv (v := .slice _ _ _) rfl) <| SR.q' (r_mv (v := .pointer (some _)) rfl) <| SR.q' (r_mv (v := .slice _ _ _) rfl) <| SR.q' (r_len und24 rfl) <| SR.call ent62 (c___spec_l1Cur__pick w49 C t52 s53 (hb54) (((((hC).lo hk4).kp hk10 (fun b_ hb e' => by have e'' : b_ = g1 := e'; omega)).kp hk50 (fun b_ hb e' => by have e'' : b_ = g1 := e'; omega))) (by omega) (by omega) (n12 : Int) (by first | omega | (simp only [List.length_append, List.length_cons, List.length_nil, List.length_take, List.length_drop]; omega))) rfl ?_)
      rintro e w81 ⟨v83, t84, s85, rfl, hb86, ht87, hq88, hk82⟩
      refine ⟨_, rfl, ?_⟩
      have hz89 := hk82.size
      have hB90 := hB57.new hk82 (by omega)
      have hx92 := ((((hO14).kp hk50 (fun b_ hb e' => by have e'' : b_ = g1 := e'; have := (hO14).base_le hb; omega)).kp hk82 (fun b_ hb e' => by have e'' : b_ = g1 := e'; have := ((hO14).kp hk50 (fun b_ hb e' => by have e'' : b_ = g1 := e'; have := (hO14).base_le hb; omega)).base_le hb; omega)).rd).elem (i := v83.toNat) (by omega)
      have hq93 := VsB.at hq20 hx92
      refine SR.q' (r_ixR tsl24 ((((hO14).kp hk50 (fun b_ hb e' => by have e'' : b_ = g1 := e'; have := (hO14).base_le hb; omega)).kp hk82 (fun b_ hb e' => by have e'' : b_ = g1 := e'; have := ((hO14).kp hk50 (fun b_ hb e' => by have e'' : b_ = g1 := e'; have := (hO14).base_le hb; omega)).base_le hb; omega)).rd) rfl rfl (by omega)) <| SR.q' (r_lda (l := encVisit (gt v15 v83.toNat)) agg59 rfl (fun _ _ hu => ((((hO14).kp hk50 (fun b_ hb e' => by have e'' : b_ = g1 := e'; have := (hO14).base_le hb; omega)).kp hk82 (fun b_ hb e' => by have e'' : b_ = g1 := e'; have := ((hO14).kp hk50 (fun b_ hb e' => by have e'' : b_ = g1 := e'; have := (hO14).base_le hb; omega)).base_le hb; omega)).rd).cell hx92 hu) (((((hO14).kp hk50 (fun b_ hb e' => by have e'' : b_ = g1 := e'; have := (hO14).base_le hb; omega)).kp hk82 (fun b_ hb e' => by have e'' : b_ = g1 := e'; have := ((hO14).kp hk50 (fun b_ hb e' => by have e'' : b_ = g1 := e'; have := (hO14).base_le hb; omega)).base_le hb; omega)).rd).esz _)) <| SR.alloc (l := [.int .i64 0, .int .i64 0, .int .i64 0, .int .i64 0]) tz59 rfl ?_
      intro g94 w95 hg96 hk97 hs98 hb99
      have hz100 := hk97.size
      have hB101 := hB90.lo hk97
      have hd102 : ¬ A11 = some ⟨g94, 0, none⟩ := fun e' => by have := (((hO14).kp hk50 (fun b_ hb e' => by have e'' : b_ = g1 := e'; have := (hO14).base_le hb; omega)).kp hk82 (fun b_ hb e' => by have e'' : b_ = g1 := e'; have := ((hO14).kp hk50 (fun b_ hb e' => by have e'' : b_ = g1 := e'; have := (hO14).base_le hb; omega)).base_le hb; omega)).base_le e'; omega
      refine SR.store (o := 0) (vs := [.int .i64 ((gt v15 v83.toNat).Reader), .int .i64 ((gt v15 v83.toNat).Seat), .int .i64 ((gt v15 v83.toNat).From), .int .i64 ((gt v15 v83.toNat).Until)]) agg59.2 rfl rfl rfl rfl (hb99) (Nat.le_of_ble_eq_true rfl) rfl ?_
      intro w103 hk104 hs105 hb106
      have hz107 := hk104.size
      have hB108 := hB101.new hk104 (by omega)
      refine SR.nil ?_
      refine W.seq ?_
      refine W.regA (Kp (fun b_ => b_ = g1) w103) (fun f' w' => ∃ (g137 : Nat), ∃ (v148 : Int), ∃ (t149 : Int), ∃ (s150 : Int), At f' [(2, .slice A11 n12 c13), (3, .int .i64 ((gt v15 v83.toNat).Reader)), (4, .int .i64 v148)] ∧ (Kp (fun b_ => b_ = g1) w103 w') ∧ (Blk w' g1 71 [.slice AC nC cC, .int .i64 t149, .int .u64 s150]) ∧ (t84 ≤ t149 ∧ t149 ≤ t84 + 2) ∧ (v148 ∈ ([(gt v15 v83.toNat).From, (gt v15 v83.toNat).From, ((gt v15 v83.toNat).From) + 1, ((gt v15 v83.toNat).Until) - 1, (gt v15 v83.toNat).Until] : List Int)) ∧ ((v148 : Int) = ((gt v15 v83.toNat).From) ∨ (v148 : Int) = ((gt v15 v83.toNat).From) ∨ (v148 : Int) = (((gt v15 v83.toNat).From) + 1) ∨ (v148 : Int) = (((gt v15 v83.toNat).Until) - 1) ∨ (v148 : Int) = ((gt v15 v83.toNat).Until))) mo ?_ ?_
      · intro w133 hk134
        have hz135 := hk134.size
        have hB136 := hB108.lo hk134
        refine AH.take 0 rfl (by kernel_rfl) trivial ((Kp.refl w103 : Kp (fun b_ => b_ = g1) w103 w103).lo hk134) (fun w' hw' => r_mv (v := .slice _ _ _) rfl) <| AH.take 1 rfl (by kernel_rfl) trivial ((Kp.refl w103 : Kp (fun b_ => b_ = g1) w103 w103).lo hk134) (fun w' hw' => r_fa fa59_0 rfl) <| AH.take 2 rfl (by kernel_rfl) trivial ((Kp.refl w103 : Kp (fun b_ => b_ = g1) w103 w103).lo hk134) (fun w' hw' => r_ld (v := .int .i64 ((gt v15 v83.toNat).Reader)) sca3 rfl (((hb106).kp hw' (fun e' => by have e'' : g94 = g1 := e'; omega)).cell rfl)) <| AH.take 3 rfl (by kernel_rfl) trivial ((Kp.refl w103 : Kp (fun b_ => b_ = g1) w103 w103).lo hk134) (fun w' hw' => r_mv (v := .pointer (some _)) rfl) <| AH.take 4 rfl (by kernel_rfl) trivial ((Kp.refl w103 : Kp (fun b_ => b_ = g1) w103 w103).lo hk134) (fun w' hw' => r_fa fa59_2 rfl) <| AH.take 5 rfl (by kernel_rfl) trivial ((Kp.refl w103 : Kp (fun b_ => b_ = g1) w103 w103).lo hk134) (fun w' hw' => r_ld (v := .int .i64 ((gt v15 v83.toNat).From)) sca3 rfl (((hb106).kp hw' (fun e' => by have e'' : g94 = g1 := e'; omega)).cell rfl)) <| AH.take 6 rfl (by kernel_rfl) trivial ((Kp.refl w103 : Kp (fun b_ => b_ = g1) w103 w103).lo hk134) (fun w' hw' => r_fa fa59_2 rfl) <| AH.take 7 rfl (by kernel_rfl) trivial ((Kp.refl w103 : Kp (fun b_ => b_ = g1) w103 w103).lo hk134) (fun w' hw' => r_ld (v := .int .i64 ((gt v15 v83.toNat).From)) sca3 rfl (((hb106).kp hw' (fun e' => by have e'' : g94 = g1 := e'; omega)).cell rfl)) <| AH.take 8 rfl (by kernel_rfl) trivial ((Kp.refl w103 : Kp (fun b_ => b_ = g1) w103 w103).lo hk134) (fun w' hw' => r_fa fa59_2 rfl) <| AH.take 9 rfl (by kernel_rfl) trivial ((Kp.refl w103 : Kp (fun b_ => b_ = g1) w103 w103).lo hk134) (fun w' hw' => r_ld (v := .int .i64 ((gt v15 v83.toNat).From)) sca3 rfl (((hb106).kp hw' (fun e' => by have e'' : g94 = g1 := e'; omega)).cell rfl)) <| AH.take 10 rfl (by kernel_rfl) trivial ((Kp.refl w103 : Kp (fun b_ => b_ = g1) w103 w103).lo hk134) (fun w' hw' => r_add rfl rfl (by omega)) <| AH.take 11 rfl (by kernel_rfl) trivial ((Kp.refl w103 : Kp (fun b_ => b_ = g1) w103 w103).lo hk134) (fun w' hw' => r_fa fa59_3 rfl) <| AH.take 12 rfl (by kernel_rfl) trivial ((Kp.refl w103 : Kp (fun b_ => b_ = g1) w103 w103).lo hk134) (fun w' hw' => r_ld (v := .int .i64 ((gt v15 v83.toNat).Until)) sca3 rfl (((hb106).kp hw' (fun e' => by have e'' : g94 = g1 := e'; omega)).cell rfl)) <| AH.take 13 rfl (by kernel_rfl) trivial ((Kp.refl w103 : Kp (fun b_ => b_ = g1) w103 w103).lo hk134) (fun w' hw' => r_sub rfl rfl (by omega)) <| AH.take 14 rfl (by kernel_rfl) trivial ((Kp.refl w103 : Kp (fun b_ => b_ = g1) w103 w103).lo hk134) (fun w' hw' => r_fa fa59_3 rfl) <| AH.take 15 rfl (by kernel_rfl) trivial ((Kp.refl w103 : Kp (fun b_ => b_ = g1) w103 w103).lo hk134) (fun w' hw' => r_ld (v := .int .i64 ((gt v15 v83.toNat).Until)) sca3 rfl (((hb106).kp hw' (fun e' => by have e'' : g94 = g1 := e'; omega)).cell rfl)) <| AH.br [16] (by kernel_rfl) rfl ⟨Br.mk' rfl trivial ?_, trivial⟩
        refine SR.lit (vs := [.int .i64 ((gt v15 v83.toNat).From), .int .i64 ((gt v15 v83.toNat).From), .int .i64 (((gt v15 v83.toNat).From) + 1), .int .i64 (((gt v15 v83.toNat).Until) - 1), .int .i64 ((gt v15 v83.toNat).Until)]) (L := ([(gt v15 v83.toNat).From, (gt v15 v83.toNat).From, ((gt v15 v83.toNat).From) + 1, ((gt v15 v83.toNat).Until) - 1, (gt v15 v83.toNat).Until] : List Int)) (enc := encI) tel39 (fun _ => rfl) rfl rfl rfl (by decide) ?_
        intro g137 w138 hg139 hk140 hO141
        have hz142 := hk140.size
        have hB143 := hB136.lo hk140
        have hS144 := ((Kp.refl w103 : Kp (fun b_ => b_ = g1) w103 w103).lo hk134).lo hk140
        have hd145 : ¬ A11 = some ⟨g137, 0, none⟩ := fun e' => by have := ((((((hO14).kp hk50 (fun b_ hb e' => by have e'' : b_ = g1 := e'; have := (hO14).base_le hb; omega)).kp hk82 (fun b_ hb e' => by have e'' : b_ = g1 := e'; have := ((hO14).kp hk50 (fun b_ hb e' => by have e'' : b_ = g1 := e'; have := (hO14).base_le hb; omega)).base_le hb; omega)).lo hk97).kp hk104 (fun b_ hb e' => hd102 (by have e'' : b_ = g94 := e'; rw [← e'']; exact hb))).lo hk134).base_le e'; omega
        refine SR.nil ⟨hS144, _, rfl, ?_⟩
        refine AH.br [17] (by kernel_rfl) rfl ⟨Br.mk' rfl trivial ?_, trivial⟩
        refine SR.call ent57 (c___spec_l1Cur__among w138 C t84 s85 (((((hb86).lo hk97).kp hk104 (fun e' => by have e'' : g1 = g94 := e'; omega)).lo hk134).lo hk140) ((((((((((hC).lo hk4).kp hk10 (fun b_ hb e' => by have e'' : b_ = g1 := e'; omega)).kp hk50 (fun b_ hb e' => by have e'' : b_ = g1 := e'; omega)).kp hk82 (fun b_ hb e' => by have e'' : b_ = g1 := e'; omega)).lo hk97).kp hk104 (fun b_ hb e' => by have e'' : b_ = g94 := e'; omega)).lo hk134).lo hk140)) (by omega) (by omega) ([(gt v15 v83.toNat).From, (gt v15 v83.toNat).From, ((gt v15 v83.toNat).From) + 1, ((gt v15 v83.toNat).Until) - 1, (gt v15 v83.toNat).Until] : List Int) (((hO141).rd)) (by omega) (by omega) (show ¬ g137 = g1 from by omega)) rfl ?_
        rintro e w146 ⟨v148, t149, s150, rfl, hb151, ht152, hq153, hk147⟩
        refine ⟨_, rfl, ?_⟩
        have hz154 := hk147.size
        have hB155 := hB143.new hk147 (by omega)
        have hS156 := (hS144).step hk147 (fun _ _ e => e)
        have hq157 : (v148 : Int) = ((gt v15 v83.toNat).From) ∨ (v148 : Int) = ((gt v15 v83.toNat).From) ∨ (v148 : Int) = (((gt v15 v83.toNat).From) + 1) ∨ (v148 : Int) = (((gt v15 v83.toNat).Until) - 1) ∨ (v148 : Int) = ((gt v15 v83.toNat).Until) := by simpa only [List.mem_cons, List.not_mem_nil, or_false] using hq153
        refine SR.nil ⟨hS156, _, rfl, ?_⟩
        refine AH.take 18 rfl (by kernel_rfl) trivial (hS156) (fun w' hw' => r_as (v := .slice _ _ _) rfl) <| AH.take 19 rfl (by kernel_rfl) trivial (hS156) (fun w' hw' => r_as (v := .int .i64 _) rfl) <| AH.take 20 rfl (by kernel_rfl) trivial (hS156) (fun w' hw' => r_as (v := .int .i64 _) rfl) <| AH.done (by kernel_rfl) ?_
        exact ⟨g137, v148, t149, s150, ⟨rfl, rfl, rfl, trivial⟩, hS156, (hb151), ht152, hq153, hq157⟩
      rintro f159 w160 ⟨g137, v148, t149, s150, hat162, hR161, hm158, ht152, hq153, hq157⟩
      rw [← sets_of_at hat162]
      have hz163 := hR161.size
      have hB164 := hB108.new hR161 (by omega)
      refine W.ret ?_
      refine ret3 rfl (v := .slice _ _ _) (v' := .int .i64 _) (v'' := .int .i64 _) rfl rfl rfl ?_
      exact ⟨A11, n12, c13, v15, ((gt v15 v83.toNat).Reader), v148, eR (eT3 rfl rfl rfl), (((((((hO14).kp hk50 (fun b_ hb e' => by have e'' : b_ = g1 := e'; have := (hO14).base_le hb; omega)).kp hk82 (fun b_ hb e' => by have e'' : b_ = g1 := e'; have := ((hO14).kp hk50 (fun b_ hb e' => by have e'' : b_ = g1 := e'; have := (hO14).base_le hb; omega)).base_le hb; omega)).lo hk97).kp hk104 (fun b_ hb e' => hd102 (by have e'' : b_ = g94 := e'; rw [← e'']; exact hb))).kp hR161 (fun b_ hb e' => by have e'' : b_ = g1 := e'; have := (((((hO14).kp hk50 (fun b_ hb e' => by have e'' : b_ = g1 := e'; have := (hO14).base_le hb; omega)).kp hk82 (fun b_ hb e' => by have e'' : b_ = g1 := e'; have := ((hO14).kp hk50 (fun b_ hb e' => by have e'' : b_ = g1 := e'; have := (hO14).base_le hb; omega)).base_le hb; omega)).lo hk97).kp hk104 (fun b_ hb e' => hd102 (by have e'' : b_ = g94 := e'; rw [← e'']; exact hb))).base_le hb; omega)).down (by omega)), (z_c_spec_DrawLeaveSeat_165 C nC hbdC hleC hp0 v15 t16 s17 ht19 hq20 hq21 n12 hl24 hl25 h26 v51 t52 s53 ht55 h58 v83 t84 s85 ht87 hq88 hx92 hq93 v148 t149 s150 ht152 hq153 hq157), (z_c_spec_DrawLeaveSeat_166 C nC hbdC hleC hp0 v15 t16 s17 ht19 hq20 hq21 n12 hl24 hl25 h26 v51 t52 s53 ht55 h58 v83 t84 s85 ht87 hq88 hx92 hq93 v148 t149 s150 ht152 hq153 hq157), hB164⟩

theorem z_c_spec_DrawSeatOf_17 (C : List UInt8) (nC : Nat) (hbdC : (nC : Int) ≤ 9223372036854775807) (hleC : nC = C.length) (hp0 : (nC : Int) ≤ 65536) (v7 : List Visit) (v8 : Int) (v9 : Int) (hq10 : VsB v7) (hq11 : v7.length ≤ 60) (n4 : Nat) (hl14 : n4 = (v7).length) (hl15 : (n4 : Int) ≤ 9223372036854775807) (hq16 : LeLaw v7 v8 v9) : VsB v7 := by
  assumption
theorem z_c_spec_DrawSeatOf_18 (C : List UInt8) (nC : Nat) (hbdC : (nC : Int) ≤ 9223372036854775807) (hleC : nC = C.length) (hp0 : (nC : Int) ≤ 65536) (v7 : List Visit) (v8 : Int) (v9 : Int) (hq10 : VsB v7) (hq11 : v7.length ≤ 60) (n4 : Nat) (hl14 : n4 = (v7).length) (hl15 : (n4 : Int) ≤ 9223372036854775807) (hq16 : LeLaw v7 v8 v9) : v7.length ≤ 60 := by
  omega
theorem c_spec_DrawSeatOf (w : World) {AC : Option Addr} {nC cC BC : Nat}  (C : List UInt8) (hC : SlR w BC encB 1 AC nC cC C) (hp0 : (nC : Int) ≤ 65536) : Calls Try.prog 30 #[.slice AC nC cC] w fun e w' => ∃ (A1' : Option Addr) (n1' c1' : Nat) (L : List Visit) (r : Int) (m : Int), e = .returned (.tuple (List.toArray [.slice A1' n1' c1', .int .i64 r, .int .i64 m])) ∧ SlO w' w.heap.size encVisit 4 59 A1' n1' c1' L ∧ (VsB L) ∧ (L.length ≤ 60) ∧ Lo w w' := by
  refine calls_W 10 Try.func30 rfl rfl rfl ?_
  have hbdC := hC.bound
  have hleC := hC.len
  have hBbC := hC.bd
  refine W.seq ?_
  refine W.regS (SR.q' (r_as (v := .slice none 0 0) rfl) <| SR.q' (r_as (v := .int .i64 0) rfl) <| SR.q' (r_as (v := .int .i64 0) rfl) <| SR.nil ?_)
  refine W.seq ?_
  refine W.regS (SR.q' (r_mv (v := .slice _ _ _) rfl) <| SR.call ent27 (c_spec_DrawLeaveSeat w C ((hC)) (by omega)) rfl ?_)
  rintro e w1 ⟨A3, n4, c5, v7, v8, v9, rfl, hO6, hq10, hq11, hk2⟩
  refine ⟨_, rfl, ?_⟩
  have hz12 := hk2.size
  have hB13 := (Lo.refl w).lo hk2
  have hl14 := hO6.len
  have hl15 := hO6.rd.bound
  have hq16 : LeLaw v7 v8 v9 := le_law v7 v8 v9
  refine SR.q' (r_ext (v := .slice _ _ _) rfl rfl) <| SR.q' (r_ext (v := .int .i64 _) rfl rfl) <| SR.q' (r_ext (v := .int .i64 _) rfl rfl) <| SR.q' (r_as (v := .slice _ _ _) rfl) <| SR.q' (r_as (v := .int .i64 _) rfl) <| SR.q' (r_as (v := .int .i64 _) rfl) <| SR.nil ?_
  refine W.ret ?_
  refine ret3 rfl (v := .slice _ _ _) (v' := .int .i64 _) (v'' := .int .i64 _) rfl rfl rfl ?_
  exact ⟨A3, n4, c5, v7, v8, v9, eR (eT3 rfl rfl rfl), ((hO6).down (by omega)), (z_c_spec_DrawSeatOf_17 C nC hbdC hleC hp0 v7 v8 v9 hq10 hq11 n4 hl14 hl15 hq16), (z_c_spec_DrawSeatOf_18 C nC hbdC hleC hp0 v7 v8 v9 hq10 hq11 n4 hl14 hl15 hq16), hB13⟩

theorem z_c_spec_DrawFreeSeats_56 (C : List UInt8) (nC : Nat) (hbdC : (nC : Int) ≤ 9223372036854775807) (hleC : nC = C.length) (hp0 : (nC : Int) ≤ 65536) (v15 : List Visit) (t16 : Int) (s17 : Int) (ht19 : 0 ≤ t16 ∧ t16 ≤ 0 + 200) (hq20 : VsB v15) (hq21 : v15.length ≤ 60) (n12 : Nat) (hl24 : n12 = (v15).length) (hl25 : (n12 : Int) ≤ 9223372036854775807) (v28 : Int) (t29 : Int) (s30 : Int) (ht32 : t16 ≤ t29 ∧ t29 ≤ t16 + 6) (hq33 : -2000 ≤ v28 ∧ v28 ≤ 2000) (v38 : Bool) (t39 : Int) (s40 : Int) (ht42 : t29 ≤ t39 ∧ t39 ≤ t29 + 2) (h45 : v38 = true) (v48 : Int) (t49 : Int) (s50 : Int) (ht52 : t39 ≤ t49 ∧ t49 ≤ t39 + 6) (hq53 : -2000 ≤ v48 ∧ v48 ≤ 2000) : VsB v15 := by
  assumption
theorem z_c_spec_DrawFreeSeats_57 (C : List UInt8) (nC : Nat) (hbdC : (nC : Int) ≤ 9223372036854775807) (hleC : nC = C.length) (hp0 : (nC : Int) ≤ 65536) (v15 : List Visit) (t16 : Int) (s17 : Int) (ht19 : 0 ≤ t16 ∧ t16 ≤ 0 + 200) (hq20 : VsB v15) (hq21 : v15.length ≤ 60) (n12 : Nat) (hl24 : n12 = (v15).length) (hl25 : (n12 : Int) ≤ 9223372036854775807) (v28 : Int) (t29 : Int) (s30 : Int) (ht32 : t16 ≤ t29 ∧ t29 ≤ t16 + 6) (hq33 : -2000 ≤ v28 ∧ v28 ≤ 2000) (v38 : Bool) (t39 : Int) (s40 : Int) (ht42 : t29 ≤ t39 ∧ t39 ≤ t29 + 2) (h45 : v38 = true) (v48 : Int) (t49 : Int) (s50 : Int) (ht52 : t39 ≤ t49 ∧ t49 ≤ t39 + 6) (hq53 : -2000 ≤ v48 ∧ v48 ≤ 2000) : v15.length ≤ 60 := by
  omega
theorem z_c_spec_DrawFreeSeats_77 (C : List UInt8) (nC : Nat) (hbdC : (nC : Int) ≤ 9223372036854775807) (hleC : nC = C.length) (hp0 : (nC : Int) ≤ 65536) (v15 : List Visit) (t16 : Int) (s17 : Int) (ht19 : 0 ≤ t16 ∧ t16 ≤ 0 + 200) (hq20 : VsB v15) (hq21 : v15.length ≤ 60) (n12 : Nat) (hl24 : n12 = (v15).length) (hl25 : (n12 : Int) ≤ 9223372036854775807) (v28 : Int) (t29 : Int) (s30 : Int) (ht32 : t16 ≤ t29 ∧ t29 ≤ t16 + 6) (hq33 : -2000 ≤ v28 ∧ v28 ≤ 2000) (v38 : Bool) (t39 : Int) (s40 : Int) (ht42 : t29 ≤ t39 ∧ t39 ≤ t29 + 2) (h45 : v38 = false) (v68 : Int) (t69 : Int) (s70 : Int) (ht72 : t39 ≤ t69 ∧ t69 ≤ t39 + 2) (hq73 : v68 ∈ ([1, 30, 60, 240] : List Int)) (hq76 : (1 : Int) ≤ v68 ∧ v68 ≤ 240) : VsB v15 := by
  assumption
theorem z_c_spec_DrawFreeSeats_78 (C : List UInt8) (nC : Nat) (hbdC : (nC : Int) ≤ 9223372036854775807) (hleC : nC = C.length) (hp0 : (nC : Int) ≤ 65536) (v15 : List Visit) (t16 : Int) (s17 : Int) (ht19 : 0 ≤ t16 ∧ t16 ≤ 0 + 200) (hq20 : VsB v15) (hq21 : v15.length ≤ 60) (n12 : Nat) (hl24 : n12 = (v15).length) (hl25 : (n12 : Int) ≤ 9223372036854775807) (v28 : Int) (t29 : Int) (s30 : Int) (ht32 : t16 ≤ t29 ∧ t29 ≤ t16 + 6) (hq33 : -2000 ≤ v28 ∧ v28 ≤ 2000) (v38 : Bool) (t39 : Int) (s40 : Int) (ht42 : t29 ≤ t39 ∧ t39 ≤ t29 + 2) (h45 : v38 = false) (v68 : Int) (t69 : Int) (s70 : Int) (ht72 : t39 ≤ t69 ∧ t69 ≤ t39 + 2) (hq73 : v68 ∈ ([1, 30, 60, 240] : List Int)) (hq76 : (1 : Int) ≤ v68 ∧ v68 ≤ 240) : v15.length ≤ 60 := by
  omega
theorem c_spec_DrawFreeSeats (w : World) {AC : Option Addr} {nC cC BC : Nat}  (C : List UInt8) (hC : SlR w BC encB 1 AC nC cC C) (hp0 : (nC : Int) ≤ 65536) : Calls Try.prog 28 #[.slice AC nC cC] w fun e w' => ∃ (A1' : Option Addr) (n1' c1' : Nat) (L : List Visit) (a : Int) (b : Int), e = .returned (.tuple (List.toArray [.slice A1' n1' c1', .int .i64 a, .int .i64 b])) ∧ SlO w' w.heap.size encVisit 4 59 A1' n1' c1' L ∧ (VsB L) ∧ (L.length ≤ 60) ∧ Lo w w' := by
  refine calls_W 30 Try.func28 rfl rfl rfl ?_
  have hbdC := hC.bound
  have hleC := hC.len
  have hBbC := hC.bd
  refine W.seq ?_
  refine W.regS (SR.q' (r_as (v := .slice none 0 0) rfl) <| SR.q' (r_as (v := .int .i64 0) rfl) <| SR.q' (r_as (v := .int .i64 0) rfl) <| SR.nil ?_)
  refine W.seq ?_
  refine W.regS (SR.q' (r_mv (v := .slice _ _ _) rfl) <| SR.q' (r_build (vs := [(0, .slice AC nC cC)]) rfl (bld71_0 _ _ _)) <| SR.box (v := .agg (List.toArray _)) (l := [.slice AC nC cC, .int .i64 0, .int .u64 0]) rfl rfl ?_)
  intro g1 w2 hg3 hk4 hs5 hb6
  have hz7 := hk4.size
  have hB8 := (Lo.refl w).lo hk4
  refine SR.q' (r_as (v := .pointer (some _)) rfl) <| SR.nil ?_
  refine W.seq ?_
  refine W.regS (SR.q' (r_mv (v := .pointer (some _)) rfl) <| SR.call ent55 (c___spec_l1Cur__visits w2 C 0 0 (hb6) (((hC).lo hk4)) (by omega) (by omega)) rfl ?_)
  rintro e w9 ⟨A11, n12, c13, v15, t16, s17, rfl, hO14, hb18, ht19, hq20, hq21, hk10⟩
  refine ⟨_, rfl, ?_⟩
  have hz22 := hk10.size
  have hB23 := hB8.new hk10 (by omega)
  have hl24 := hO14.len
  have hl25 := hO14.rd.bound
  refine SR.q' (r_as (v := .slice _ _ _) rfl) <| SR.nil ?_
  refine W.seq ?_
  refine W.regS (SR.q' (r_mv (v := .pointer (some _)) rfl) <| SR.q' (r_mv (v := .slice _ _ _) rfl) <| SR.call ent56 (c___spec_l1Cur__minute30 w9 C t16 s17 (hb18) ((((hC).lo hk4).kp hk10 (fun b_ hb e' => by have e'' : b_ = g1 := e'; omega))) (by omega) (by omega) v15 (((hO14).rd)) (by assumption) (by omega) ((hO14).apart (fun e' => by have := (hO14).base_le e'; omega))) rfl ?_)
  rintro e w26 ⟨v28, t29, s30, rfl, hb31, ht32, hq33, hk27⟩
  refine ⟨_, rfl, ?_⟩
  have hz34 := hk27.size
  have hB35 := hB23.new hk27 (by omega)
  refine SR.q' (r_as (v := .int .i64 _) rfl) <| SR.nil ?_
  refine W.seq ?_
  refine W.seq ?_
  refine W.regS (SR.q' (r_mv (v := .pointer (some _)) rfl) <| SR.call ent58 (c___spec_l1Cur__one w26 C t29 s30 (hb31) (((((hC).lo hk4).kp hk10 (fun b_ hb e' => by have e'' : b_ = g1 := e'; omega)).kp hk27 (fun b_ hb e' => by have e'' : b_ = g1 := e'; omega))) (by omega) (by omega) 6 (by first | omega | (simp only [List.length_append, List.length_cons, List.length_nil, List.length_take, List.length_drop]; omega))) rfl ?_)
  rintro e w36 ⟨v38, t39, s40, rfl, hb41, ht42, hk37⟩
  refine ⟨_, rfl, ?_⟩
  have hz43 := hk37.size
  have hB44 := hB35.new hk37 (by omega)
  refine SR.nil ?_
  refine W.cond_b rfl (fun h45 => ?_) (fun h45 => ?_)
  · refine W.seq ?_
    refine W.regS (SR.q' (r_mv (v := .slice _ _ _) rfl) <| SR.q' (r_mv (v := .int .i64 _) rfl) <| SR.q' (r_mv (v := .pointer (some _)) rfl) <| SR.q' (r_mv (v := .slice _ _ _) rfl) <| SR.call ent56 (c___spec_l1Cur__minute30 w36 C t39 s40 (hb41) ((((((hC).lo hk4).kp hk10 (fun b_ hb e' => by have e'' : b_ = g1 := e'; omega)).kp hk27 (fun b_ hb e' => by have e'' : b_ = g1 := e'; omega)).kp hk37 (fun b_ hb e' => by have e'' : b_ = g1 := e'; omega))) (by omega) (by omega) v15 (((((hO14).kp hk27 (fun b_ hb e' => by have e'' : b_ = g1 := e'; have := (hO14).base_le hb; omega)).kp hk37 (fun b_ hb e' => by have e'' : b_ = g1 := e'; have := ((hO14).kp hk27 (fun b_ hb e' => by have e'' : b_ = g1 := e'; have := (hO14).base_le hb; omega)).base_le hb; omega)).rd)) (by assumption) (by omega) ((((hO14).kp hk27 (fun b_ hb e' => by have e'' : b_ = g1 := e'; have := (hO14).base_le hb; omega)).kp hk37 (fun b_ hb e' => by have e'' : b_ = g1 := e'; have := ((hO14).kp hk27 (fun b_ hb e' => by have e'' : b_ = g1 := e'; have := (hO14).base_le hb; omega)).base_le hb; omega)).apart (fun e' => by have := (((hO14).kp hk27 (fun b_ hb e' => by have e'' : b_ = g1 := e'; have := (hO14).base_le hb; omega)).kp hk37 (fun b_ hb e' => by have e'' : b_ = g1 := e'; have := ((hO14).kp hk27 (fun b_ hb e' => by have e'' : b_ = g1 := e'; have := (hO14).base_le hb; omega)).base_le hb; omega)).base_le e'; omega))) rfl ?_)
    rintro e w46 ⟨v48, t49, s50, rfl, hb51, ht52, hq53, hk47⟩
    refine ⟨_, rfl, ?_⟩
    have hz54 := hk47.size
    have hB55 := hB44.new hk47 (by omega)
    refine SR.q' (r_as (v := .slice _ _ _) rfl) <| SR.q' (r_as (v := .int .i64 _) rfl) <| SR.q' (r_as (v := .int .i64 _) rfl) <| SR.nil ?_
    refine W.ret ?_
    refine ret3 rfl (v := .slice _ _ _) (v' := .int .i64 _) (v'' := .int .i64 _) rfl rfl rfl ?_
    exact ⟨A11, n12, c13, v15, v28, v48, eR (eT3 rfl rfl rfl), (((((hO14).kp hk27 (fun b_ hb e' => by have e'' : b_ = g1 := e'; have := (hO14).base_le hb; omega)).kp hk37 (fun b_ hb e' => by have e'' : b_ = g1 := e'; have := ((hO14).kp hk27 (fun b_ hb e' => by have e'' : b_ = g1 := e'; have := (hO14).base_le hb; omega)).base_le hb; omega)).kp hk47 (fun b_ hb e' => by have e'' : b_ = g1 := e'; have := (((hO14).kp hk27 (fun b_ hb e' => by have e'' : b_ = g1 := e'; have := (hO14).base_le hb; omega)).kp hk37 (fun b_ hb e' => by have e'' : b_ = g1 := e'; have := ((hO14).kp hk27 (fun b_ hb e' => by have e'' : b_ = g1 := e'; have := (hO14).base_le hb; omega)).base_le hb; omega)).base_le hb; omega)).down (by omega)), (z_c_spec_DrawFreeSeats_56 C nC hbdC hleC hp0 v15 t16 s17 ht19 hq20 hq21 n12 hl24 hl25 v28 t29 s30 ht32 hq33 v38 t39 s40 ht42 h45 v48 t49 s50 ht52 hq53), (z_c_spec_DrawFreeSeats_57 C nC hbdC hleC hp0 v15 t16 s17 ht19 hq20 hq21 n12 hl24 hl25 v28 t29 s30 ht32 hq33 v38 t39 s40 ht42 h45 v48 t49 s50 ht52 hq53), hB55⟩
  · refine W.skip ?_
    refine W.seq ?_
    refine W.regS (SR.q' (r_mv (v := .slice _ _ _) rfl) <| SR.q' (r_mv (v := .int .i64 _) rfl) <| SR.q' (r_mv (v := .int .i64 _) rfl) <| SR.q' (r_mv (v := .pointer (some _)) rfl) <| SR.lit (vs := [.int .i64 1, .int .i64 30, .int .i64 60, .int .i64 240]) (L := ([1, 30, 60, 240] : List Int)) (enc := encI) tel39 (fun _ => rfl) rfl rfl rfl (by decide) ?_)
    intro g58 w59 hg60 hk61 hO62
    have hz63 := hk61.size
    have hB64 := hB44.lo hk61
    have hd65 : ¬ A11 = some ⟨g58, 0, none⟩ := fun e' => by have := (((hO14).kp hk27 (fun b_ hb e' => by have e'' : b_ = g1 := e'; have := (hO14).base_le hb; omega)).kp hk37 (fun b_ hb e' => by have e'' : b_ = g1 := e'; have := ((hO14).kp hk27 (fun b_ hb e' => by have e'' : b_ = g1 := e'; have := (hO14).base_le hb; omega)).base_le hb; omega)).base_le e'; omega
    refine SR.call ent57 (c___spec_l1Cur__among w59 C t39 s40 ((hb41).lo hk61) (((((((hC).lo hk4).kp hk10 (fun b_ hb e' => by have e'' : b_ = g1 := e'; omega)).kp hk27 (fun b_ hb e' => by have e'' : b_ = g1 := e'; omega)).kp hk37 (fun b_ hb e' => by have e'' : b_ = g1 := e'; omega)).lo hk61)) (by omega) (by omega) ([1, 30, 60, 240] : List Int) (((hO62).rd)) (by omega) (by omega) (show ¬ g58 = g1 from by omega)) rfl ?_
    rintro e w66 ⟨v68, t69, s70, rfl, hb71, ht72, hq73, hk67⟩
    refine ⟨_, rfl, ?_⟩
    have hz74 := hk67.size
    have hB75 := hB64.new hk67 (by omega)
    have hq76 : (1 : Int) ≤ v68 ∧ v68 ≤ 240 := mem_rngB (lo := 1) (hi := 240) (by decide) hq73
    refine SR.q' (r_add rfl rfl (by omega)) <| SR.q' (r_as (v := .slice _ _ _) rfl) <| SR.q' (r_as (v := .int .i64 _) rfl) <| SR.q' (r_as (v := .int .i64 _) rfl) <| SR.nil ?_
    refine W.ret ?_
    refine ret3 rfl (v := .slice _ _ _) (v' := .int .i64 _) (v'' := .int .i64 _) rfl rfl rfl ?_
    exact ⟨A11, n12, c13, v15, v28, (v28 + v68), eR (eT3 rfl rfl rfl), ((((((hO14).kp hk27 (fun b_ hb e' => by have e'' : b_ = g1 := e'; have := (hO14).base_le hb; omega)).kp hk37 (fun b_ hb e' => by have e'' : b_ = g1 := e'; have := ((hO14).kp hk27 (fun b_ hb e' => by have e'' : b_ = g1 := e'; have := (hO14).base_le hb; omega)).base_le hb; omega)).lo hk61).kp hk67 (fun b_ hb e' => by have e'' : b_ = g1 := e'; have := ((((hO14).kp hk27 (fun b_ hb e' => by have e'' : b_ = g1 := e'; have := (hO14).base_le hb; omega)).kp hk37 (fun b_ hb e' => by have e'' : b_ = g1 := e'; have := ((hO14).kp hk27 (fun b_ hb e' => by have e'' : b_ = g1 := e'; have := (hO14).base_le hb; omega)).base_le hb; omega)).lo hk61).base_le hb; omega)).down (by omega)), (z_c_spec_DrawFreeSeats_77 C nC hbdC hleC hp0 v15 t16 s17 ht19 hq20 hq21 n12 hl24 hl25 v28 t29 s30 ht32 hq33 v38 t39 s40 ht42 h45 v68 t69 s70 ht72 hq73 hq76), (z_c_spec_DrawFreeSeats_78 C nC hbdC hleC hp0 v15 t16 s17 ht19 hq20 hq21 n12 hl24 hl25 v28 t29 s30 ht32 hq33 v38 t39 s40 ht42 h45 v68 t69 s70 ht72 hq73 hq76), hB75⟩

theorem z_c_laws_rBig_1 (C : List UInt8) (nC : Nat) (hbdC : (nC : Int) ≤ 9223372036854775807) (hleC : nC = C.length) : (65536 < (nC : Int)) ↔ (65536 < (C.length : Int)) := by
  omega
theorem c_laws_rBig (w : World) {AC : Option Addr} {nC cC BC : Nat}  (C : List UInt8) (hC : SlR w BC encB 1 AC nC cC C) : Calls Try.prog 20 #[.slice AC nC cC] w fun e w' => e = .returned (.bool (decide (65536 < (C.length : Int)))) ∧ Lo w w' := by
  refine calls_W 6 Try.func20 rfl rfl rfl ?_
  have hbdC := hC.bound
  have hleC := hC.len
  have hBbC := hC.bd
  refine W.seq ?_
  refine W.regS (SR.q' (r_as (v := .bool false) rfl) <| SR.nil ?_)
  refine W.seq ?_
  refine W.regS (SR.q' (r_mv (v := .slice _ _ _) rfl) <| SR.q' (r_len und35 rfl) <| SR.q' (r_gt rfl rfl) <| SR.q' (r_as (v := .bool _) rfl) <| SR.nil ?_)
  refine W.ret ?_
  refine ret1 rfl (v := .bool _) rfl ?_
  exact ⟨eR (eDD (z_c_laws_rBig_1 C nC hbdC hleC)), (Lo.refl w)⟩

theorem z_c_laws_rInts_2 (L : List Int) (nL : Nat) (hbdL : (nL : Int) ≤ 9223372036854775807) (hleL : nL = L.length) (M : List Int) (nM : Nat) (hbdM : (nM : Int) ≤ 9223372036854775807) (hleM : nM = M.length) (h1 : ¬ ((nL : Int) = (nM : Int))) : ¬ (L = M) := by
  first | (intro e; subst e; omega) | exact ne_at ‹L[_]? = some _› ‹M[_]? = some _› ‹_› | exact take_end (And.right ‹_ ∧ L.take _ = M.take _›) hleL hleM (by omega) ‹_›
theorem z_c_laws_rInts_3 (L : List Int) (nL : Nat) (hbdL : (nL : Int) ≤ 9223372036854775807) (hleL : nL = L.length) (M : List Int) (nM : Nat) (hbdM : (nM : Int) ≤ 9223372036854775807) (hleM : nM = M.length) (h1 : (nL : Int) = (nM : Int)) : 0 ≤ nL ∧ L.take 0 = M.take 0 := by
  simp
theorem z_c_laws_rInts_21 (L : List Int) (nL : Nat) (hbdL : (nL : Int) ≤ 9223372036854775807) (hleL : nL = L.length) (M : List Int) (nM : Nat) (hbdM : (nM : Int) ≤ 9223372036854775807) (hleM : nM = M.length) (h1 : (nL : Int) = (nM : Int)) (k : Nat) (hi10 : k ≤ nL ∧ L.take k = M.take k) (h11 : (k : Int) < (nL : Int)) (hx13 : L[k]? = some (gt L k)) (hx15 : M[k]? = some (gt M k)) (h20 : ¬ ((gt L k) = (gt M k))) : ¬ (L = M) := by
  first | (intro e; subst e; omega) | exact ne_at ‹L[_]? = some _› ‹M[_]? = some _› ‹_› | exact take_end (And.right ‹_ ∧ L.take _ = M.take _›) hleL hleM (by omega) ‹_›
theorem z_c_laws_rInts_22 (L : List Int) (nL : Nat) (hbdL : (nL : Int) ≤ 9223372036854775807) (hleL : nL = L.length) (M : List Int) (nM : Nat) (hbdM : (nM : Int) ≤ 9223372036854775807) (hleM : nM = M.length) (h1 : (nL : Int) = (nM : Int)) (k : Nat) (hi10 : k ≤ nL ∧ L.take k = M.take k) (h11 : (k : Int) < (nL : Int)) (hx13 : L[k]? = some (gt L k)) (hx15 : M[k]? = some (gt M k)) (h20 : (gt L k) = (gt M k)) : k + 1 ≤ nL ∧ L.take (k + 1) = M.take (k + 1) := by
  exact ⟨by omega, take_next (And.right ‹_ ∧ L.take _ = M.take _›) ‹L[_]? = some _› ‹M[_]? = some _› (by assumption)⟩
theorem z_c_laws_rInts_23 (L : List Int) (nL : Nat) (hbdL : (nL : Int) ≤ 9223372036854775807) (hleL : nL = L.length) (M : List Int) (nM : Nat) (hbdM : (nM : Int) ≤ 9223372036854775807) (hleM : nM = M.length) (h1 : (nL : Int) = (nM : Int)) (k : Nat) (hi10 : k ≤ nL ∧ L.take k = M.take k) (h11 : (k : Int) < (nL : Int)) (hx13 : L[k]? = some (gt L k)) (hx15 : M[k]? = some (gt M k)) (h20 : (gt L k) = (gt M k)) : nL - (k + 1) < nL - k := by
  omega
theorem z_c_laws_rInts_24 (L : List Int) (nL : Nat) (hbdL : (nL : Int) ≤ 9223372036854775807) (hleL : nL = L.length) (M : List Int) (nM : Nat) (hbdM : (nM : Int) ≤ 9223372036854775807) (hleM : nM = M.length) (h1 : (nL : Int) = (nM : Int)) (k : Nat) (hi10 : k ≤ nL ∧ L.take k = M.take k) (h11 : ¬ ((k : Int) < (nL : Int))) : L = M := by
  first | (intro e; subst e; omega) | exact ne_at ‹L[_]? = some _› ‹M[_]? = some _› ‹_› | exact take_end (And.right ‹_ ∧ L.take _ = M.take _›) hleL hleM (by omega) ‹_›
theorem c_laws_rInts (w : World) {AL : Option Addr} {nL cL BL : Nat}  (L : List Int) (hL : SlR w BL encI 1 AL nL cL L) {AM : Option Addr} {nM cM BM : Nat}  (M : List Int) (hM : SlR w BM encI 1 AM nM cM M) : Calls Try.prog 32 #[.slice AL nL cL, .slice AM nM cM] w fun e w' => e = .returned (.bool (decide (L = M))) ∧ Lo w w' := by
  refine calls_W 26 Try.func32 rfl rfl rfl ?_
  have hbdL := hL.bound
  have hleL := hL.len
  have hBbL := hL.bd
  have hbdM := hM.bound
  have hleM := hM.len
  have hBbM := hM.bd
  refine W.seq ?_
  refine W.regS (SR.q' (r_as (v := .bool false) rfl) <| SR.nil ?_)
  refine W.seq ?_
  refine W.seq ?_
  refine W.regS (SR.q' (r_mv (v := .slice _ _ _) rfl) <| SR.q' (r_len und39 rfl) <| SR.q' (r_mv (v := .slice _ _ _) rfl) <| SR.q' (r_len und39 rfl) <| SR.q' (r_ne rfl rfl) <| SR.nil ?_)
  refine W.cond_n rfl (fun h1 => ?_) (fun h1 => ?_)
  · refine W.seq ?_
    refine W.regS (SR.q' (r_as (v := .bool false) rfl) <| SR.nil ?_)
    refine W.ret ?_
    refine ret1 rfl (v := .bool _) rfl ?_
    exact ⟨eR (eDF (z_c_laws_rInts_2 L nL hbdL hleL M nM hbdM hleM h1)), (Lo.refl w)⟩
  · refine W.skip ?_
    refine W.seq ?_
    refine W.seq ?_
    refine W.regS (SR.q' (r_as (v := .int .i64 0) rfl) <| SR.nil ?_)
    refine W.block ?_
    refine W.loop (σ := Nat) (fun g => [(0, .slice AL nL cL), (1, .slice AM nM cM), (5, .int .i64 (g : Int))]) (fun g w' => (Lo w w') ∧ (SlR w' BL encI 1 AL nL cL L) ∧ (SlR w' BM encI 1 AM nM cM M) ∧ (g ≤ nL ∧ L.take g = M.take g)) (fun g => nL - g) 0 ?_ ?_ ?_
    · exact ⟨rfl, rfl, rfl, trivial⟩
    · exact ⟨(Lo.refl w), hL, hM, (z_c_laws_rInts_3 L nL hbdL hleL M nM hbdM hleM h1)⟩
    · rintro k f4 w5 hP7
      obtain ⟨hB6, hm8, hm9, hi10⟩ : (Lo w w5) ∧ (SlR w5 BL encI 1 AL nL cL L) ∧ (SlR w5 BM encI 1 AM nM cM M) ∧ (k ≤ nL ∧ L.take k = M.take k) := hP7
      refine (?_ : W _ _ _ _ _ (act _ (sets f4 [(0, .slice AL nL cL), (1, .slice AM nM cM), (5, .int .i64 (k : Int))])) _)
      have hzw5 := hB6.size
      refine W.seq ?_
      refine W.seq ?_
      refine W.regS (SR.q' (r_mv (v := .int .i64 _) rfl) <| SR.q' (r_mv (v := .slice _ _ _) rfl) <| SR.q' (r_len und39 rfl) <| SR.q' (r_lt rfl rfl) <| SR.nil ?_)
      refine W.cond_d rfl (fun h11 => ?_) (fun h11 => ?_)
      · refine W.skip ?_
        refine W.seq ?_
        refine W.block ?_
        refine W.seq ?_
        refine W.regD mo (by kernel_rfl) (QR.q' (fun w' hw' => r_mv (v := .slice _ _ _) rfl) <| QR.q' (fun w' hw' => r_mv (v := .int .i64 _) rfl) <| ?_)
        have hx13 := (hm8).elem (i := k) (by omega)
        refine QR.q' (fun w' hw' => r_ixR tsl39 (((hm8).lo hw')) rfl rfl (by omega)) <| QR.q' (fun w' hw' => r_ld (v := .int .i64 (gt L k)) sca3 rfl ((((hm8).lo hw')).cell0 hx13 rfl)) <| QR.q' (fun w' hw' => r_mv (v := .slice _ _ _) rfl) <| QR.q' (fun w' hw' => r_mv (v := .int .i64 _) rfl) <| ?_
        have hx15 := (hm9).elem (i := k) (by omega)
        refine QR.q' (fun w' hw' => r_ixR tsl39 (((hm9).lo hw')) rfl rfl (by omega)) <| QR.q' (fun w' hw' => r_ld (v := .int .i64 (gt M k)) sca3 rfl ((((hm9).lo hw')).cell0 hx15 rfl)) <| QR.q' (fun w' hw' => r_ne rfl rfl) <| QR.nil ?_
        intro w16 hk17
        have hz18 := hk17.size
        have hB19 := hB6.lo hk17
        refine W.cond_n rfl (fun h20 => ?_) (fun h20 => ?_)
        · refine W.seq ?_
          refine W.regS (SR.q' (r_as (v := .bool false) rfl) <| SR.nil ?_)
          refine W.ret ?_
          refine ret1 rfl (v := .bool _) rfl ?_
          exact ⟨eR (eDF (z_c_laws_rInts_21 L nL hbdL hleL M nM hbdM hleM h1 k hi10 h11 hx13 hx15 h20)), hB19⟩
        · refine W.skip ?_
          refine W.regS (SR.q' (r_mv (v := .int .i64 _) rfl) <| SR.q' (r_add rfl rfl (by omega)) <| SR.q' (r_as (v := .int .i64 _) rfl) <| SR.nil ?_)
          refine ⟨k + 1, _, rfl, ⟨rfl, rfl, rfl, trivial⟩, ⟨hB19, (hm8).lo hk17, (hm9).lo hk17, ?_⟩, ?_⟩
          · exact (z_c_laws_rInts_22 L nL hbdL hleL M nM hbdM hleM h1 k hi10 h11 hx13 hx15 h20)
          · exact (z_c_laws_rInts_23 L nL hbdL hleL M nM hbdM hleM h1 k hi10 h11 hx13 hx15 h20)
      · refine W.exit (xin_here ?_)
        refine W.seq ?_
        refine W.regS (SR.q' (r_as (v := .bool true) rfl) <| SR.nil ?_)
        refine W.ret ?_
        refine ret1 rfl (v := .bool _) rfl ?_
        exact ⟨eR (eDT (z_c_laws_rInts_24 L nL hbdL hleL M nM hbdM hleM h1 k hi10 h11)), hB6⟩

theorem z_c_laws_rVisits_2 (L : List Visit) (nL : Nat) (hbdL : (nL : Int) ≤ 9223372036854775807) (hleL : nL = L.length) (M : List Visit) (nM : Nat) (hbdM : (nM : Int) ≤ 9223372036854775807) (hleM : nM = M.length) (h1 : ¬ ((nL : Int) = (nM : Int))) : ¬ (L = M) := by
  first | (intro e; subst e; omega) | exact ne_at ‹L[_]? = some _› ‹M[_]? = some _› ‹_› | exact take_end (And.right ‹_ ∧ L.take _ = M.take _›) hleL hleM (by omega) ‹_›
theorem z_c_laws_rVisits_3 (L : List Visit) (nL : Nat) (hbdL : (nL : Int) ≤ 9223372036854775807) (hleL : nL = L.length) (M : List Visit) (nM : Nat) (hbdM : (nM : Int) ≤ 9223372036854775807) (hleM : nM = M.length) (h1 : (nL : Int) = (nM : Int)) : 0 ≤ nL ∧ L.take 0 = M.take 0 := by
  simp
theorem z_c_laws_rVisits_21 (L : List Visit) (nL : Nat) (hbdL : (nL : Int) ≤ 9223372036854775807) (hleL : nL = L.length) (M : List Visit) (nM : Nat) (hbdM : (nM : Int) ≤ 9223372036854775807) (hleM : nM = M.length) (h1 : (nL : Int) = (nM : Int)) (k : Nat) (hi10 : k ≤ nL ∧ L.take k = M.take k) (h11 : (k : Int) < (nL : Int)) (hx13 : L[k]? = some (gt L k)) (hx15 : M[k]? = some (gt M k)) (h20 : ¬ ((gt L k) = (gt M k))) : ¬ (L = M) := by
  first | (intro e; subst e; omega) | exact ne_at ‹L[_]? = some _› ‹M[_]? = some _› ‹_› | exact take_end (And.right ‹_ ∧ L.take _ = M.take _›) hleL hleM (by omega) ‹_›
theorem z_c_laws_rVisits_22 (L : List Visit) (nL : Nat) (hbdL : (nL : Int) ≤ 9223372036854775807) (hleL : nL = L.length) (M : List Visit) (nM : Nat) (hbdM : (nM : Int) ≤ 9223372036854775807) (hleM : nM = M.length) (h1 : (nL : Int) = (nM : Int)) (k : Nat) (hi10 : k ≤ nL ∧ L.take k = M.take k) (h11 : (k : Int) < (nL : Int)) (hx13 : L[k]? = some (gt L k)) (hx15 : M[k]? = some (gt M k)) (h20 : (gt L k) = (gt M k)) : k + 1 ≤ nL ∧ L.take (k + 1) = M.take (k + 1) := by
  exact ⟨by omega, take_next (And.right ‹_ ∧ L.take _ = M.take _›) ‹L[_]? = some _› ‹M[_]? = some _› (by assumption)⟩
theorem z_c_laws_rVisits_23 (L : List Visit) (nL : Nat) (hbdL : (nL : Int) ≤ 9223372036854775807) (hleL : nL = L.length) (M : List Visit) (nM : Nat) (hbdM : (nM : Int) ≤ 9223372036854775807) (hleM : nM = M.length) (h1 : (nL : Int) = (nM : Int)) (k : Nat) (hi10 : k ≤ nL ∧ L.take k = M.take k) (h11 : (k : Int) < (nL : Int)) (hx13 : L[k]? = some (gt L k)) (hx15 : M[k]? = some (gt M k)) (h20 : (gt L k) = (gt M k)) : nL - (k + 1) < nL - k := by
  omega
theorem z_c_laws_rVisits_24 (L : List Visit) (nL : Nat) (hbdL : (nL : Int) ≤ 9223372036854775807) (hleL : nL = L.length) (M : List Visit) (nM : Nat) (hbdM : (nM : Int) ≤ 9223372036854775807) (hleM : nM = M.length) (h1 : (nL : Int) = (nM : Int)) (k : Nat) (hi10 : k ≤ nL ∧ L.take k = M.take k) (h11 : ¬ ((k : Int) < (nL : Int))) : L = M := by
  first | (intro e; subst e; omega) | exact ne_at ‹L[_]? = some _› ‹M[_]? = some _› ‹_› | exact take_end (And.right ‹_ ∧ L.take _ = M.take _›) hleL hleM (by omega) ‹_›
theorem c_laws_rVisits (w : World) {AL : Option Addr} {nL cL BL : Nat}  (L : List Visit) (hL : SlR w BL encVisit 4 AL nL cL L) {AM : Option Addr} {nM cM BM : Nat}  (M : List Visit) (hM : SlR w BM encVisit 4 AM nM cM M) : Calls Try.prog 22 #[.slice AL nL cL, .slice AM nM cM] w fun e w' => e = .returned (.bool (decide (L = M))) ∧ Lo w w' := by
  refine calls_W 26 Try.func22 rfl rfl rfl ?_
  have hbdL := hL.bound
  have hleL := hL.len
  have hBbL := hL.bd
  have hbdM := hM.bound
  have hleM := hM.len
  have hBbM := hM.bd
  refine W.seq ?_
  refine W.regS (SR.q' (r_as (v := .bool false) rfl) <| SR.nil ?_)
  refine W.seq ?_
  refine W.seq ?_
  refine W.regS (SR.q' (r_mv (v := .slice _ _ _) rfl) <| SR.q' (r_len und24 rfl) <| SR.q' (r_mv (v := .slice _ _ _) rfl) <| SR.q' (r_len und24 rfl) <| SR.q' (r_ne rfl rfl) <| SR.nil ?_)
  refine W.cond_n rfl (fun h1 => ?_) (fun h1 => ?_)
  · refine W.seq ?_
    refine W.regS (SR.q' (r_as (v := .bool false) rfl) <| SR.nil ?_)
    refine W.ret ?_
    refine ret1 rfl (v := .bool _) rfl ?_
    exact ⟨eR (eDF (z_c_laws_rVisits_2 L nL hbdL hleL M nM hbdM hleM h1)), (Lo.refl w)⟩
  · refine W.skip ?_
    refine W.seq ?_
    refine W.seq ?_
    refine W.regS (SR.q' (r_as (v := .int .i64 0) rfl) <| SR.nil ?_)
    refine W.block ?_
    refine W.loop (σ := Nat) (fun g => [(0, .slice AL nL cL), (1, .slice AM nM cM), (5, .int .i64 (g : Int))]) (fun g w' => (Lo w w') ∧ (SlR w' BL encVisit 4 AL nL cL L) ∧ (SlR w' BM encVisit 4 AM nM cM M) ∧ (g ≤ nL ∧ L.take g = M.take g)) (fun g => nL - g) 0 ?_ ?_ ?_
    · exact ⟨rfl, rfl, rfl, trivial⟩
    · exact ⟨(Lo.refl w), hL, hM, (z_c_laws_rVisits_3 L nL hbdL hleL M nM hbdM hleM h1)⟩
    · rintro k f4 w5 hP7
      obtain ⟨hB6, hm8, hm9, hi10⟩ : (Lo w w5) ∧ (SlR w5 BL encVisit 4 AL nL cL L) ∧ (SlR w5 BM encVisit 4 AM nM cM M) ∧ (k ≤ nL ∧ L.take k = M.take k) := hP7
      refine (?_ : W _ _ _ _ _ (act _ (sets f4 [(0, .slice AL nL cL), (1, .slice AM nM cM), (5, .int .i64 (k : Int))])) _)
      have hzw5 := hB6.size
      refine W.seq ?_
      refine W.seq ?_
      refine W.regS (SR.q' (r_mv (v := .int .i64 _) rfl) <| SR.q' (r_mv (v := .slice _ _ _) rfl) <| SR.q' (r_len und24 rfl) <| SR.q' (r_lt rfl rfl) <| SR.nil ?_)
      refine W.cond_d rfl (fun h11 => ?_) (fun h11 => ?_)
      · refine W.skip ?_
        refine W.seq ?_
        refine W.block ?_
        refine W.seq ?_
        refine W.regD mo (by kernel_rfl) (QR.q' (fun w' hw' => r_mv (v := .slice _ _ _) rfl) <| QR.q' (fun w' hw' => r_mv (v := .int .i64 _) rfl) <| ?_)
        have hx13 := (hm8).elem (i := k) (by omega)
        refine QR.q' (fun w' hw' => r_ixR tsl24 (((hm8).lo hw')) rfl rfl (by omega)) <| QR.q' (fun w' hw' => r_lda (l := encVisit (gt L k)) agg59 rfl (fun _ _ hu => (((hm8).lo hw')).cell hx13 hu) ((((hm8).lo hw')).esz _)) <| QR.q' (fun w' hw' => r_mv (v := .slice _ _ _) rfl) <| QR.q' (fun w' hw' => r_mv (v := .int .i64 _) rfl) <| ?_
        have hx15 := (hm9).elem (i := k) (by omega)
        refine QR.q' (fun w' hw' => r_ixR tsl24 (((hm9).lo hw')) rfl rfl (by omega)) <| QR.q' (fun w' hw' => r_lda (l := encVisit (gt M k)) agg59 rfl (fun _ _ hu => (((hm9).lo hw')).cell hx15 hu) ((((hm9).lo hw')).esz _)) <| QR.q' (fun w' hw' => r_neA (l := encVisit (gt L k)) (r := encVisit (gt M k)) rfl rfl eqg59 (eql59 (gt L k) (gt M k))) <| QR.nil ?_
        intro w16 hk17
        have hz18 := hk17.size
        have hB19 := hB6.lo hk17
        refine W.cond_n rfl (fun h20 => ?_) (fun h20 => ?_)
        · refine W.seq ?_
          refine W.regS (SR.q' (r_as (v := .bool false) rfl) <| SR.nil ?_)
          refine W.ret ?_
          refine ret1 rfl (v := .bool _) rfl ?_
          exact ⟨eR (eDF (z_c_laws_rVisits_21 L nL hbdL hleL M nM hbdM hleM h1 k hi10 h11 hx13 hx15 h20)), hB19⟩
        · refine W.skip ?_
          refine W.regS (SR.q' (r_mv (v := .int .i64 _) rfl) <| SR.q' (r_add rfl rfl (by omega)) <| SR.q' (r_as (v := .int .i64 _) rfl) <| SR.nil ?_)
          refine ⟨k + 1, _, rfl, ⟨rfl, rfl, rfl, trivial⟩, ⟨hB19, (hm8).lo hk17, (hm9).lo hk17, ?_⟩, ?_⟩
          · exact (z_c_laws_rVisits_22 L nL hbdL hleL M nM hbdM hleM h1 k hi10 h11 hx13 hx15 h20)
          · exact (z_c_laws_rVisits_23 L nL hbdL hleL M nM hbdM hleM h1 k hi10 h11 hx13 hx15 h20)
      · refine W.exit (xin_here ?_)
        refine W.seq ?_
        refine W.regS (SR.q' (r_as (v := .bool true) rfl) <| SR.nil ?_)
        refine W.ret ?_
        refine ret1 rfl (v := .bool _) rfl ?_
        exact ⟨eR (eDT (z_c_laws_rVisits_24 L nL hbdL hleL M nM hbdM hleM h1 k hi10 h11)), hB6⟩

theorem z_c_laws_rHas_1 (L : List Int) (nL : Nat) (hbdL : (nL : Int) ≤ 9223372036854775807) (hleL : nL = L.length) (x : Int) : 0 ≤ nL ∧ x ∉ L.take 0 := by
  simp
theorem z_c_laws_rHas_12 (L : List Int) (nL : Nat) (hbdL : (nL : Int) ≤ 9223372036854775807) (hleL : nL = L.length) (x : Int) (k : Nat) (hi7 : k ≤ nL ∧ x ∉ L.take k) (h8 : (k : Int) < (nL : Int)) (hx10 : L[k]? = some (gt L k)) (h11 : (gt L k) = x) : x ∈ L := by
  first | exact has_yes ‹L[_]? = some _› (by assumption) | exact has_no (And.right ‹_ ∧ _ ∉ L.take _›) (by omega)
theorem z_c_laws_rHas_13 (L : List Int) (nL : Nat) (hbdL : (nL : Int) ≤ 9223372036854775807) (hleL : nL = L.length) (x : Int) (k : Nat) (hi7 : k ≤ nL ∧ x ∉ L.take k) (h8 : (k : Int) < (nL : Int)) (hx10 : L[k]? = some (gt L k)) (h11 : ¬ ((gt L k) = x)) : k + 1 ≤ nL ∧ x ∉ L.take (k + 1) := by
  exact ⟨by omega, has_next (And.right ‹_ ∧ _ ∉ L.take _›) ‹L[_]? = some _› (by assumption)⟩
theorem z_c_laws_rHas_14 (L : List Int) (nL : Nat) (hbdL : (nL : Int) ≤ 9223372036854775807) (hleL : nL = L.length) (x : Int) (k : Nat) (hi7 : k ≤ nL ∧ x ∉ L.take k) (h8 : (k : Int) < (nL : Int)) (hx10 : L[k]? = some (gt L k)) (h11 : ¬ ((gt L k) = x)) : nL - (k + 1) < nL - k := by
  omega
theorem z_c_laws_rHas_15 (L : List Int) (nL : Nat) (hbdL : (nL : Int) ≤ 9223372036854775807) (hleL : nL = L.length) (x : Int) (k : Nat) (hi7 : k ≤ nL ∧ x ∉ L.take k) (h8 : ¬ ((k : Int) < (nL : Int))) : ¬ (x ∈ L) := by
  first | exact has_yes ‹L[_]? = some _› (by assumption) | exact has_no (And.right ‹_ ∧ _ ∉ L.take _›) (by omega)
theorem c_laws_rHas (w : World) {AL : Option Addr} {nL cL BL : Nat}  (L : List Int) (hL : SlR w BL encI 1 AL nL cL L) (x : Int) : Calls Try.prog 26 #[.slice AL nL cL, .int .i64 x] w fun e w' => e = .returned (.bool (decide (x ∈ L))) ∧ Lo w w' := by
  refine calls_W 18 Try.func26 rfl rfl rfl ?_
  have hbdL := hL.bound
  have hleL := hL.len
  have hBbL := hL.bd
  refine W.seq ?_
  refine W.regS (SR.q' (r_as (v := .bool false) rfl) <| SR.nil ?_)
  refine W.seq ?_
  refine W.seq ?_
  refine W.regS (SR.q' (r_as (v := .int .i64 0) rfl) <| SR.nil ?_)
  refine W.block ?_
  refine W.loop (σ := Nat) (fun g => [(0, .slice AL nL cL), (1, .int .i64 x), (5, .int .i64 (g : Int))]) (fun g w' => (Lo w w') ∧ (SlR w' BL encI 1 AL nL cL L) ∧ (g ≤ nL ∧ x ∉ L.take g)) (fun g => nL - g) 0 ?_ ?_ ?_
  · exact ⟨rfl, rfl, rfl, trivial⟩
  · exact ⟨(Lo.refl w), hL, (z_c_laws_rHas_1 L nL hbdL hleL x)⟩
  · rintro k f2 w3 hP5
    obtain ⟨hB4, hm6, hi7⟩ : (Lo w w3) ∧ (SlR w3 BL encI 1 AL nL cL L) ∧ (k ≤ nL ∧ x ∉ L.take k) := hP5
    refine (?_ : W _ _ _ _ _ (act _ (sets f2 [(0, .slice AL nL cL), (1, .int .i64 x), (5, .int .i64 (k : Int))])) _)
    have hzw3 := hB4.size
    refine W.seq ?_
    refine W.seq ?_
    refine W.regS (SR.q' (r_mv (v := .int .i64 _) rfl) <| SR.q' (r_mv (v := .slice _ _ _) rfl) <| SR.q' (r_len und39 rfl) <| SR.q' (r_lt rfl rfl) <| SR.nil ?_)
    refine W.cond_d rfl (fun h8 => ?_) (fun h8 => ?_)
    · refine W.skip ?_
      refine W.seq ?_
      refine W.block ?_
      refine W.seq ?_
      refine W.regS (SR.q' (r_mv (v := .slice _ _ _) rfl) <| SR.q' (r_mv (v := .int .i64 _) rfl) <| ?_)
      have hx10 := (hm6).elem (i := k) (by omega)
      refine SR.q' (r_ixR tsl39 (hm6) rfl rfl (by omega)) <| SR.q' (r_ld (v := .int .i64 (gt L k)) sca3 rfl ((hm6).cell0 hx10 rfl)) <| SR.q' (r_mv (v := .int .i64 _) rfl) <| SR.q' (r_eq rfl rfl) <| SR.nil ?_
      refine W.cond_d rfl (fun h11 => ?_) (fun h11 => ?_)
      · refine W.seq ?_
        refine W.regS (SR.q' (r_as (v := .bool true) rfl) <| SR.nil ?_)
        refine W.ret ?_
        refine ret1 rfl (v := .bool _) rfl ?_
        exact ⟨eR (eDT (z_c_laws_rHas_12 L nL hbdL hleL x k hi7 h8 hx10 h11)), hB4⟩
      · refine W.skip ?_
        refine W.regS (SR.q' (r_mv (v := .int .i64 _) rfl) <| SR.q' (r_add rfl rfl (by omega)) <| SR.q' (r_as (v := .int .i64 _) rfl) <| SR.nil ?_)
        refine ⟨k + 1, _, rfl, ⟨rfl, rfl, rfl, trivial⟩, ⟨hB4, hm6, ?_⟩, ?_⟩
        · exact (z_c_laws_rHas_13 L nL hbdL hleL x k hi7 h8 hx10 h11)
        · exact (z_c_laws_rHas_14 L nL hbdL hleL x k hi7 h8 hx10 h11)
    · refine W.exit (xin_here ?_)
      refine W.seq ?_
      refine W.regS (SR.q' (r_as (v := .bool false) rfl) <| SR.nil ?_)
      refine W.ret ?_
      refine ret1 rfl (v := .bool _) rfl ?_
      exact ⟨eR (eDF (z_c_laws_rHas_15 L nL hbdL hleL x k hi7 h8)), hB4⟩
end Go.Proofs.Ythgbcadgnihdiaa
