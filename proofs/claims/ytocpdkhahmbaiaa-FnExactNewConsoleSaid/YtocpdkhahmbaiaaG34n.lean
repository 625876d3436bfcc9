/- Walks, printed by a program of this claim's author. -/
import Derived.Test.YtocpdkhahmbaiaaChecked
import Derived.Test.YtocpdkhahmbaiaaUb
import Derived.Test.YtocpdkhahmbaiaaFs
import Derived.Test.YtocpdkhahmbaiaaFq
import Derived.Test.YtocpdkhahmbaiaaYl
namespace Go.Proofs.Ytocpdkhahmbaiaa
open Go Go.RowKit Fw
set_option maxRecDepth 10000
set_option linter.unusedVariables false
theorem mo : Try.prog.follows .mixedOrders = true := by kernel_rfl
theorem agg41 : TAgg Try.prog 41 3 := ⟨fun _ => by kernel_rfl, fun _ => by kernel_rfl⟩
theorem agg59 : TAgg Try.prog 59 2 := ⟨fun _ => by kernel_rfl, fun _ => by kernel_rfl⟩
theorem ent18 : Ent Try.prog 18 := ent_of Try.func18 (by decide +kernel) rfl
theorem ent19 : Ent Try.prog 19 := ent_of Try.func19 (by decide +kernel) rfl
theorem ent20 : Ent Try.prog 20 := ent_of Try.func20 (by decide +kernel) rfl
theorem ent21 : Ent Try.prog 21 := ent_of Try.func21 (by decide +kernel) rfl
theorem ent22 : Ent Try.prog 22 := ent_of Try.func22 (by decide +kernel) rfl
theorem ent23 : Ent Try.prog 23 := ent_of Try.func23 (by decide +kernel) rfl
theorem ent29 : Ent Try.prog 29 := ent_of Try.func29 (by decide +kernel) rfl
theorem ent34 : Ent Try.prog 34 := ent_of Try.func34 (by decide +kernel) rfl
theorem ent35 : Ent Try.prog 35 := ent_of Try.func35 (by decide +kernel) rfl
theorem fa25_0 : FA Try.prog 25 0 0 := fun _ _ => by kernel_rfl
theorem fa25_1 : FA Try.prog 25 1 1 := fun _ _ => by kernel_rfl
theorem fa25_2 : FA Try.prog 25 2 2 := fun _ _ => by kernel_rfl
theorem fa25_3 : FA Try.prog 25 3 3 := fun _ _ => by kernel_rfl
theorem fa25_4 : FA Try.prog 25 4 4 := fun _ _ => by kernel_rfl
theorem fa41_0 : FA Try.prog 41 0 0 := fun _ _ => by kernel_rfl
theorem fa41_1 : FA Try.prog 41 1 1 := fun _ _ => by kernel_rfl
theorem fa41_2 : FA Try.prog 41 2 2 := fun _ _ => by kernel_rfl
theorem fa59_0 : FA Try.prog 59 0 0 := fun _ _ => by kernel_rfl
theorem fa59_1 : FA Try.prog 59 1 1 := fun _ _ => by kernel_rfl
theorem sca22 : TSca Try.prog 22 := ⟨fun _ => by kernel_rfl, fun _ => by kernel_rfl⟩
theorem sca23 : TSca Try.prog 23 := ⟨fun _ => by kernel_rfl, fun _ => by kernel_rfl⟩
theorem sca3 : TSca Try.prog 3 := ⟨fun _ => by kernel_rfl, fun _ => by kernel_rfl⟩
theorem tsl22 : TSl Try.prog 22 41 3 := ⟨by kernel_rfl, fun _ => by kernel_rfl⟩
theorem tsl23 : TSl Try.prog 23 59 2 := ⟨by kernel_rfl, fun _ => by kernel_rfl⟩
theorem und22 : Try.prog.underlying 22 = some (.slice 41) := by kernel_rfl
theorem und23 : Try.prog.underlying 23 = some (.slice 59) := by kernel_rfl

theorem z_c_spec_l1In_8 (n : Int) (a : Int) (b : Int) : ((a ≤ n) ∧ (n ≤ b)) ↔ (a ≤ n ∧ n ≤ b) := by
  omega
theorem c_spec_l1In (w : World) (n : Int) (a : Int) (b : Int) : Calls Try.prog 29 #[.int .i64 n, .int .i64 a, .int .i64 b] w fun e w' => e = .returned (.bool (decide (a ≤ n ∧ n ≤ b))) ∧ Lo w w' := by
  refine calls_W 15 Try.func29 rfl rfl rfl ?_
  refine W.seq ?_
  refine W.regS (SR.q' (r_as (v := .bool false) rfl) <| SR.nil ?_)
  refine W.seq ?_
  refine W.regJS (fun f' w' => At f' [(6, .bool (decide ((a ≤ n) ∧ (n ≤ b))))] ∧ Lo w w') ?_ ?_
  · refine SR.q' (r_mv (v := .int .i64 _) rfl) <| SR.q' (r_mv (v := .int .i64 _) rfl) <| SR.q' (r_ge rfl rfl) <| SR.q' (r_mv (v := .bool _) rfl) <| SR.splitD (fun h1 => ?_) (fun h1 => ?_)
    · refine SR.g' rfl (r_mv (v := .int .i64 _) rfl) <| SR.g' rfl (r_mv (v := .int .i64 _) rfl) <| SR.g' rfl (r_le rfl rfl) <| SR.q' (r_pick true rfl (v := .bool _) rfl) <| SR.q' (r_as (v := .bool _) rfl) <| SR.nil ?_
      exact ⟨_, rfl, ⟨⟨(eDD (jat h1)), trivial⟩, (Lo.refl _)⟩⟩
    · refine SR.s' rfl <| SR.s' rfl <| SR.s' rfl <| SR.q' (r_pick false rfl (v := .bool false) rfl) <| SR.q' (r_as (v := .bool _) rfl) <| SR.nil ?_
      exact ⟨_, rfl, ⟨⟨(eDF (jaf h1).2), trivial⟩, (Lo.refl _)⟩⟩
  rintro f2 w3 ⟨hat4, hk5⟩
  rw [← sets_of_at hat4]
  have hz6 := hk5.size
  have hB7 := (Lo.refl w).lo hk5
  refine W.ret ?_
  refine ret1 rfl (v := .bool _) rfl ?_
  exact ⟨eR (eDD (z_c_spec_l1In_8 n a b)), hB7⟩

theorem z_c_impl_within_8 (n : Int) (a : Int) (b : Int) : ((a ≤ n) ∧ (n ≤ b)) ↔ (a ≤ n ∧ n ≤ b) := by
  omega
theorem c_impl_within (w : World) (n : Int) (a : Int) (b : Int) : Calls Try.prog 10 #[.int .i64 n, .int .i64 a, .int .i64 b] w fun e w' => e = .returned (.bool (decide (a ≤ n ∧ n ≤ b))) ∧ Lo w w' := by
  refine calls_W 15 Try.func10 rfl rfl rfl ?_
  refine W.seq ?_
  refine W.regS (SR.q' (r_as (v := .bool false) rfl) <| SR.nil ?_)
  refine W.seq ?_
  refine W.regJS (fun f' w' => At f' [(6, .bool (decide ((a ≤ n) ∧ (n ≤ b))))] ∧ Lo w w') ?_ ?_
  · refine SR.q' (r_mv (v := .int .i64 _) rfl) <| SR.q' (r_mv (v := .int .i64 _) rfl) <| SR.q' (r_ge rfl rfl) <| SR.q' (r_mv (v := .bool _) rfl) <| SR.splitD (fun h1 => ?_) (fun h1 => ?_)
    · refine SR.g' rfl (r_mv (v := .int .i64 _) rfl) <| SR.g' rfl (r_mv (v := .int .i64 _) rfl) <| SR.g' rfl (r_le rfl rfl) <| SR.q' (r_pick true rfl (v := .bool _) rfl) <| SR.q' (r_as (v := .bool _) rfl) <| SR.nil ?_
      exact ⟨_, rfl, ⟨⟨(eDD (jat h1)), trivial⟩, (Lo.refl _)⟩⟩
    · refine SR.s' rfl <| SR.s' rfl <| SR.s' rfl <| SR.q' (r_pick false rfl (v := .bool false) rfl) <| SR.q' (r_as (v := .bool _) rfl) <| SR.nil ?_
      exact ⟨_, rfl, ⟨⟨(eDF (jaf h1).2), trivial⟩, (Lo.refl _)⟩⟩
  rintro f2 w3 ⟨hat4, hk5⟩
  rw [← sets_of_at hat4]
  have hz6 := hk5.size
  have hB7 := (Lo.refl w).lo hk5
  refine W.ret ?_
  refine ret1 rfl (v := .bool _) rfl ?_
  exact ⟨eR (eDD (z_c_impl_within_8 n a b)), hB7⟩

theorem c_spec_l32Count (w : World) (n : Int) : Calls Try.prog 26 #[.int .i64 n] w fun e w' => e = .returned (.bool (decide (0 ≤ n ∧ n ≤ 9999))) ∧ Lo w w' := by
  refine calls_W 5 Try.func26 rfl rfl rfl ?_
  refine W.seq ?_
  refine W.regS (SR.q' (r_as (v := .bool false) rfl) <| SR.nil ?_)
  refine W.seq ?_
  refine W.regS (SR.q' (r_mv (v := .int .i64 _) rfl) <| SR.call ent29 (c_spec_l1In w n 0 9999) rfl ?_)
  rintro e w1 ⟨rfl, hk2⟩
  refine ⟨_, rfl, ?_⟩
  have hz3 := hk2.size
  have hB4 := (Lo.refl w).lo hk2
  refine SR.q' (r_as (v := .bool _) rfl) <| SR.nil ?_
  refine W.ret ?_
  refine ret1 rfl (v := .bool _) rfl ?_
  exact ⟨eR rfl, hB4⟩

theorem z_c_spec_l1Least_2 (a : Int) (b : Int) (h1 : a < b) : a = min a b := by
  omega
theorem z_c_spec_l1Least_3 (a : Int) (b : Int) (h1 : ¬ (a < b)) : b = min a b := by
  omega
theorem c_spec_l1Least (w : World) (a : Int) (b : Int) : Calls Try.prog 32 #[.int .i64 a, .int .i64 b] w fun e w' => e = .returned (.int .i64 (min a b)) ∧ Lo w w' := by
  refine calls_W 10 Try.func32 rfl rfl rfl ?_
  refine W.seq ?_
  refine W.regS (SR.q' (r_as (v := .int .i64 0) rfl) <| SR.nil ?_)
  refine W.seq ?_
  refine W.seq ?_
  refine W.regS (SR.q' (r_mv (v := .int .i64 _) rfl) <| SR.q' (r_mv (v := .int .i64 _) rfl) <| SR.q' (r_lt rfl rfl) <| SR.nil ?_)
  refine W.cond_d rfl (fun h1 => ?_) (fun h1 => ?_)
  · refine W.seq ?_
    refine W.regS (SR.q' (r_mv (v := .int .i64 _) rfl) <| SR.q' (r_as (v := .int .i64 _) rfl) <| SR.nil ?_)
    refine W.ret ?_
    refine ret1 rfl (v := .int .i64 _) rfl ?_
    exact ⟨eR (eI (z_c_spec_l1Least_2 a b h1)), (Lo.refl w)⟩
  · refine W.skip ?_
    refine W.seq ?_
    refine W.regS (SR.q' (r_mv (v := .int .i64 _) rfl) <| SR.q' (r_as (v := .int .i64 _) rfl) <| SR.nil ?_)
    refine W.ret ?_
    refine ret1 rfl (v := .int .i64 _) rfl ?_
    exact ⟨eR (eI (z_c_spec_l1Least_3 a b h1)), (Lo.refl w)⟩

theorem z_c_laws_eqMap_18 (a : LMap) (b : LMap) (h17 : ¬ (a.Id = b.Id)) : ¬ (a = b) := by
  cases a; cases b; simp_all
theorem z_c_laws_eqMap_20 (a : LMap) (b : LMap) (h17 : a.Id = b.Id) (h19 : ¬ (a.Copies = b.Copies)) : ¬ (a = b) := by
  cases a; cases b; simp_all
theorem z_c_laws_eqMap_22 (a : LMap) (b : LMap) (h17 : a.Id = b.Id) (h19 : a.Copies = b.Copies) (h21 : ¬ (a.Torn = b.Torn)) : ¬ (a = b) := by
  cases a; cases b; simp_all
theorem z_c_laws_eqMap_23 (a : LMap) (b : LMap) (h17 : a.Id = b.Id) (h19 : a.Copies = b.Copies) (h21 : a.Torn = b.Torn) : a = b := by
  cases a; cases b; simp_all
theorem c_laws_eqMap (w : World) (a : LMap) (b : LMap) : Calls Try.prog 34 #[.agg (List.toArray (encLMap a)), .agg (List.toArray (encLMap b))] w fun e w' => e = .returned (.bool (decide (a = b))) ∧ Lo w w' := by
  refine calls_W 20 Try.func34 rfl rfl rfl ?_
  refine W.seq ?_
  refine W.regS (SR.box (v := .agg (List.toArray _)) (l := [.int .i64 a.Id, .int .i64 a.Copies, .int .i64 a.Torn]) rfl rfl ?_)
  intro g1 w2 hg3 hk4 hs5 hb6
  have hz7 := hk4.size
  have hB8 := (Lo.refl w).lo hk4
  refine SR.box (v := .agg (List.toArray _)) (l := [.int .i64 b.Id, .int .i64 b.Copies, .int .i64 b.Torn]) rfl rfl ?_
  intro g9 w10 hg11 hk12 hs13 hb14
  have hz15 := hk12.size
  have hB16 := hB8.lo hk12
  refine SR.q' (r_as (v := .bool false) rfl) <| SR.nil ?_
  refine W.seq ?_
  refine W.seq ?_
  refine W.regS (SR.q' (r_fa fa41_0 rfl) <| SR.q' (r_ld (v := .int .i64 a.Id) sca3 rfl (((hb6).lo hk12).cell rfl)) <| SR.q' (r_fa fa41_0 rfl) <| SR.q' (r_ld (v := .int .i64 b.Id) sca3 rfl ((hb14).cell rfl)) <| SR.q' (r_ne rfl rfl) <| SR.nil ?_)
  refine W.cond_n rfl (fun h17 => ?_) (fun h17 => ?_)
  · refine W.seq ?_
    refine W.regS (SR.q' (r_as (v := .bool false) rfl) <| SR.nil ?_)
    refine W.ret ?_
    refine ret1 rfl (v := .bool _) rfl ?_
    exact ⟨eR (eDF (z_c_laws_eqMap_18 a b h17)), hB16⟩
  · refine W.skip ?_
    refine W.seq ?_
    refine W.seq ?_
    refine W.regS (SR.q' (r_fa fa41_1 rfl) <| SR.q' (r_ld (v := .int .i64 a.Copies) sca3 rfl (((hb6).lo hk12).cell rfl)) <| SR.q' (r_fa fa41_1 rfl) <| SR.q' (r_ld (v := .int .i64 b.Copies) sca3 rfl ((hb14).cell rfl)) <| SR.q' (r_ne rfl rfl) <| SR.nil ?_)
    refine W.cond_n rfl (fun h19 => ?_) (fun h19 => ?_)
    · refine W.seq ?_
      refine W.regS (SR.q' (r_as (v := .bool false) rfl) <| SR.nil ?_)
      refine W.ret ?_
      refine ret1 rfl (v := .bool _) rfl ?_
      exact ⟨eR (eDF (z_c_laws_eqMap_20 a b h17 h19)), hB16⟩
    · refine W.skip ?_
      refine W.seq ?_
      refine W.seq ?_
      refine W.regS (SR.q' (r_fa fa41_2 rfl) <| SR.q' (r_ld (v := .int .i64 a.Torn) sca3 rfl (((hb6).lo hk12).cell rfl)) <| SR.q' (r_fa fa41_2 rfl) <| SR.q' (r_ld (v := .int .i64 b.Torn) sca3 rfl ((hb14).cell rfl)) <| SR.q' (r_ne rfl rfl) <| SR.nil ?_)
      refine W.cond_n rfl (fun h21 => ?_) (fun h21 => ?_)
      · refine W.seq ?_
        refine W.regS (SR.q' (r_as (v := .bool false) rfl) <| SR.nil ?_)
        refine W.ret ?_
        refine ret1 rfl (v := .bool _) rfl ?_
        exact ⟨eR (eDF (z_c_laws_eqMap_22 a b h17 h19 h21)), hB16⟩
      · refine W.skip ?_
        refine W.seq ?_
        refine W.regS (SR.q' (r_as (v := .bool true) rfl) <| SR.nil ?_)
        refine W.ret ?_
        refine ret1 rfl (v := .bool _) rfl ?_
        exact ⟨eR (eDT (z_c_laws_eqMap_23 a b h17 h19 h21)), hB16⟩

theorem z_c_laws_eqMapS_2 (L : List LMap) (nL : Nat) (hbdL : (nL : Int) ≤ 9223372036854775807) (hleL : nL = L.length) (M : List LMap) (nM : Nat) (hbdM : (nM : Int) ≤ 9223372036854775807) (hleM : nM = M.length) (h1 : ¬ ((nL : Int) = (nM : Int))) : ¬ (L = M) := by
  first | (intro e; subst e; omega) | exact ne_at ‹L[_]? = some _› ‹M[_]? = some _› ‹_› | exact take_end (And.right ‹_ ∧ L.take _ = M.take _›) hleL hleM (by omega) ‹_›
theorem z_c_laws_eqMapS_3 (L : List LMap) (nL : Nat) (hbdL : (nL : Int) ≤ 9223372036854775807) (hleL : nL = L.length) (M : List LMap) (nM : Nat) (hbdM : (nM : Int) ≤ 9223372036854775807) (hleM : nM = M.length) (h1 : (nL : Int) = (nM : Int)) : 0 ≤ nL ∧ L.take 0 = M.take 0 := by
  simp
theorem z_c_laws_eqMapS_21 (L : List LMap) (nL : Nat) (hbdL : (nL : Int) ≤ 9223372036854775807) (hleL : nL = L.length) (M : List LMap) (nM : Nat) (hbdM : (nM : Int) ≤ 9223372036854775807) (hleM : nM = M.length) (h1 : (nL : Int) = (nM : Int)) (k : Nat) (hi10 : k ≤ nL ∧ L.take k = M.take k) (h11 : (k : Int) < (nL : Int)) (x12 : LMap) (hx13 : L[k]? = some x12) (x14 : LMap) (hx15 : M[k]? = some x14) (h20 : ¬ (x12 = x14)) : ¬ (L = M) := by
  first | (intro e; subst e; omega) | exact ne_at ‹L[_]? = some _› ‹M[_]? = some _› ‹_› | exact take_end (And.right ‹_ ∧ L.take _ = M.take _›) hleL hleM (by omega) ‹_›
theorem z_c_laws_eqMapS_22 (L : List LMap) (nL : Nat) (hbdL : (nL : Int) ≤ 9223372036854775807) (hleL : nL = L.length) (M : List LMap) (nM : Nat) (hbdM : (nM : Int) ≤ 9223372036854775807) (hleM : nM = M.length) (h1 : (nL : Int) = (nM : Int)) (k : Nat) (hi10 : k ≤ nL ∧ L.take k = M.take k) (h11 : (k : Int) < (nL : Int)) (x12 : LMap) (hx13 : L[k]? = some x12) (x14 : LMap) (hx15 : M[k]? = some x14) (h20 : x12 = x14) : k + 1 ≤ nL ∧ L.take (k + 1) = M.take (k + 1) := by
  exact ⟨by omega, take_next (And.right ‹_ ∧ L.take _ = M.take _›) ‹L[_]? = some _› ‹M[_]? = some _› ‹_›⟩
theorem z_c_laws_eqMapS_23 (L : List LMap) (nL : Nat) (hbdL : (nL : Int) ≤ 9223372036854775807) (hleL : nL = L.length) (M : List LMap) (nM : Nat) (hbdM : (nM : Int) ≤ 9223372036854775807) (hleM : nM = M.length) (h1 : (nL : Int) = (nM : Int)) (k : Nat) (hi10 : k ≤ nL ∧ L.take k = M.take k) (h11 : (k : Int) < (nL : Int)) (x12 : LMap) (hx13 : L[k]? = some x12) (x14 : LMap) (hx15 : M[k]? = some x14) (h20 : x12 = x14) : nL - (k + 1) < nL - k := by
  omega
theorem z_c_laws_eqMapS_24 (L : List LMap) (nL : Nat) (hbdL : (nL : Int) ≤ 9223372036854775807) (hleL : nL = L.length) (M : List LMap) (nM : Nat) (hbdM : (nM : Int) ≤ 9223372036854775807) (hleM : nM = M.length) (h1 : (nL : Int) = (nM : Int)) (k : Nat) (hi10 : k ≤ nL ∧ L.take k = M.take k) (h11 : ¬ ((k : Int) < (nL : Int))) : L = M := by
  first | (intro e; subst e; omega) | exact ne_at ‹L[_]? = some _› ‹M[_]? = some _› ‹_› | exact take_end (And.right ‹_ ∧ L.take _ = M.take _›) hleL hleM (by omega) ‹_›
theorem c_laws_eqMapS (w : World) {AL : Option Addr} {nL cL BL : Nat}  (L : List LMap) (hL : SlR w BL encLMap 3 AL nL cL L) {AM : Option Addr} {nM cM BM : Nat}  (M : List LMap) (hM : SlR w BM encLMap 3 AM nM cM M) : Calls Try.prog 18 #[.slice AL nL cL, .slice AM nM cM] w fun e w' => e = .returned (.bool (decide (L = M))) ∧ Lo w w' := by
  refine calls_W 27 Try.func18 rfl rfl rfl ?_
  have hbdL := hL.bound
  have hleL := hL.len
  have hBbL := hL.bd
  have hbdM := hM.bound
  have hleM := hM.len
  have hBbM := hM.bd
  refine W.seq ?_
  refine W.regS (SR.q' (r_as (v := .bool false) rfl) <| SR.nil ?_)
  refine W.seq ?_
  refine W.seq ?_
  refine W.regS (SR.q' (r_mv (v := .slice _ _ _) rfl) <| SR.q' (r_len und22 rfl) <| SR.q' (r_mv (v := .slice _ _ _) rfl) <| SR.q' (r_len und22 rfl) <| SR.q' (r_ne rfl rfl) <| SR.nil ?_)
  refine W.cond_n rfl (fun h1 => ?_) (fun h1 => ?_)
  · refine W.seq ?_
    refine W.regS (SR.q' (r_as (v := .bool false) rfl) <| SR.nil ?_)
    refine W.ret ?_
    refine ret1 rfl (v := .bool _) rfl ?_
    exact ⟨eR (eDF (z_c_laws_eqMapS_2 L nL hbdL hleL M nM hbdM hleM h1)), (Lo.refl w)⟩
  · refine W.skip ?_
    refine W.seq ?_
    refine W.seq ?_
    refine W.regS (SR.q' (r_as (v := .int .i64 0) rfl) <| SR.nil ?_)
    refine W.block ?_
    refine W.loop (σ := Nat) (fun g => [(0, .slice AL nL cL), (1, .slice AM nM cM), (5, .int .i64 (g : Int))]) (fun g w' => (Lo w w') ∧ (SlR w' BL encLMap 3 AL nL cL L) ∧ (SlR w' BM encLMap 3 AM nM cM M) ∧ (g ≤ nL ∧ L.take g = M.take g)) (fun g => nL - g) 0 ?_ ?_ ?_
    · exact ⟨rfl, rfl, rfl, trivial⟩
    · exact ⟨(Lo.refl w), hL, hM, (z_c_laws_eqMapS_3 L nL hbdL hleL M nM hbdM hleM h1)⟩
    · rintro k f4 w5 hP7
      obtain ⟨hB6, hm8, hm9, hi10⟩ : (Lo w w5) ∧ (SlR w5 BL encLMap 3 AL nL cL L) ∧ (SlR w5 BM encLMap 3 AM nM cM M) ∧ (k ≤ nL ∧ L.take k = M.take k) := hP7
      refine (?_ : W _ _ _ _ _ (act _ (sets f4 [(0, .slice AL nL cL), (1, .slice AM nM cM), (5, .int .i64 (k : Int))])) _)
      have hzw5 := hB6.size
      refine W.seq ?_
      refine W.seq ?_
      refine W.regS (SR.q' (r_mv (v := .int .i64 _) rfl) <| SR.q' (r_mv (v := .slice _ _ _) rfl) <| SR.q' (r_len und22 rfl) <| SR.q' (r_lt rfl rfl) <| SR.nil ?_)
      refine W.cond_d rfl (fun h11 => ?_) (fun h11 => ?_)
      · refine W.skip ?_
        refine W.seq ?_
        refine W.block ?_
        refine W.seq ?_
        refine W.regD mo (by kernel_rfl) (QR.q' (fun w' hw' => r_mv (v := .slice _ _ _) rfl) <| QR.q' (fun w' hw' => r_mv (v := .int .i64 _) rfl) <| ?_)
        obtain ⟨x12, hx13⟩ := (hm8).get (i := k) (by omega)
        refine QR.q' (fun w' hw' => r_ixR tsl22 (((hm8).lo hw')) rfl rfl (by omega)) <| QR.q' (fun w' hw' => r_lda (l := encLMap x12) agg41 rfl (fun _ _ hu => (((hm8).lo hw')).cell hx13 hu) ((((hm8).lo hw')).esz _)) <| QR.q' (fun w' hw' => r_mv (v := .slice _ _ _) rfl) <| QR.q' (fun w' hw' => r_mv (v := .int .i64 _) rfl) <| ?_
        obtain ⟨x14, hx15⟩ := (hm9).get (i := k) (by omega)
        refine QR.q' (fun w' hw' => r_ixR tsl22 (((hm9).lo hw')) rfl rfl (by omega)) <| QR.q' (fun w' hw' => r_lda (l := encLMap x14) agg41 rfl (fun _ _ hu => (((hm9).lo hw')).cell hx15 hu) ((((hm9).lo hw')).esz _)) <| QR.call ent34 (fun w' hw' => (c_laws_eqMap w' x12 x14).mono fun _ _ h => ⟨h.1, hw'.trans h.2⟩) rfl <| QR.q' (fun w' hw' => r_not rfl) <| QR.nil ?_
        intro w16 hk17
        have hz18 := hk17.size
        have hB19 := hB6.lo hk17
        refine W.cond_n rfl (fun h20 => ?_) (fun h20 => ?_)
        · refine W.seq ?_
          refine W.regS (SR.q' (r_as (v := .bool false) rfl) <| SR.nil ?_)
          refine W.ret ?_
          refine ret1 rfl (v := .bool _) rfl ?_
          exact ⟨eR (eDF (z_c_laws_eqMapS_21 L nL hbdL hleL M nM hbdM hleM h1 k hi10 h11 x12 hx13 x14 hx15 h20)), hB19⟩
        · refine W.skip ?_
          refine W.regS (SR.q' (r_mv (v := .int .i64 _) rfl) <| SR.q' (r_add rfl rfl (by omega)) <| SR.q' (r_as (v := .int .i64 _) rfl) <| SR.nil ?_)
          refine ⟨k + 1, _, rfl, ⟨rfl, rfl, rfl, trivial⟩, ⟨hB19, (hm8).lo hk17, (hm9).lo hk17, ?_⟩, ?_⟩
          · exact (z_c_laws_eqMapS_22 L nL hbdL hleL M nM hbdM hleM h1 k hi10 h11 x12 hx13 x14 hx15 h20)
          · exact (z_c_laws_eqMapS_23 L nL hbdL hleL M nM hbdM hleM h1 k hi10 h11 x12 hx13 x14 hx15 h20)
      · refine W.exit (xin_here ?_)
        refine W.seq ?_
        refine W.regS (SR.q' (r_as (v := .bool true) rfl) <| SR.nil ?_)
        refine W.ret ?_
        refine ret1 rfl (v := .bool _) rfl ?_
        exact ⟨eR (eDT (z_c_laws_eqMapS_24 L nL hbdL hleL M nM hbdM hleM h1 k hi10 h11)), hB6⟩

theorem z_c_laws_markMapS_1 (L : List LMap) (nL : Nat) (hbdL : (nL : Int) ≤ 9223372036854775807) (hleL : nL = L.length) (k : Int) (hp0 : 0 ≤ k) (hp1 : k ≤ 1000000000) (hp2 : (nL : Int) ≤ 1048576) : 0 ≤ nL := by
  omega
theorem z_c_laws_markMapS_2 (L : List LMap) (nL : Nat) (hbdL : (nL : Int) ≤ 9223372036854775807) (hleL : nL = L.length) (k : Int) (hp0 : 0 ≤ k) (hp1 : k ≤ 1000000000) (hp2 : (nL : Int) ≤ 1048576) : L = mkL mkLMap 3 0 k ++ L.drop 0 := by
  exact mkL_init
theorem z_c_laws_markMapS_33 (L : List LMap) (nL : Nat) (hbdL : (nL : Int) ≤ 9223372036854775807) (hleL : nL = L.length) (k : Int) (hp0 : 0 ≤ k) (hp1 : k ≤ 1000000000) (hp2 : (nL : Int) ≤ 1048576) (i : Nat) (hi8 : i ≤ nL) (h9 : (i : Int) < (nL : Int)) (x10 : LMap) (hx11 : (mkL mkLMap 3 i k ++ L.drop i)[i]? = some x10) : (mkL mkLMap 3 i k ++ L.drop i).set ((i : Int).toNat) ({ ({ ({ x10 with Id := k + 3 * (i : Int) }) with Copies := (k + 3 * (i : Int)) + 1 }) with Torn := ((k + 3 * (i : Int)) + 1) + 1 }) = mkL mkLMap 3 (i + 1) k ++ L.drop (i + 1) := by
  exact mkL_set (by omega) (by first | (simp [mkLMap]; done) | (simp [mkLMap]; omega))
theorem z_c_laws_markMapS_34 (L : List LMap) (nL : Nat) (hbdL : (nL : Int) ≤ 9223372036854775807) (hleL : nL = L.length) (k : Int) (hp0 : 0 ≤ k) (hp1 : k ≤ 1000000000) (hp2 : (nL : Int) ≤ 1048576) (i : Nat) (hi8 : i ≤ nL) (h9 : (i : Int) < (nL : Int)) (x10 : LMap) (hx11 : (mkL mkLMap 3 i k ++ L.drop i)[i]? = some x10) : i + 1 ≤ nL := by
  omega
theorem z_c_laws_markMapS_35 (L : List LMap) (nL : Nat) (hbdL : (nL : Int) ≤ 9223372036854775807) (hleL : nL = L.length) (k : Int) (hp0 : 0 ≤ k) (hp1 : k ≤ 1000000000) (hp2 : (nL : Int) ≤ 1048576) (i : Nat) (hi8 : i ≤ nL) (h9 : (i : Int) < (nL : Int)) (x10 : LMap) (hx11 : (mkL mkLMap 3 i k ++ L.drop i)[i]? = some x10) : nL - (i + 1) < nL - i := by
  omega
theorem z_c_laws_markMapS_36 (L : List LMap) (nL : Nat) (hbdL : (nL : Int) ≤ 9223372036854775807) (hleL : nL = L.length) (k : Int) (hp0 : 0 ≤ k) (hp1 : k ≤ 1000000000) (hp2 : (nL : Int) ≤ 1048576) (i : Nat) (hi8 : i ≤ nL) (h9 : ¬ ((i : Int) < (nL : Int))) : k + 3 * (i : Int) = k + 3 * (L.length : Int) := by
  first | omega | exact mkL_end hleL (by assumption) (by omega)
theorem z_c_laws_markMapS_37 (L : List LMap) (nL : Nat) (hbdL : (nL : Int) ≤ 9223372036854775807) (hleL : nL = L.length) (k : Int) (hp0 : 0 ≤ k) (hp1 : k ≤ 1000000000) (hp2 : (nL : Int) ≤ 1048576) (i : Nat) (hi8 : i ≤ nL) (h9 : ¬ ((i : Int) < (nL : Int))) : mkL mkLMap 3 i k ++ L.drop i = mkL mkLMap 3 L.length k := by
  first | omega | exact mkL_end hleL (by assumption) (by omega)
theorem c_laws_markMapS (w : World) {AL : Option Addr} {nL cL BL : Nat}  (L : List LMap) (hL : SlO w BL encLMap 3 41 AL nL cL L) (k : Int) (hp0 : 0 ≤ k) (hp1 : k ≤ 1000000000) (hp2 : (nL : Int) ≤ 1048576) : Calls Try.prog 20 #[.slice AL nL cL, .int .i64 k] w fun e w' => e = .returned (.int .i64 (k + 3 * (L.length : Int))) ∧ SlO w' BL encLMap 3 41 AL nL cL (mkL mkLMap 3 L.length k) ∧ Kp (fun b_ => AL = some ⟨b_, 0, none⟩) w w' := by
  refine calls_W 34 Try.func20 rfl rfl rfl ?_
  have hbdL := hL.rd.bound
  have hleL := hL.len
  have hBbL := hL.bd
  refine W.seq ?_
  refine W.regS (SR.q' (r_as (v := .int .i64 0) rfl) <| SR.nil ?_)
  refine W.seq ?_
  refine W.seq ?_
  refine W.regS (SR.q' (r_as (v := .int .i64 0) rfl) <| SR.nil ?_)
  refine W.block ?_
  refine W.loop (σ := Nat) (fun g => [(0, .slice AL nL cL), (1, .int .i64 (k + 3 * (g : Int))), (4, .int .i64 0), (5, .int .i64 (g : Int))]) (fun g w' => (Kp (fun b_ => AL = some ⟨b_, 0, none⟩) w w') ∧ (SlO w' BL encLMap 3 41 AL nL cL (mkL mkLMap 3 g k ++ L.drop g)) ∧ (g ≤ nL)) (fun g => nL - g) 0 ?_ ?_ ?_
  · exact ⟨rfl, (eI (by first | omega | (dsimp only; omega))), rfl, (eI (by first | omega | (dsimp only; omega))), trivial⟩
  · exact ⟨(Kp.refl w : Kp (fun b_ => AL = some ⟨b_, 0, none⟩) w w), (SlO.eqv (hL) (z_c_laws_markMapS_2 L nL hbdL hleL k hp0 hp1 hp2)), (z_c_laws_markMapS_1 L nL hbdL hleL k hp0 hp1 hp2)⟩
  · rintro i f3 w4 hP6
    obtain ⟨hB5, hm7, hi8⟩ : (Kp (fun b_ => AL = some ⟨b_, 0, none⟩) w w4) ∧ (SlO w4 BL encLMap 3 41 AL nL cL (mkL mkLMap 3 i k ++ L.drop i)) ∧ (i ≤ nL) := hP6
    refine (?_ : W _ _ _ _ _ (act _ (sets f3 [(0, .slice AL nL cL), (1, .int .i64 (k + 3 * (i : Int))), (4, .int .i64 0), (5, .int .i64 (i : Int))])) _)
    have hzw4 := hB5.size
    refine W.seq ?_
    refine W.seq ?_
    refine W.regS (SR.q' (r_mv (v := .int .i64 _) rfl) <| SR.q' (r_mv (v := .slice _ _ _) rfl) <| SR.q' (r_len und22 rfl) <| SR.q' (r_lt rfl rfl) <| SR.nil ?_)
    refine W.cond_d rfl (fun h9 => ?_) (fun h9 => ?_)
    · refine W.skip ?_
      refine W.seq ?_
      refine W.block ?_
      refine W.seq ?_
      refine W.regS (SR.q' (r_mv (v := .slice _ _ _) rfl) <| SR.q' (r_mv (v := .int .i64 _) rfl) <| SR.q' (r_mv (v := .int .i64 _) rfl) <| ?_)
      obtain ⟨x10, hx11⟩ := ((hm7).rd).get (i := i) (by omega)
      refine SR.q' (r_ixR tsl22 ((hm7).rd) rfl rfl (by omega)) <| SR.q' (r_fa fa41_0 rfl) <| SR.storeO (o := 0) (vs := [.int .i64 (k + 3 * (i : Int))]) (x1 := { x10 with Id := k + 3 * (i : Int) }) sca3.2 rfl (add_add _ _ _) rfl rfl (hm7) hx11 rfl (Nat.le_of_ble_eq_true rfl) rfl ?_
      intro w12 hk13 hs14 hO15
      have hz16 := hk13.size
      have hB17 := hB5.step hk13 (fun i_ hi_ e' => by have := ((hm7)).base_le e'; first | omega | (exfalso; omega) | exact e' | exact .inl e' | exact .inr e')
      have hx18 : ((mkL mkLMap 3 i k ++ L.drop i).set ((i : Int).toNat) ({ x10 with Id := k + 3 * (i : Int) }))[(i : Int).toNat]? = some ({ x10 with Id := k + 3 * (i : Int) }) := List.getElem?_set_self (List.getElem?_eq_some_iff.1 hx11).1
      refine SR.nil ?_
      refine W.seq ?_
      refine W.regS (SR.q' (r_mv (v := .int .i64 _) rfl) <| SR.q' (r_add rfl rfl (by omega)) <| SR.q' (r_as (v := .int .i64 _) rfl) <| SR.nil ?_)
      refine W.seq ?_
      refine W.regS (SR.q' (r_mv (v := .slice _ _ _) rfl) <| SR.q' (r_mv (v := .int .i64 _) rfl) <| SR.q' (r_mv (v := .int .i64 _) rfl) <| SR.q' (r_ixR tsl22 ((hO15).rd) rfl rfl (by omega)) <| SR.q' (r_fa fa41_1 rfl) <| SR.storeO (o := 1) (vs := [.int .i64 ((k + 3 * (i : Int)) + 1)]) (x1 := { ({ x10 with Id := k + 3 * (i : Int) }) with Copies := (k + 3 * (i : Int)) + 1 }) sca3.2 rfl (add_add _ _ _) rfl rfl (hO15) hx18 rfl (Nat.le_of_ble_eq_true rfl) rfl ?_)
      intro w19 hk20 hs21 hO22
      have hz23 := hk20.size
      have hB24 := hB17.step hk20 (fun i_ hi_ e' => by have := ((hO15)).base_le e'; first | omega | (exfalso; omega) | exact e' | exact .inl e' | exact .inr e')
      rw [List.set_set] at hO22
      have hx25 : ((mkL mkLMap 3 i k ++ L.drop i).set ((i : Int).toNat) ({ ({ x10 with Id := k + 3 * (i : Int) }) with Copies := (k + 3 * (i : Int)) + 1 }))[(i : Int).toNat]? = some ({ ({ x10 with Id := k + 3 * (i : Int) }) with Copies := (k + 3 * (i : Int)) + 1 }) := List.getElem?_set_self (List.getElem?_eq_some_iff.1 hx11).1
      refine SR.nil ?_
      refine W.seq ?_
      refine W.regS (SR.q' (r_mv (v := .int .i64 _) rfl) <| SR.q' (r_add rfl rfl (by omega)) <| SR.q' (r_as (v := .int .i64 _) rfl) <| SR.nil ?_)
      refine W.seq ?_
      refine W.regS (SR.q' (r_mv (v := .slice _ _ _) rfl) <| SR.q' (r_mv (v := .int .i64 _) rfl) <| SR.q' (r_mv (v := .int .i64 _) rfl) <| SR.q' (r_ixR tsl22 ((hO22).rd) rfl rfl (by omega)) <| SR.q' (r_fa fa41_2 rfl) <| SR.storeO (o := 2) (vs := [.int .i64 (((k + 3 * (i : Int)) + 1) + 1)]) (x1 := { ({ ({ x10 with Id := k + 3 * (i : Int) }) with Copies := (k + 3 * (i : Int)) + 1 }) with Torn := ((k + 3 * (i : Int)) + 1) + 1 }) sca3.2 rfl (add_add _ _ _) rfl rfl (hO22) hx25 rfl (Nat.le_of_ble_eq_true rfl) rfl ?_)
      intro w26 hk27 hs28 hO29
      have hz30 := hk27.size
      have hB31 := hB24.step hk27 (fun i_ hi_ e' => by have := ((hO22)).base_le e'; first | omega | (exfalso; omega) | exact e' | exact .inl e' | exact .inr e')
      rw [List.set_set] at hO29
      have hx32 : ((mkL mkLMap 3 i k ++ L.drop i).set ((i : Int).toNat) ({ ({ ({ x10 with Id := k + 3 * (i : Int) }) with Copies := (k + 3 * (i : Int)) + 1 }) with Torn := ((k + 3 * (i : Int)) + 1) + 1 }))[(i : Int).toNat]? = some ({ ({ ({ x10 with Id := k + 3 * (i : Int) }) with Copies := (k + 3 * (i : Int)) + 1 }) with Torn := ((k + 3 * (i : Int)) + 1) + 1 }) := List.getElem?_set_self (List.getElem?_eq_some_iff.1 hx11).1
      refine SR.nil ?_
      refine W.regS (SR.q' (r_mv (v := .int .i64 _) rfl) <| SR.q' (r_add rfl rfl (by omega)) <| SR.q' (r_as (v := .int .i64 _) rfl) <| SR.nil ?_)
      refine W.regS (SR.q' (r_mv (v := .int .i64 _) rfl) <| SR.q' (r_add rfl rfl (by omega)) <| SR.q' (r_as (v := .int .i64 _) rfl) <| SR.nil ?_)
      refine ⟨i + 1, _, rfl, ⟨rfl, (eI (by first | omega | (dsimp only; omega))), rfl, (eI (by first | omega | (dsimp only; omega))), trivial⟩, ⟨hB31, (SlO.eqv (hO29) (z_c_laws_markMapS_33 L nL hbdL hleL k hp0 hp1 hp2 i hi8 h9 x10 hx11)), ?_⟩, ?_⟩
      · exact (z_c_laws_markMapS_34 L nL hbdL hleL k hp0 hp1 hp2 i hi8 h9 x10 hx11)
      · exact (z_c_laws_markMapS_35 L nL hbdL hleL k hp0 hp1 hp2 i hi8 h9 x10 hx11)
    · refine W.exit (xin_here ?_)
      refine W.seq ?_
      refine W.regS (SR.q' (r_mv (v := .int .i64 _) rfl) <| SR.q' (r_as (v := .int .i64 _) rfl) <| SR.nil ?_)
      refine W.ret ?_
      refine ret1 rfl (v := .int .i64 _) rfl ?_
      exact ⟨eR (eI (z_c_laws_markMapS_36 L nL hbdL hleL k hp0 hp1 hp2 i hi8 h9)), (SlO.eqv (hm7) (z_c_laws_markMapS_37 L nL hbdL hleL k hp0 hp1 hp2 i hi8 h9)), hB5⟩

theorem z_c_laws_heldMapS_1 (L : List LMap) (nL : Nat) (hbdL : (nL : Int) ≤ 9223372036854775807) (hleL : nL = L.length) (k : Int) (m : Nat) (hp0 : 0 ≤ k) (hp1 : k ≤ 1000000000) (hp2 : (nL : Int) ≤ 1048576) (hp3 : L = mkL mkLMap 3 m k) : 0 ≤ nL := by
  omega
theorem z_c_laws_heldMapS_12 (L : List LMap) (nL : Nat) (hbdL : (nL : Int) ≤ 9223372036854775807) (hleL : nL = L.length) (k : Int) (m : Nat) (hp0 : 0 ≤ k) (hp1 : k ≤ 1000000000) (hp2 : (nL : Int) ≤ 1048576) (hp3 : L = mkL mkLMap 3 m k) (i : Nat) (hi7 : i ≤ nL) (h8 : (i : Int) < (nL : Int)) (x9 : LMap) (hx10 : L[i]? = some x9) (h11 : ¬ (x9.Id = (k + 3 * (i : Int)))) : (-1) = k + 3 * (m : Int) := by
  first | omega | (rw [hp3, mkL_len] at hleL; omega) | (exfalso; subst hp3; obtain rfl := mkL_get ‹_[_]? = some _›; first | (simp_all [mkLMap]; done) | (simp only [mkLMap] at *; omega))
theorem z_c_laws_heldMapS_14 (L : List LMap) (nL : Nat) (hbdL : (nL : Int) ≤ 9223372036854775807) (hleL : nL = L.length) (k : Int) (m : Nat) (hp0 : 0 ≤ k) (hp1 : k ≤ 1000000000) (hp2 : (nL : Int) ≤ 1048576) (hp3 : L = mkL mkLMap 3 m k) (i : Nat) (hi7 : i ≤ nL) (h8 : (i : Int) < (nL : Int)) (x9 : LMap) (hx10 : L[i]? = some x9) (h11 : x9.Id = (k + 3 * (i : Int))) (h13 : ¬ (x9.Copies = ((k + 3 * (i : Int)) + 1))) : (-1) = k + 3 * (m : Int) := by
  first | omega | (rw [hp3, mkL_len] at hleL; omega) | (exfalso; subst hp3; obtain rfl := mkL_get ‹_[_]? = some _›; first | (simp_all [mkLMap]; done) | (simp only [mkLMap] at *; omega))
theorem z_c_laws_heldMapS_16 (L : List LMap) (nL : Nat) (hbdL : (nL : Int) ≤ 9223372036854775807) (hleL : nL = L.length) (k : Int) (m : Nat) (hp0 : 0 ≤ k) (hp1 : k ≤ 1000000000) (hp2 : (nL : Int) ≤ 1048576) (hp3 : L = mkL mkLMap 3 m k) (i : Nat) (hi7 : i ≤ nL) (h8 : (i : Int) < (nL : Int)) (x9 : LMap) (hx10 : L[i]? = some x9) (h11 : x9.Id = (k + 3 * (i : Int))) (h13 : x9.Copies = ((k + 3 * (i : Int)) + 1)) (h15 : ¬ (x9.Torn = (((k + 3 * (i : Int)) + 1) + 1))) : (-1) = k + 3 * (m : Int) := by
  first | omega | (rw [hp3, mkL_len] at hleL; omega) | (exfalso; subst hp3; obtain rfl := mkL_get ‹_[_]? = some _›; first | (simp_all [mkLMap]; done) | (simp only [mkLMap] at *; omega))
theorem z_c_laws_heldMapS_17 (L : List LMap) (nL : Nat) (hbdL : (nL : Int) ≤ 9223372036854775807) (hleL : nL = L.length) (k : Int) (m : Nat) (hp0 : 0 ≤ k) (hp1 : k ≤ 1000000000) (hp2 : (nL : Int) ≤ 1048576) (hp3 : L = mkL mkLMap 3 m k) (i : Nat) (hi7 : i ≤ nL) (h8 : (i : Int) < (nL : Int)) (x9 : LMap) (hx10 : L[i]? = some x9) (h11 : x9.Id = (k + 3 * (i : Int))) (h13 : x9.Copies = ((k + 3 * (i : Int)) + 1)) (h15 : x9.Torn = (((k + 3 * (i : Int)) + 1) + 1)) : i + 1 ≤ nL := by
  omega
theorem z_c_laws_heldMapS_18 (L : List LMap) (nL : Nat) (hbdL : (nL : Int) ≤ 9223372036854775807) (hleL : nL = L.length) (k : Int) (m : Nat) (hp0 : 0 ≤ k) (hp1 : k ≤ 1000000000) (hp2 : (nL : Int) ≤ 1048576) (hp3 : L = mkL mkLMap 3 m k) (i : Nat) (hi7 : i ≤ nL) (h8 : (i : Int) < (nL : Int)) (x9 : LMap) (hx10 : L[i]? = some x9) (h11 : x9.Id = (k + 3 * (i : Int))) (h13 : x9.Copies = ((k + 3 * (i : Int)) + 1)) (h15 : x9.Torn = (((k + 3 * (i : Int)) + 1) + 1)) : nL - (i + 1) < nL - i := by
  omega
theorem z_c_laws_heldMapS_19 (L : List LMap) (nL : Nat) (hbdL : (nL : Int) ≤ 9223372036854775807) (hleL : nL = L.length) (k : Int) (m : Nat) (hp0 : 0 ≤ k) (hp1 : k ≤ 1000000000) (hp2 : (nL : Int) ≤ 1048576) (hp3 : L = mkL mkLMap 3 m k) (i : Nat) (hi7 : i ≤ nL) (h8 : ¬ ((i : Int) < (nL : Int))) : k + 3 * (i : Int) = k + 3 * (m : Int) := by
  first | omega | (rw [hp3, mkL_len] at hleL; omega) | (exfalso; subst hp3; obtain rfl := mkL_get ‹_[_]? = some _›; first | (simp_all [mkLMap]; done) | (simp only [mkLMap] at *; omega))
theorem c_laws_heldMapS (w : World) {AL : Option Addr} {nL cL BL : Nat}  (L : List LMap) (hL : SlR w BL encLMap 3 AL nL cL L) (k : Int) (m : Nat) (hp0 : 0 ≤ k) (hp1 : k ≤ 1000000000) (hp2 : (nL : Int) ≤ 1048576) (hp3 : L = mkL mkLMap 3 m k) : Calls Try.prog 22 #[.slice AL nL cL, .int .i64 k] w fun e w' => e = .returned (.int .i64 (k + 3 * (m : Int))) ∧ Lo w w' := by
  refine calls_W 40 Try.func22 rfl rfl rfl ?_
  have hbdL := hL.bound
  have hleL := hL.len
  have hBbL := hL.bd
  refine W.seq ?_
  refine W.regS (SR.q' (r_as (v := .int .i64 0) rfl) <| SR.nil ?_)
  refine W.seq ?_
  refine W.seq ?_
  refine W.regS (SR.q' (r_as (v := .int .i64 0) rfl) <| SR.nil ?_)
  refine W.block ?_
  refine W.loop (σ := Nat) (fun g => [(0, .slice AL nL cL), (1, .int .i64 (k + 3 * (g : Int))), (5, .int .i64 (g : Int))]) (fun g w' => (Lo w w') ∧ (SlR w' BL encLMap 3 AL nL cL L) ∧ (g ≤ nL)) (fun g => nL - g) 0 ?_ ?_ ?_
  · exact ⟨rfl, (eI (by first | omega | (dsimp only; omega))), (eI (by first | omega | (dsimp only; omega))), trivial⟩
  · exact ⟨(Lo.refl w), hL, (z_c_laws_heldMapS_1 L nL hbdL hleL k m hp0 hp1 hp2 hp3)⟩
  · rintro i f2 w3 hP5
    obtain ⟨hB4, hm6, hi7⟩ : (Lo w w3) ∧ (SlR w3 BL encLMap 3 AL nL cL L) ∧ (i ≤ nL) := hP5
    refine (?_ : W _ _ _ _ _ (act _ (sets f2 [(0, .slice AL nL cL), (1, .int .i64 (k + 3 * (i : Int))), (5, .int .i64 (i : Int))])) _)
    have hzw3 := hB4.size
    refine W.seq ?_
    refine W.seq ?_
    refine W.regS (SR.q' (r_mv (v := .int .i64 _) rfl) <| SR.q' (r_mv (v := .slice _ _ _) rfl) <| SR.q' (r_len und22 rfl) <| SR.q' (r_lt rfl rfl) <| SR.nil ?_)
    refine W.cond_d rfl (fun h8 => ?_) (fun h8 => ?_)
    · refine W.skip ?_
      refine W.seq ?_
      refine W.block ?_
      refine W.seq ?_
      refine W.seq ?_
      refine W.regS (SR.q' (r_mv (v := .slice _ _ _) rfl) <| SR.q' (r_mv (v := .int .i64 _) rfl) <| ?_)
      obtain ⟨x9, hx10⟩ := (hm6).get (i := i) (by omega)
      refine SR.q' (r_ixR tsl22 (hm6) rfl rfl (by omega)) <| SR.q' (r_fa fa41_0 rfl) <| SR.q' (r_ld (v := .int .i64 x9.Id) sca3 rfl ((hm6).cell hx10 rfl)) <| SR.q' (r_mv (v := .int .i64 _) rfl) <| SR.q' (r_ne rfl rfl) <| SR.nil ?_
      refine W.cond_n rfl (fun h11 => ?_) (fun h11 => ?_)
      · refine W.seq ?_
        refine W.regS (SR.q' (r_as (v := .int .i64 (-1)) rfl) <| SR.nil ?_)
        refine W.ret ?_
        refine ret1 rfl (v := .int .i64 _) rfl ?_
        exact ⟨eR (eI (z_c_laws_heldMapS_12 L nL hbdL hleL k m hp0 hp1 hp2 hp3 i hi7 h8 x9 hx10 h11)), hB4⟩
      · refine W.skip ?_
        refine W.seq ?_
        refine W.regS (SR.q' (r_mv (v := .int .i64 _) rfl) <| SR.q' (r_add rfl rfl (by omega)) <| SR.q' (r_as (v := .int .i64 _) rfl) <| SR.nil ?_)
        refine W.seq ?_
        refine W.seq ?_
        refine W.regS (SR.q' (r_mv (v := .slice _ _ _) rfl) <| SR.q' (r_mv (v := .int .i64 _) rfl) <| SR.q' (r_ixR tsl22 (hm6) rfl rfl (by omega)) <| SR.q' (r_fa fa41_1 rfl) <| SR.q' (r_ld (v := .int .i64 x9.Copies) sca3 rfl ((hm6).cell hx10 rfl)) <| SR.q' (r_mv (v := .int .i64 _) rfl) <| SR.q' (r_ne rfl rfl) <| SR.nil ?_)
        refine W.cond_n rfl (fun h13 => ?_) (fun h13 => ?_)
        · refine W.seq ?_
          refine W.regS (SR.q' (r_as (v := .int .i64 (-1)) rfl) <| SR.nil ?_)
          refine W.ret ?_
          refine ret1 rfl (v := .int .i64 _) rfl ?_
          exact ⟨eR (eI (z_c_laws_heldMapS_14 L nL hbdL hleL k m hp0 hp1 hp2 hp3 i hi7 h8 x9 hx10 h11 h13)), hB4⟩
        · refine W.skip ?_
          refine W.seq ?_
          refine W.regS (SR.q' (r_mv (v := .int .i64 _) rfl) <| SR.q' (r_add rfl rfl (by omega)) <| SR.q' (r_as (v := .int .i64 _) rfl) <| SR.nil ?_)
          refine W.seq ?_
          refine W.seq ?_
          refine W.regS (SR.q' (r_mv (v := .slice _ _ _) rfl) <| SR.q' (r_mv (v := .int .i64 _) rfl) <| SR.q' (r_ixR tsl22 (hm6) rfl rfl (by omega)) <| SR.q' (r_fa fa41_2 rfl) <| SR.q' (r_ld (v := .int .i64 x9.Torn) sca3 rfl ((hm6).cell hx10 rfl)) <| SR.q' (r_mv (v := .int .i64 _) rfl) <| SR.q' (r_ne rfl rfl) <| SR.nil ?_)
          refine W.cond_n rfl (fun h15 => ?_) (fun h15 => ?_)
          · refine W.seq ?_
            refine W.regS (SR.q' (r_as (v := .int .i64 (-1)) rfl) <| SR.nil ?_)
            refine W.ret ?_
            refine ret1 rfl (v := .int .i64 _) rfl ?_
            exact ⟨eR (eI (z_c_laws_heldMapS_16 L nL hbdL hleL k m hp0 hp1 hp2 hp3 i hi7 h8 x9 hx10 h11 h13 h15)), hB4⟩
          · refine W.skip ?_
            refine W.regS (SR.q' (r_mv (v := .int .i64 _) rfl) <| SR.q' (r_add rfl rfl (by omega)) <| SR.q' (r_as (v := .int .i64 _) rfl) <| SR.nil ?_)
            refine W.regS (SR.q' (r_mv (v := .int .i64 _) rfl) <| SR.q' (r_add rfl rfl (by omega)) <| SR.q' (r_as (v := .int .i64 _) rfl) <| SR.nil ?_)
            refine ⟨i + 1, _, rfl, ⟨rfl, (eI (by first | omega | (dsimp only; omega))), (eI (by first | omega | (dsimp only; omega))), trivial⟩, ⟨hB4, hm6, ?_⟩, ?_⟩
            · exact (z_c_laws_heldMapS_17 L nL hbdL hleL k m hp0 hp1 hp2 hp3 i hi7 h8 x9 hx10 h11 h13 h15)
            · exact (z_c_laws_heldMapS_18 L nL hbdL hleL k m hp0 hp1 hp2 hp3 i hi7 h8 x9 hx10 h11 h13 h15)
    · refine W.exit (xin_here ?_)
      refine W.seq ?_
      refine W.regS (SR.q' (r_mv (v := .int .i64 _) rfl) <| SR.q' (r_as (v := .int .i64 _) rfl) <| SR.nil ?_)
      refine W.ret ?_
      refine ret1 rfl (v := .int .i64 _) rfl ?_
      exact ⟨eR (eI (z_c_laws_heldMapS_19 L nL hbdL hleL k m hp0 hp1 hp2 hp3 i hi7 h8)), hB4⟩

theorem z_c_laws_eqAway_18 (a : Away) (b : Away) (h17 : ¬ (a.Map = b.Map)) : ¬ (a = b) := by
  cases a; cases b; simp_all
theorem z_c_laws_eqAway_20 (a : Away) (b : Away) (h17 : a.Map = b.Map) (h19 : ¬ (a.Reader = b.Reader)) : ¬ (a = b) := by
  cases a; cases b; simp_all
theorem z_c_laws_eqAway_21 (a : Away) (b : Away) (h17 : a.Map = b.Map) (h19 : a.Reader = b.Reader) : a = b := by
  cases a; cases b; simp_all
theorem c_laws_eqAway (w : World) (a : Away) (b : Away) : Calls Try.prog 35 #[.agg (List.toArray (encAway a)), .agg (List.toArray (encAway b))] w fun e w' => e = .returned (.bool (decide (a = b))) ∧ Lo w w' := by
  refine calls_W 15 Try.func35 rfl rfl rfl ?_
  refine W.seq ?_
  refine W.regS (SR.box (v := .agg (List.toArray _)) (l := [.int .i64 a.Map, .int .i64 a.Reader]) rfl rfl ?_)
  intro g1 w2 hg3 hk4 hs5 hb6
  have hz7 := hk4.size
  have hB8 := (Lo.refl w).lo hk4
  refine SR.box (v := .agg (List.toArray _)) (l := [.int .i64 b.Map, .int .i64 b.Reader]) rfl rfl ?_
  intro g9 w10 hg11 hk12 hs13 hb14
  have hz15 := hk12.size
  have hB16 := hB8.lo hk12
  refine SR.q' (r_as (v := .bool false) rfl) <| SR.nil ?_
  refine W.seq ?_
  refine W.seq ?_
  refine W.regS (SR.q' (r_fa fa59_0 rfl) <| SR.q' (r_ld (v := .int .i64 a.Map) sca3 rfl (((hb6).lo hk12).cell rfl)) <| SR.q' (r_fa fa59_0 rfl) <| SR.q' (r_ld (v := .int .i64 b.Map) sca3 rfl ((hb14).cell rfl)) <| SR.q' (r_ne rfl rfl) <| SR.nil ?_)
  refine W.cond_n rfl (fun h17 => ?_) (fun h17 => ?_)
  · refine W.seq ?_
    refine W.regS (SR.q' (r_as (v := .bool false) rfl) <| SR.nil ?_)
    refine W.ret ?_
    refine ret1 rfl (v := .bool _) rfl ?_
    exact ⟨eR (eDF (z_c_laws_eqAway_18 a b h17)), hB16⟩
  · refine W.skip ?_
    refine W.seq ?_
    refine W.seq ?_
    refine W.regS (SR.q' (r_fa fa59_1 rfl) <| SR.q' (r_ld (v := .int .i64 a.Reader) sca3 rfl (((hb6).lo hk12).cell rfl)) <| SR.q' (r_fa fa59_1 rfl) <| SR.q' (r_ld (v := .int .i64 b.Reader) sca3 rfl ((hb14).cell rfl)) <| SR.q' (r_ne rfl rfl) <| SR.nil ?_)
    refine W.cond_n rfl (fun h19 => ?_) (fun h19 => ?_)
    · refine W.seq ?_
      refine W.regS (SR.q' (r_as (v := .bool false) rfl) <| SR.nil ?_)
      refine W.ret ?_
      refine ret1 rfl (v := .bool _) rfl ?_
      exact ⟨eR (eDF (z_c_laws_eqAway_20 a b h17 h19)), hB16⟩
    · refine W.skip ?_
      refine W.seq ?_
      refine W.regS (SR.q' (r_as (v := .bool true) rfl) <| SR.nil ?_)
      refine W.ret ?_
      refine ret1 rfl (v := .bool _) rfl ?_
      exact ⟨eR (eDT (z_c_laws_eqAway_21 a b h17 h19)), hB16⟩

theorem z_c_laws_eqAwayS_2 (L : List Away) (nL : Nat) (hbdL : (nL : Int) ≤ 9223372036854775807) (hleL : nL = L.length) (M : List Away) (nM : Nat) (hbdM : (nM : Int) ≤ 9223372036854775807) (hleM : nM = M.length) (h1 : ¬ ((nL : Int) = (nM : Int))) : ¬ (L = M) := by
  first | (intro e; subst e; omega) | exact ne_at ‹L[_]? = some _› ‹M[_]? = some _› ‹_› | exact take_end (And.right ‹_ ∧ L.take _ = M.take _›) hleL hleM (by omega) ‹_›
theorem z_c_laws_eqAwayS_3 (L : List Away) (nL : Nat) (hbdL : (nL : Int) ≤ 9223372036854775807) (hleL : nL = L.length) (M : List Away) (nM : Nat) (hbdM : (nM : Int) ≤ 9223372036854775807) (hleM : nM = M.length) (h1 : (nL : Int) = (nM : Int)) : 0 ≤ nL ∧ L.take 0 = M.take 0 := by
  simp
theorem z_c_laws_eqAwayS_21 (L : List Away) (nL : Nat) (hbdL : (nL : Int) ≤ 9223372036854775807) (hleL : nL = L.length) (M : List Away) (nM : Nat) (hbdM : (nM : Int) ≤ 9223372036854775807) (hleM : nM = M.length) (h1 : (nL : Int) = (nM : Int)) (k : Nat) (hi10 : k ≤ nL ∧ L.take k = M.take k) (h11 : (k : Int) < (nL : Int)) (x12 : Away) (hx13 : L[k]? = some x12) (x14 : Away) (hx15 : M[k]? = some x14) (h20 : ¬ (x12 = x14)) : ¬ (L = M) := by
  first | (intro e; subst e; omega) | exact ne_at ‹L[_]? = some _› ‹M[_]? = some _› ‹_› | exact take_end (And.right ‹_ ∧ L.take _ = M.take _›) hleL hleM (by omega) ‹_›
theorem z_c_laws_eqAwayS_22 (L : List Away) (nL : Nat) (hbdL : (nL : Int) ≤ 9223372036854775807) (hleL : nL = L.length) (M : List Away) (nM : Nat) (hbdM : (nM : Int) ≤ 9223372036854775807) (hleM : nM = M.length) (h1 : (nL : Int) = (nM : Int)) (k : Nat) (hi10 : k ≤ nL ∧ L.take k = M.take k) (h11 : (k : Int) < (nL : Int)) (x12 : Away) (hx13 : L[k]? = some x12) (x14 : Away) (hx15 : M[k]? = some x14) (h20 : x12 = x14) : k + 1 ≤ nL ∧ L.take (k + 1) = M.take (k + 1) := by
  exact ⟨by omega, take_next (And.right ‹_ ∧ L.take _ = M.take _›) ‹L[_]? = some _› ‹M[_]? = some _› ‹_›⟩
theorem z_c_laws_eqAwayS_23 (L : List Away) (nL : Nat) (hbdL : (nL : Int) ≤ 9223372036854775807) (hleL : nL = L.length) (M : List Away) (nM : Nat) (hbdM : (nM : Int) ≤ 9223372036854775807) (hleM : nM = M.length) (h1 : (nL : Int) = (nM : Int)) (k : Nat) (hi10 : k ≤ nL ∧ L.take k = M.take k) (h11 : (k : Int) < (nL : Int)) (x12 : Away) (hx13 : L[k]? = some x12) (x14 : Away) (hx15 : M[k]? = some x14) (h20 : x12 = x14) : nL - (k + 1) < nL - k := by
  omega
theorem z_c_laws_eqAwayS_24 (L : List Away) (nL : Nat) (hbdL : (nL : Int) ≤ 9223372036854775807) (hleL : nL = L.length) (M : List Away) (nM : Nat) (hbdM : (nM : Int) ≤ 9223372036854775807) (hleM : nM = M.length) (h1 : (nL : Int) = (nM : Int)) (k : Nat) (hi10 : k ≤ nL ∧ L.take k = M.take k) (h11 : ¬ ((k : Int) < (nL : Int))) : L = M := by
  first | (intro e; subst e; omega) | exact ne_at ‹L[_]? = some _› ‹M[_]? = some _› ‹_› | exact take_end (And.right ‹_ ∧ L.take _ = M.take _›) hleL hleM (by omega) ‹_›
theorem c_laws_eqAwayS (w : World) {AL : Option Addr} {nL cL BL : Nat}  (L : List Away) (hL : SlR w BL encAway 2 AL nL cL L) {AM : Option Addr} {nM cM BM : Nat}  (M : List Away) (hM : SlR w BM encAway 2 AM nM cM M) : Calls Try.prog 19 #[.slice AL nL cL, .slice AM nM cM] w fun e w' => e = .returned (.bool (decide (L = M))) ∧ Lo w w' := by
  refine calls_W 27 Try.func19 rfl rfl rfl ?_
  have hbdL := hL.bound
  have hleL := hL.len
  have hBbL := hL.bd
  have hbdM := hM.bound
  have hleM := hM.len
  have hBbM := hM.bd
  refine W.seq ?_
  refine W.regS (SR.q' (r_as (v := .bool false) rfl) <| SR.nil ?_)
  refine W.seq ?_
  refine W.seq ?_
  refine W.regS (SR.q' (r_mv (v := .slice _ _ _) rfl) <| SR.q' (r_len und23 rfl) <| SR.q' (r_mv (v := .slice _ _ _) rfl) <| SR.q' (r_len und23 rfl) <| SR.q' (r_ne rfl rfl) <| SR.nil ?_)
  refine W.cond_n rfl (fun h1 => ?_) (fun h1 => ?_)
  · refine W.seq ?_
    refine W.regS (SR.q' (r_as (v := .bool false) rfl) <| SR.nil ?_)
    refine W.ret ?_
    refine ret1 rfl (v := .bool _) rfl ?_
    exact ⟨eR (eDF (z_c_laws_eqAwayS_2 L nL hbdL hleL M nM hbdM hleM h1)), (Lo.refl w)⟩
  · refine W.skip ?_
    refine W.seq ?_
    refine W.seq ?_
    refine W.regS (SR.q' (r_as (v := .int .i64 0) rfl) <| SR.nil ?_)
    refine W.block ?_
    refine W.loop (σ := Nat) (fun g => [(0, .slice AL nL cL), (1, .slice AM nM cM), (5, .int .i64 (g : Int))]) (fun g w' => (Lo w w') ∧ (SlR w' BL encAway 2 AL nL cL L) ∧ (SlR w' BM encAway 2 AM nM cM M) ∧ (g ≤ nL ∧ L.take g = M.take g)) (fun g => nL - g) 0 ?_ ?_ ?_
    · exact ⟨rfl, rfl, rfl, trivial⟩
    · exact ⟨(Lo.refl w), hL, hM, (z_c_laws_eqAwayS_3 L nL hbdL hleL M nM hbdM hleM h1)⟩
    · rintro k f4 w5 hP7
      obtain ⟨hB6, hm8, hm9, hi10⟩ : (Lo w w5) ∧ (SlR w5 BL encAway 2 AL nL cL L) ∧ (SlR w5 BM encAway 2 AM nM cM M) ∧ (k ≤ nL ∧ L.take k = M.take k) := hP7
      refine (?_ : W _ _ _ _ _ (act _ (sets f4 [(0, .slice AL nL cL), (1, .slice AM nM cM), (5, .int .i64 (k : Int))])) _)
      have hzw5 := hB6.size
      refine W.seq ?_
      refine W.seq ?_
      refine W.regS (SR.q' (r_mv (v := .int .i64 _) rfl) <| SR.q' (r_mv (v := .slice _ _ _) rfl) <| SR.q' (r_len und23 rfl) <| SR.q' (r_lt rfl rfl) <| SR.nil ?_)
      refine W.cond_d rfl (fun h11 => ?_) (fun h11 => ?_)
      · refine W.skip ?_
        refine W.seq ?_
        refine W.block ?_
        refine W.seq ?_
        refine W.regD mo (by kernel_rfl) (QR.q' (fun w' hw' => r_mv (v := .slice _ _ _) rfl) <| QR.q' (fun w' hw' => r_mv (v := .int .i64 _) rfl) <| ?_)
        obtain ⟨x12, hx13⟩ := (hm8).get (i := k) (by omega)
        refine QR.q' (fun w' hw' => r_ixR tsl23 (((hm8).lo hw')) rfl rfl (by omega)) <| QR.q' (fun w' hw' => r_lda (l := encAway x12) agg59 rfl (fun _ _ hu => (((hm8).lo hw')).cell hx13 hu) ((((hm8).lo hw')).esz _)) <| QR.q' (fun w' hw' => r_mv (v := .slice _ _ _) rfl) <| QR.q' (fun w' hw' => r_mv (v := .int .i64 _) rfl) <| ?_
        obtain ⟨x14, hx15⟩ := (hm9).get (i := k) (by omega)
        refine QR.q' (fun w' hw' => r_ixR tsl23 (((hm9).lo hw')) rfl rfl (by omega)) <| QR.q' (fun w' hw' => r_lda (l := encAway x14) agg59 rfl (fun _ _ hu => (((hm9).lo hw')).cell hx15 hu) ((((hm9).lo hw')).esz _)) <| QR.call ent35 (fun w' hw' => (c_laws_eqAway w' x12 x14).mono fun _ _ h => ⟨h.1, hw'.trans h.2⟩) rfl <| QR.q' (fun w' hw' => r_not rfl) <| QR.nil ?_
        intro w16 hk17
        have hz18 := hk17.size
        have hB19 := hB6.lo hk17
        refine W.cond_n rfl (fun h20 => ?_) (fun h20 => ?_)
        · refine W.seq ?_
          refine W.regS (SR.q' (r_as (v := .bool false) rfl) <| SR.nil ?_)
          refine W.ret ?_
          refine ret1 rfl (v := .bool _) rfl ?_
          exact ⟨eR (eDF (z_c_laws_eqAwayS_21 L nL hbdL hleL M nM hbdM hleM h1 k hi10 h11 x12 hx13 x14 hx15 h20)), hB19⟩
        · refine W.skip ?_
          refine W.regS (SR.q' (r_mv (v := .int .i64 _) rfl) <| SR.q' (r_add rfl rfl (by omega)) <| SR.q' (r_as (v := .int .i64 _) rfl) <| SR.nil ?_)
          refine ⟨k + 1, _, rfl, ⟨rfl, rfl, rfl, trivial⟩, ⟨hB19, (hm8).lo hk17, (hm9).lo hk17, ?_⟩, ?_⟩
          · exact (z_c_laws_eqAwayS_22 L nL hbdL hleL M nM hbdM hleM h1 k hi10 h11 x12 hx13 x14 hx15 h20)
          · exact (z_c_laws_eqAwayS_23 L nL hbdL hleL M nM hbdM hleM h1 k hi10 h11 x12 hx13 x14 hx15 h20)
      · refine W.exit (xin_here ?_)
        refine W.seq ?_
        refine W.regS (SR.q' (r_as (v := .bool true) rfl) <| SR.nil ?_)
        refine W.ret ?_
        refine ret1 rfl (v := .bool _) rfl ?_
        exact ⟨eR (eDT (z_c_laws_eqAwayS_24 L nL hbdL hleL M nM hbdM hleM h1 k hi10 h11)), hB6⟩

theorem z_c_laws_markAwayS_1 (L : List Away) (nL : Nat) (hbdL : (nL : Int) ≤ 9223372036854775807) (hleL : nL = L.length) (k : Int) (hp0 : 0 ≤ k) (hp1 : k ≤ 1000000000) (hp2 : (nL : Int) ≤ 1048576) : 0 ≤ nL := by
  omega
theorem z_c_laws_markAwayS_2 (L : List Away) (nL : Nat) (hbdL : (nL : Int) ≤ 9223372036854775807) (hleL : nL = L.length) (k : Int) (hp0 : 0 ≤ k) (hp1 : k ≤ 1000000000) (hp2 : (nL : Int) ≤ 1048576) : L = mkL mkAway 2 0 k ++ L.drop 0 := by
  exact mkL_init
theorem z_c_laws_markAwayS_26 (L : List Away) (nL : Nat) (hbdL : (nL : Int) ≤ 9223372036854775807) (hleL : nL = L.length) (k : Int) (hp0 : 0 ≤ k) (hp1 : k ≤ 1000000000) (hp2 : (nL : Int) ≤ 1048576) (i : Nat) (hi8 : i ≤ nL) (h9 : (i : Int) < (nL : Int)) (x10 : Away) (hx11 : (mkL mkAway 2 i k ++ L.drop i)[i]? = some x10) : (mkL mkAway 2 i k ++ L.drop i).set ((i : Int).toNat) ({ ({ x10 with Map := k + 2 * (i : Int) }) with Reader := (k + 2 * (i : Int)) + 1 }) = mkL mkAway 2 (i + 1) k ++ L.drop (i + 1) := by
  exact mkL_set (by omega) (by first | (simp [mkAway]; done) | (simp [mkAway]; omega))
theorem z_c_laws_markAwayS_27 (L : List Away) (nL : Nat) (hbdL : (nL : Int) ≤ 9223372036854775807) (hleL : nL = L.length) (k : Int) (hp0 : 0 ≤ k) (hp1 : k ≤ 1000000000) (hp2 : (nL : Int) ≤ 1048576) (i : Nat) (hi8 : i ≤ nL) (h9 : (i : Int) < (nL : Int)) (x10 : Away) (hx11 : (mkL mkAway 2 i k ++ L.drop i)[i]? = some x10) : i + 1 ≤ nL := by
  omega
theorem z_c_laws_markAwayS_28 (L : List Away) (nL : Nat) (hbdL : (nL : Int) ≤ 9223372036854775807) (hleL : nL = L.length) (k : Int) (hp0 : 0 ≤ k) (hp1 : k ≤ 1000000000) (hp2 : (nL : Int) ≤ 1048576) (i : Nat) (hi8 : i ≤ nL) (h9 : (i : Int) < (nL : Int)) (x10 : Away) (hx11 : (mkL mkAway 2 i k ++ L.drop i)[i]? = some x10) : nL - (i + 1) < nL - i := by
  omega
theorem z_c_laws_markAwayS_29 (L : List Away) (nL : Nat) (hbdL : (nL : Int) ≤ 9223372036854775807) (hleL : nL = L.length) (k : Int) (hp0 : 0 ≤ k) (hp1 : k ≤ 1000000000) (hp2 : (nL : Int) ≤ 1048576) (i : Nat) (hi8 : i ≤ nL) (h9 : ¬ ((i : Int) < (nL : Int))) : k + 2 * (i : Int) = k + 2 * (L.length : Int) := by
  first | omega | exact mkL_end hleL (by assumption) (by omega)
theorem z_c_laws_markAwayS_30 (L : List Away) (nL : Nat) (hbdL : (nL : Int) ≤ 9223372036854775807) (hleL : nL = L.length) (k : Int) (hp0 : 0 ≤ k) (hp1 : k ≤ 1000000000) (hp2 : (nL : Int) ≤ 1048576) (i : Nat) (hi8 : i ≤ nL) (h9 : ¬ ((i : Int) < (nL : Int))) : mkL mkAway 2 i k ++ L.drop i = mkL mkAway 2 L.length k := by
  first | omega | exact mkL_end hleL (by assumption) (by omega)
theorem c_laws_markAwayS (w : World) {AL : Option Addr} {nL cL BL : Nat}  (L : List Away) (hL : SlO w BL encAway 2 59 AL nL cL L) (k : Int) (hp0 : 0 ≤ k) (hp1 : k ≤ 1000000000) (hp2 : (nL : Int) ≤ 1048576) : Calls Try.prog 21 #[.slice AL nL cL, .int .i64 k] w fun e w' => e = .returned (.int .i64 (k + 2 * (L.length : Int))) ∧ SlO w' BL encAway 2 59 AL nL cL (mkL mkAway 2 L.length k) ∧ Kp (fun b_ => AL = some ⟨b_, 0, none⟩) w w' := by
  refine calls_W 27 Try.func21 rfl rfl rfl ?_
  have hbdL := hL.rd.bound
  have hleL := hL.len
  have hBbL := hL.bd
  refine W.seq ?_
  refine W.regS (SR.q' (r_as (v := .int .i64 0) rfl) <| SR.nil ?_)
  refine W.seq ?_
  refine W.seq ?_
  refine W.regS (SR.q' (r_as (v := .int .i64 0) rfl) <| SR.nil ?_)
  refine W.block ?_
  refine W.loop (σ := Nat) (fun g => [(0, .slice AL nL cL), (1, .int .i64 (k + 2 * (g : Int))), (4, .int .i64 0), (5, .int .i64 (g : Int))]) (fun g w' => (Kp (fun b_ => AL = some ⟨b_, 0, none⟩) w w') ∧ (SlO w' BL encAway 2 59 AL nL cL (mkL mkAway 2 g k ++ L.drop g)) ∧ (g ≤ nL)) (fun g => nL - g) 0 ?_ ?_ ?_
  · exact ⟨rfl, (eI (by first | omega | (dsimp only; omega))), rfl, (eI (by first | omega | (dsimp only; omega))), trivial⟩
  · exact ⟨(Kp.refl w : Kp (fun b_ => AL = some ⟨b_, 0, none⟩) w w), (SlO.eqv (hL) (z_c_laws_markAwayS_2 L nL hbdL hleL k hp0 hp1 hp2)), (z_c_laws_markAwayS_1 L nL hbdL hleL k hp0 hp1 hp2)⟩
  · rintro i f3 w4 hP6
    obtain ⟨hB5, hm7, hi8⟩ : (Kp (fun b_ => AL = some ⟨b_, 0, none⟩) w w4) ∧ (SlO w4 BL encAway 2 59 AL nL cL (mkL mkAway 2 i k ++ L.drop i)) ∧ (i ≤ nL) := hP6
    refine (?_ : W _ _ _ _ _ (act _ (sets f3 [(0, .slice AL nL cL), (1, .int .i64 (k + 2 * (i : Int))), (4, .int .i64 0), (5, .int .i64 (i : Int))])) _)
    have hzw4 := hB5.size
    refine W.seq ?_
    refine W.seq ?_
    refine W.regS (SR.q' (r_mv (v := .int .i64 _) rfl) <| SR.q' (r_mv (v := .slice _ _ _) rfl) <| SR.q' (r_len und23 rfl) <| SR.q' (r_lt rfl rfl) <| SR.nil ?_)
    refine W.cond_d rfl (fun h9 => ?_) (fun h9 => ?_)
    · refine W.skip ?_
      refine W.seq ?_
      refine W.block ?_
      refine W.seq ?_
      refine W.regS (SR.q' (r_mv (v := .slice _ _ _) rfl) <| SR.q' (r_mv (v := .int .i64 _) rfl) <| SR.q' (r_mv (v := .int .i64 _) rfl) <| ?_)
      obtain ⟨x10, hx11⟩ := ((hm7).rd).get (i := i) (by omega)
      refine SR.q' (r_ixR tsl23 ((hm7).rd) rfl rfl (by omega)) <| SR.q' (r_fa fa59_0 rfl) <| SR.storeO (o := 0) (vs := [.int .i64 (k + 2 * (i : Int))]) (x1 := { x10 with Map := k + 2 * (i : Int) }) sca3.2 rfl (add_add _ _ _) rfl rfl (hm7) hx11 rfl (Nat.le_of_ble_eq_true rfl) rfl ?_
      intro w12 hk13 hs14 hO15
      have hz16 := hk13.size
      have hB17 := hB5.step hk13 (fun i_ hi_ e' => by have := ((hm7)).base_le e'; first | omega | (exfalso; omega) | exact e' | exact .inl e' | exact .inr e')
      have hx18 : ((mkL mkAway 2 i k ++ L.drop i).set ((i : Int).toNat) ({ x10 with Map := k + 2 * (i : Int) }))[(i : Int).toNat]? = some ({ x10 with Map := k + 2 * (i : Int) }) := List.getElem?_set_self (List.getElem?_eq_some_iff.1 hx11).1
      refine SR.nil ?_
      refine W.seq ?_
      refine W.regS (SR.q' (r_mv (v := .int .i64 _) rfl) <| SR.q' (r_add rfl rfl (by omega)) <| SR.q' (r_as (v := .int .i64 _) rfl) <| SR.nil ?_)
      refine W.seq ?_
      refine W.regS (SR.q' (r_mv (v := .slice _ _ _) rfl) <| SR.q' (r_mv (v := .int .i64 _) rfl) <| SR.q' (r_mv (v := .int .i64 _) rfl) <| SR.q' (r_ixR tsl23 ((hO15).rd) rfl rfl (by omega)) <| SR.q' (r_fa fa59_1 rfl) <| SR.storeO (o := 1) (vs := [.int .i64 ((k + 2 * (i : Int)) + 1)]) (x1 := { ({ x10 with Map := k + 2 * (i : Int) }) with Reader := (k + 2 * (i : Int)) + 1 }) sca3.2 rfl (add_add _ _ _) rfl rfl (hO15) hx18 rfl (Nat.le_of_ble_eq_true rfl) rfl ?_)
      intro w19 hk20 hs21 hO22
      have hz23 := hk20.size
      have hB24 := hB17.step hk20 (fun i_ hi_ e' => by have := ((hO15)).base_le e'; first | omega | (exfalso; omega) | exact e' | exact .inl e' | exact .inr e')
      rw [List.set_set] at hO22
      have hx25 : ((mkL mkAway 2 i k ++ L.drop i).set ((i : Int).toNat) ({ ({ x10 with Map := k + 2 * (i : Int) }) with Reader := (k + 2 * (i : Int)) + 1 }))[(i : Int).toNat]? = some ({ ({ x10 with Map := k + 2 * (i : Int) }) with Reader := (k + 2 * (i : Int)) + 1 }) := List.getElem?_set_self (List.getElem?_eq_some_iff.1 hx11).1
      refine SR.nil ?_
      refine W.regS (SR.q' (r_mv (v := .int .i64 _) rfl) <| SR.q' (r_add rfl rfl (by omega)) <| SR.q' (r_as (v := .int .i64 _) rfl) <| SR.nil ?_)
      refine W.regS (SR.q' (r_mv (v := .int .i64 _) rfl) <| SR.q' (r_add rfl rfl (by omega)) <| SR.q' (r_as (v := .int .i64 _) rfl) <| SR.nil ?_)
      refine ⟨i + 1, _, rfl, ⟨rfl, (eI (by first | omega | (dsimp only; omega))), rfl, (eI (by first | omega | (dsimp only; omega))), trivial⟩, ⟨hB24, (SlO.eqv (hO22) (z_c_laws_markAwayS_26 L nL hbdL hleL k hp0 hp1 hp2 i hi8 h9 x10 hx11)), ?_⟩, ?_⟩
      · exact (z_c_laws_markAwayS_27 L nL hbdL hleL k hp0 hp1 hp2 i hi8 h9 x10 hx11)
      · exact (z_c_laws_markAwayS_28 L nL hbdL hleL k hp0 hp1 hp2 i hi8 h9 x10 hx11)
    · refine W.exit (xin_here ?_)
      refine W.seq ?_
      refine W.regS (SR.q' (r_mv (v := .int .i64 _) rfl) <| SR.q' (r_as (v := .int .i64 _) rfl) <| SR.nil ?_)
      refine W.ret ?_
      refine ret1 rfl (v := .int .i64 _) rfl ?_
      exact ⟨eR (eI (z_c_laws_markAwayS_29 L nL hbdL hleL k hp0 hp1 hp2 i hi8 h9)), (SlO.eqv (hm7) (z_c_laws_markAwayS_30 L nL hbdL hleL k hp0 hp1 hp2 i hi8 h9)), hB5⟩

theorem z_c_laws_heldAwayS_1 (L : List Away) (nL : Nat) (hbdL : (nL : Int) ≤ 9223372036854775807) (hleL : nL = L.length) (k : Int) (m : Nat) (hp0 : 0 ≤ k) (hp1 : k ≤ 1000000000) (hp2 : (nL : Int) ≤ 1048576) (hp3 : L = mkL mkAway 2 m k) : 0 ≤ nL := by
  omega
theorem z_c_laws_heldAwayS_12 (L : List Away) (nL : Nat) (hbdL : (nL : Int) ≤ 9223372036854775807) (hleL : nL = L.length) (k : Int) (m : Nat) (hp0 : 0 ≤ k) (hp1 : k ≤ 1000000000) (hp2 : (nL : Int) ≤ 1048576) (hp3 : L = mkL mkAway 2 m k) (i : Nat) (hi7 : i ≤ nL) (h8 : (i : Int) < (nL : Int)) (x9 : Away) (hx10 : L[i]? = some x9) (h11 : ¬ (x9.Map = (k + 2 * (i : Int)))) : (-1) = k + 2 * (m : Int) := by
  first | omega | (rw [hp3, mkL_len] at hleL; omega) | (exfalso; subst hp3; obtain rfl := mkL_get ‹_[_]? = some _›; first | (simp_all [mkAway]; done) | (simp only [mkAway] at *; omega))
theorem z_c_laws_heldAwayS_14 (L : List Away) (nL : Nat) (hbdL : (nL : Int) ≤ 9223372036854775807) (hleL : nL = L.length) (k : Int) (m : Nat) (hp0 : 0 ≤ k) (hp1 : k ≤ 1000000000) (hp2 : (nL : Int) ≤ 1048576) (hp3 : L = mkL mkAway 2 m k) (i : Nat) (hi7 : i ≤ nL) (h8 : (i : Int) < (nL : Int)) (x9 : Away) (hx10 : L[i]? = some x9) (h11 : x9.Map = (k + 2 * (i : Int))) (h13 : ¬ (x9.Reader = ((k + 2 * (i : Int)) + 1))) : (-1) = k + 2 * (m : Int) := by
  first | omega | (rw [hp3, mkL_len] at hleL; omega) | (exfalso; subst hp3; obtain rfl := mkL_get ‹_[_]? = some _›; first | (simp_all [mkAway]; done) | (simp only [mkAway] at *; omega))
theorem z_c_laws_heldAwayS_15 (L : List Away) (nL : Nat) (hbdL : (nL : Int) ≤ 9223372036854775807) (hleL : nL = L.length) (k : Int) (m : Nat) (hp0 : 0 ≤ k) (hp1 : k ≤ 1000000000) (hp2 : (nL : Int) ≤ 1048576) (hp3 : L = mkL mkAway 2 m k) (i : Nat) (hi7 : i ≤ nL) (h8 : (i : Int) < (nL : Int)) (x9 : Away) (hx10 : L[i]? = some x9) (h11 : x9.Map = (k + 2 * (i : Int))) (h13 : x9.Reader = ((k + 2 * (i : Int)) + 1)) : i + 1 ≤ nL := by
  omega
theorem z_c_laws_heldAwayS_16 (L : List Away) (nL : Nat) (hbdL : (nL : Int) ≤ 9223372036854775807) (hleL : nL = L.length) (k : Int) (m : Nat) (hp0 : 0 ≤ k) (hp1 : k ≤ 1000000000) (hp2 : (nL : Int) ≤ 1048576) (hp3 : L = mkL mkAway 2 m k) (i : Nat) (hi7 : i ≤ nL) (h8 : (i : Int) < (nL : Int)) (x9 : Away) (hx10 : L[i]? = some x9) (h11 : x9.Map = (k + 2 * (i : Int))) (h13 : x9.Reader = ((k + 2 * (i : Int)) + 1)) : nL - (i + 1) < nL - i := by
  omega
theorem z_c_laws_heldAwayS_17 (L : List Away) (nL : Nat) (hbdL : (nL : Int) ≤ 9223372036854775807) (hleL : nL = L.length) (k : Int) (m : Nat) (hp0 : 0 ≤ k) (hp1 : k ≤ 1000000000) (hp2 : (nL : Int) ≤ 1048576) (hp3 : L = mkL mkAway 2 m k) (i : Nat) (hi7 : i ≤ nL) (h8 : ¬ ((i : Int) < (nL : Int))) : k + 2 * (i : Int) = k + 2 * (m : Int) := by
  first | omega | (rw [hp3, mkL_len] at hleL; omega) | (exfalso; subst hp3; obtain rfl := mkL_get ‹_[_]? = some _›; first | (simp_all [mkAway]; done) | (simp only [mkAway] at *; omega))
theorem c_laws_heldAwayS (w : World) {AL : Option Addr} {nL cL BL : Nat}  (L : List Away) (hL : SlR w BL encAway 2 AL nL cL L) (k : Int) (m : Nat) (hp0 : 0 ≤ k) (hp1 : k ≤ 1000000000) (hp2 : (nL : Int) ≤ 1048576) (hp3 : L = mkL mkAway 2 m k) : Calls Try.prog 23 #[.slice AL nL cL, .int .i64 k] w fun e w' => e = .returned (.int .i64 (k + 2 * (m : Int))) ∧ Lo w w' := by
  refine calls_W 31 Try.func23 rfl rfl rfl ?_
  have hbdL := hL.bound
  have hleL := hL.len
  have hBbL := hL.bd
  refine W.seq ?_
  refine W.regS (SR.q' (r_as (v := .int .i64 0) rfl) <| SR.nil ?_)
  refine W.seq ?_
  refine W.seq ?_
  refine W.regS (SR.q' (r_as (v := .int .i64 0) rfl) <| SR.nil ?_)
  refine W.block ?_
  refine W.loop (σ := Nat) (fun g => [(0, .slice AL nL cL), (1, .int .i64 (k + 2 * (g : Int))), (5, .int .i64 (g : Int))]) (fun g w' => (Lo w w') ∧ (SlR w' BL encAway 2 AL nL cL L) ∧ (g ≤ nL)) (fun g => nL - g) 0 ?_ ?_ ?_
  · exact ⟨rfl, (eI (by first | omega | (dsimp only; omega))), (eI (by first | omega | (dsimp only; omega))), trivial⟩
  · exact ⟨(Lo.refl w), hL, (z_c_laws_heldAwayS_1 L nL hbdL hleL k m hp0 hp1 hp2 hp3)⟩
  · rintro i f2 w3 hP5
    obtain ⟨hB4, hm6, hi7⟩ : (Lo w w3) ∧ (SlR w3 BL encAway 2 AL nL cL L) ∧ (i ≤ nL) := hP5
    refine (?_ : W _ _ _ _ _ (act _ (sets f2 [(0, .slice AL nL cL), (1, .int .i64 (k + 2 * (i : Int))), (5, .int .i64 (i : Int))])) _)
    have hzw3 := hB4.size
    refine W.seq ?_
    refine W.seq ?_
    refine W.regS (SR.q' (r_mv (v := .int .i64 _) rfl) <| SR.q' (r_mv (v := .slice _ _ _) rfl) <| SR.q' (r_len und23 rfl) <| SR.q' (r_lt rfl rfl) <| SR.nil ?_)
    refine W.cond_d rfl (fun h8 => ?_) (fun h8 => ?_)
    · refine W.skip ?_
      refine W.seq ?_
      refine W.block ?_
      refine W.seq ?_
      refine W.seq ?_
      refine W.regS (SR.q' (r_mv (v := .slice _ _ _) rfl) <| SR.q' (r_mv (v := .int .i64 _) rfl) <| ?_)
      obtain ⟨x9, hx10⟩ := (hm6).get (i := i) (by omega)
      refine SR.q' (r_ixR tsl23 (hm6) rfl rfl (by omega)) <| SR.q' (r_fa fa59_0 rfl) <| SR.q' (r_ld (v := .int .i64 x9.Map) sca3 rfl ((hm6).cell hx10 rfl)) <| SR.q' (r_mv (v := .int .i64 _) rfl) <| SR.q' (r_ne rfl rfl) <| SR.nil ?_
      refine W.cond_n rfl (fun h11 => ?_) (fun h11 => ?_)
      · refine W.seq ?_
        refine W.regS (SR.q' (r_as (v := .int .i64 (-1)) rfl) <| SR.nil ?_)
        refine W.ret ?_
        refine ret1 rfl (v := .int .i64 _) rfl ?_
        exact ⟨eR (eI (z_c_laws_heldAwayS_12 L nL hbdL hleL k m hp0 hp1 hp2 hp3 i hi7 h8 x9 hx10 h11)), hB4⟩
      · refine W.skip ?_
        refine W.seq ?_
        refine W.regS (SR.q' (r_mv (v := .int .i64 _) rfl) <| SR.q' (r_add rfl rfl (by omega)) <| SR.q' (r_as (v := .int .i64 _) rfl) <| SR.nil ?_)
        refine W.seq ?_
        refine W.seq ?_
        refine W.regS (SR.q' (r_mv (v := .slice _ _ _) rfl) <| SR.q' (r_mv (v := .int .i64 _) rfl) <| SR.q' (r_ixR tsl23 (hm6) rfl rfl (by omega)) <| SR.q' (r_fa fa59_1 rfl) <| SR.q' (r_ld (v := .int .i64 x9.Reader) sca3 rfl ((hm6).cell hx10 rfl)) <| SR.q' (r_mv (v := .int .i64 _) rfl) <| SR.q' (r_ne rfl rfl) <| SR.nil ?_)
        refine W.cond_n rfl (fun h13 => ?_) (fun h13 => ?_)
        · refine W.seq ?_
          refine W.regS (SR.q' (r_as (v := .int .i64 (-1)) rfl) <| SR.nil ?_)
          refine W.ret ?_
          refine ret1 rfl (v := .int .i64 _) rfl ?_
          exact ⟨eR (eI (z_c_laws_heldAwayS_14 L nL hbdL hleL k m hp0 hp1 hp2 hp3 i hi7 h8 x9 hx10 h11 h13)), hB4⟩
        · refine W.skip ?_
          refine W.regS (SR.q' (r_mv (v := .int .i64 _) rfl) <| SR.q' (r_add rfl rfl (by omega)) <| SR.q' (r_as (v := .int .i64 _) rfl) <| SR.nil ?_)
          refine W.regS (SR.q' (r_mv (v := .int .i64 _) rfl) <| SR.q' (r_add rfl rfl (by omega)) <| SR.q' (r_as (v := .int .i64 _) rfl) <| SR.nil ?_)
          refine ⟨i + 1, _, rfl, ⟨rfl, (eI (by first | omega | (dsimp only; omega))), (eI (by first | omega | (dsimp only; omega))), trivial⟩, ⟨hB4, hm6, ?_⟩, ?_⟩
          · exact (z_c_laws_heldAwayS_15 L nL hbdL hleL k m hp0 hp1 hp2 hp3 i hi7 h8 x9 hx10 h11 h13)
          · exact (z_c_laws_heldAwayS_16 L nL hbdL hleL k m hp0 hp1 hp2 hp3 i hi7 h8 x9 hx10 h11 h13)
    · refine W.exit (xin_here ?_)
      refine W.seq ?_
      refine W.regS (SR.q' (r_mv (v := .int .i64 _) rfl) <| SR.q' (r_as (v := .int .i64 _) rfl) <| SR.nil ?_)
      refine W.ret ?_
      refine ret1 rfl (v := .int .i64 _) rfl ?_
      exact ⟨eR (eI (z_c_laws_heldAwayS_17 L nL hbdL hleL k m hp0 hp1 hp2 hp3 i hi7 h8)), hB4⟩

theorem z_c_laws_eqLibrary_22 (a : Library) (na_Maps : Nat) (hbda_Maps : (na_Maps : Int) ≤ 9223372036854775807) (hlea_Maps : na_Maps = a.Maps.length) (na_Away : Nat) (hbda_Away : (na_Away : Int) ≤ 9223372036854775807) (hlea_Away : na_Away = a.Away.length) (b : Library) (nb_Maps : Nat) (hbdb_Maps : (nb_Maps : Int) ≤ 9223372036854775807) (hleb_Maps : nb_Maps = b.Maps.length) (nb_Away : Nat) (hbdb_Away : (nb_Away : Int) ≤ 9223372036854775807) (hleb_Away : nb_Away = b.Away.length) (h21 : ¬ (a.Maps = b.Maps)) : ¬ (a = b) := by
  cases a; cases b; simp_all
theorem z_c_laws_eqLibrary_28 (a : Library) (na_Maps : Nat) (hbda_Maps : (na_Maps : Int) ≤ 9223372036854775807) (hlea_Maps : na_Maps = a.Maps.length) (na_Away : Nat) (hbda_Away : (na_Away : Int) ≤ 9223372036854775807) (hlea_Away : na_Away = a.Away.length) (b : Library) (nb_Maps : Nat) (hbdb_Maps : (nb_Maps : Int) ≤ 9223372036854775807) (hleb_Maps : nb_Maps = b.Maps.length) (nb_Away : Nat) (hbdb_Away : (nb_Away : Int) ≤ 9223372036854775807) (hleb_Away : nb_Away = b.Away.length) (h21 : a.Maps = b.Maps) (h27 : ¬ (a.Away = b.Away)) : ¬ (a = b) := by
  cases a; cases b; simp_all
theorem z_c_laws_eqLibrary_30 (a : Library) (na_Maps : Nat) (hbda_Maps : (na_Maps : Int) ≤ 9223372036854775807) (hlea_Maps : na_Maps = a.Maps.length) (na_Away : Nat) (hbda_Away : (na_Away : Int) ≤ 9223372036854775807) (hlea_Away : na_Away = a.Away.length) (b : Library) (nb_Maps : Nat) (hbdb_Maps : (nb_Maps : Int) ≤ 9223372036854775807) (hleb_Maps : nb_Maps = b.Maps.length) (nb_Away : Nat) (hbdb_Away : (nb_Away : Int) ≤ 9223372036854775807) (hleb_Away : nb_Away = b.Away.length) (h21 : a.Maps = b.Maps) (h27 : a.Away = b.Away) (h29 : ¬ (a.Bought = b.Bought)) : ¬ (a = b) := by
  cases a; cases b; simp_all
theorem z_c_laws_eqLibrary_32 (a : Library) (na_Maps : Nat) (hbda_Maps : (na_Maps : Int) ≤ 9223372036854775807) (hlea_Maps : na_Maps = a.Maps.length) (na_Away : Nat) (hbda_Away : (na_Away : Int) ≤ 9223372036854775807) (hlea_Away : na_Away = a.Away.length) (b : Library) (nb_Maps : Nat) (hbdb_Maps : (nb_Maps : Int) ≤ 9223372036854775807) (hleb_Maps : nb_Maps = b.Maps.length) (nb_Away : Nat) (hbdb_Away : (nb_Away : Int) ≤ 9223372036854775807) (hleb_Away : nb_Away = b.Away.length) (h21 : a.Maps = b.Maps) (h27 : a.Away = b.Away) (h29 : a.Bought = b.Bought) (h31 : ¬ (a.Dropped = b.Dropped)) : ¬ (a = b) := by
  cases a; cases b; simp_all
theorem z_c_laws_eqLibrary_34 (a : Library) (na_Maps : Nat) (hbda_Maps : (na_Maps : Int) ≤ 9223372036854775807) (hlea_Maps : na_Maps = a.Maps.length) (na_Away : Nat) (hbda_Away : (na_Away : Int) ≤ 9223372036854775807) (hlea_Away : na_Away = a.Away.length) (b : Library) (nb_Maps : Nat) (hbdb_Maps : (nb_Maps : Int) ≤ 9223372036854775807) (hleb_Maps : nb_Maps = b.Maps.length) (nb_Away : Nat) (hbdb_Away : (nb_Away : Int) ≤ 9223372036854775807) (hleb_Away : nb_Away = b.Away.length) (h21 : a.Maps = b.Maps) (h27 : a.Away = b.Away) (h29 : a.Bought = b.Bought) (h31 : a.Dropped = b.Dropped) (h33 : ¬ (a.Mended = b.Mended)) : ¬ (a = b) := by
  cases a; cases b; simp_all
theorem z_c_laws_eqLibrary_35 (a : Library) (na_Maps : Nat) (hbda_Maps : (na_Maps : Int) ≤ 9223372036854775807) (hlea_Maps : na_Maps = a.Maps.length) (na_Away : Nat) (hbda_Away : (na_Away : Int) ≤ 9223372036854775807) (hlea_Away : na_Away = a.Away.length) (b : Library) (nb_Maps : Nat) (hbdb_Maps : (nb_Maps : Int) ≤ 9223372036854775807) (hleb_Maps : nb_Maps = b.Maps.length) (nb_Away : Nat) (hbdb_Away : (nb_Away : Int) ≤ 9223372036854775807) (hleb_Away : nb_Away = b.Away.length) (h21 : a.Maps = b.Maps) (h27 : a.Away = b.Away) (h29 : a.Bought = b.Bought) (h31 : a.Dropped = b.Dropped) (h33 : a.Mended = b.Mended) : a = b := by
  cases a; cases b; simp_all
theorem c_laws_eqLibrary (w : World) (a : Library) {Aa_Maps : Option Addr} {na_Maps ca_Maps Ba_Maps : Nat} (ha_Maps : SlR w Ba_Maps encLMap 3 Aa_Maps na_Maps ca_Maps a.Maps) {Aa_Away : Option Addr} {na_Away ca_Away Ba_Away : Nat} (ha_Away : SlR w Ba_Away encAway 2 Aa_Away na_Away ca_Away a.Away) (b : Library) {Ab_Maps : Option Addr} {nb_Maps cb_Maps Bb_Maps : Nat} (hb_Maps : SlR w Bb_Maps encLMap 3 Ab_Maps nb_Maps cb_Maps b.Maps) {Ab_Away : Option Addr} {nb_Away cb_Away Bb_Away : Nat} (hb_Away : SlR w Bb_Away encAway 2 Ab_Away nb_Away cb_Away b.Away) : Calls Try.prog 11 #[.agg (List.toArray [.slice Aa_Maps na_Maps ca_Maps, .slice Aa_Away na_Away ca_Away, .int .i64 a.Bought, .int .i64 a.Dropped, .int .i64 a.Mended]), .agg (List.toArray [.slice Ab_Maps nb_Maps cb_Maps, .slice Ab_Away nb_Away cb_Away, .int .i64 b.Bought, .int .i64 b.Dropped, .int .i64 b.Mended])] w fun e w' => e = .returned (.bool (decide (a = b))) ∧ Lo w w' := by
  refine calls_W 32 Try.func11 rfl rfl rfl ?_
  have hbda_Maps := ha_Maps.bound
  have hlea_Maps := ha_Maps.len
  have hBba_Maps := ha_Maps.bd
  have hbda_Away := ha_Away.bound
  have hlea_Away := ha_Away.len
  have hBba_Away := ha_Away.bd
  have hbdb_Maps := hb_Maps.bound
  have hleb_Maps := hb_Maps.len
  have hBbb_Maps := hb_Maps.bd
  have hbdb_Away := hb_Away.bound
  have hleb_Away := hb_Away.len
  have hBbb_Away := hb_Away.bd
  refine W.seq ?_
  refine W.regS (SR.box (v := .agg (List.toArray _)) (l := [.slice Aa_Maps na_Maps ca_Maps, .slice Aa_Away na_Away ca_Away, .int .i64 a.Bought, .int .i64 a.Dropped, .int .i64 a.Mended]) rfl rfl ?_)
  intro g1 w2 hg3 hk4 hs5 hb6
  have hz7 := hk4.size
  have hB8 := (Lo.refl w).lo hk4
  refine SR.box (v := .agg (List.toArray _)) (l := [.slice Ab_Maps nb_Maps cb_Maps, .slice Ab_Away nb_Away cb_Away, .int .i64 b.Bought, .int .i64 b.Dropped, .int .i64 b.Mended]) rfl rfl ?_
  intro g9 w10 hg11 hk12 hs13 hb14
  have hz15 := hk12.size
  have hB16 := hB8.lo hk12
  refine SR.q' (r_as (v := .bool false) rfl) <| SR.nil ?_
  refine W.seq ?_
  refine W.seq ?_
  refine W.regS (SR.q' (r_fa fa25_0 rfl) <| SR.q' (r_ld (v := .slice Aa_Maps na_Maps ca_Maps) sca22 rfl (((hb6).lo hk12).cell rfl)) <| SR.q' (r_fa fa25_0 rfl) <| SR.q' (r_ld (v := .slice Ab_Maps nb_Maps cb_Maps) sca22 rfl ((hb14).cell rfl)) <| SR.call ent18 (c_laws_eqMapS w10 a.Maps ((((ha_Maps).lo hk4).lo hk12)) b.Maps ((((hb_Maps).lo hk4).lo hk12))) rfl ?_)
  rintro e w17 ⟨rfl, hk18⟩
  refine ⟨_, rfl, ?_⟩
  have hz19 := hk18.size
  have hB20 := hB16.lo hk18
  refine SR.q' (r_not rfl) <| SR.nil ?_
  refine W.cond_n rfl (fun h21 => ?_) (fun h21 => ?_)
  · refine W.seq ?_
    refine W.regS (SR.q' (r_as (v := .bool false) rfl) <| SR.nil ?_)
    refine W.ret ?_
    refine ret1 rfl (v := .bool _) rfl ?_
    exact ⟨eR (eDF (z_c_laws_eqLibrary_22 a na_Maps hbda_Maps hlea_Maps na_Away hbda_Away hlea_Away b nb_Maps hbdb_Maps hleb_Maps nb_Away hbdb_Away hleb_Away h21)), hB20⟩
  · refine W.skip ?_
    refine W.seq ?_
    refine W.seq ?_
    refine W.regS (SR.q' (r_fa fa25_1 rfl) <| SR.q' (r_ld (v := .slice Aa_Away na_Away ca_Away) sca23 rfl ((((hb6).lo hk12).lo hk18).cell rfl)) <| SR.q' (r_fa fa25_1 rfl) <| SR.q' (r_ld (v := .slice Ab_Away nb_Away cb_Away) sca23 rfl (((hb14).lo hk18).cell rfl)) <| SR.call ent19 (c_laws_eqAwayS w17 a.Away (((((ha_Away).lo hk4).lo hk12).lo hk18)) b.Away (((((hb_Away).lo hk4).lo hk12).lo hk18))) rfl ?_)
    rintro e w23 ⟨rfl, hk24⟩
    refine ⟨_, rfl, ?_⟩
    have hz25 := hk24.size
    have hB26 := hB20.lo hk24
    refine SR.q' (r_not rfl) <| SR.nil ?_
    refine W.cond_n rfl (fun h27 => ?_) (fun h27 => ?_)
    · refine W.seq ?_
      refine W.regS (SR.q' (r_as (v := .bool false) rfl) <| SR.nil ?_)
      refine W.ret ?_
      refine ret1 rfl (v := .bool _) rfl ?_
      exact ⟨eR (eDF (z_c_laws_eqLibrary_28 a na_Maps hbda_Maps hlea_Maps na_Away hbda_Away hlea_Away b nb_Maps hbdb_Maps hleb_Maps nb_Away hbdb_Away hleb_Away h21 h27)), hB26⟩
    · refine W.skip ?_
      refine W.seq ?_
      refine W.seq ?_
      refine W.regS (SR.q' (r_fa fa25_2 rfl) <| SR.q' (r_ld (v := .int .i64 a.Bought) sca3 rfl (((((hb6).lo hk12).lo hk18).lo hk24).cell rfl)) <| SR.q' (r_fa fa25_2 rfl) <| SR.q' (r_ld (v := .int .i64 b.Bought) sca3 rfl ((((hb14).lo hk18).lo hk24).cell rfl)) <| SR.q' (r_ne rfl rfl) <| SR.nil ?_)
      refine W.cond_n rfl (fun h29 => ?_) (fun h29 => ?_)
      · refine W.seq ?_
        refine W.regS (SR.q' (r_as (v := .bool false) rfl) <| SR.nil ?_)
        refine W.ret ?_
        refine ret1 rfl (v := .bool _) rfl ?_
        exact ⟨eR (eDF (z_c_laws_eqLibrary_30 a na_Maps hbda_Maps hlea_Maps na_Away hbda_Away hlea_Away b nb_Maps hbdb_Maps hleb_Maps nb_Away hbdb_Away hleb_Away h21 h27 h29)), hB26⟩
      · refine W.skip ?_
        refine W.seq ?_
        refine W.seq ?_
        refine W.regS (SR.q' (r_fa fa25_3 rfl) <| SR.q' (r_ld (v := .int .i64 a.Dropped) sca3 rfl (((((hb6).lo hk12).lo hk18).lo hk24).cell rfl)) <| SR.q' (r_fa fa25_3 rfl) <| SR.q' (r_ld (v := .int .i64 b.Dropped) sca3 rfl ((((hb14).lo hk18).lo hk24).cell rfl)) <| SR.q' (r_ne rfl rfl) <| SR.nil ?_)
        refine W.cond_n rfl (fun h31 => ?_) (fun h31 => ?_)
        · refine W.seq ?_
          refine W.regS (SR.q' (r_as (v := .bool false) rfl) <| SR.nil ?_)
          refine W.ret ?_
          refine ret1 rfl (v := .bool _) rfl ?_
          exact ⟨eR (eDF (z_c_laws_eqLibrary_32 a na_Maps hbda_Maps hlea_Maps na_Away hbda_Away hlea_Away b nb_Maps hbdb_Maps hleb_Maps nb_Away hbdb_Away hleb_Away h21 h27 h29 h31)), hB26⟩
        · refine W.skip ?_
          refine W.seq ?_
          refine W.seq ?_
          refine W.regS (SR.q' (r_fa fa25_4 rfl) <| SR.q' (r_ld (v := .int .i64 a.Mended) sca3 rfl (((((hb6).lo hk12).lo hk18).lo hk24).cell rfl)) <| SR.q' (r_fa fa25_4 rfl) <| SR.q' (r_ld (v := .int .i64 b.Mended) sca3 rfl ((((hb14).lo hk18).lo hk24).cell rfl)) <| SR.q' (r_ne rfl rfl) <| SR.nil ?_)
          refine W.cond_n rfl (fun h33 => ?_) (fun h33 => ?_)
          · refine W.seq ?_
            refine W.regS (SR.q' (r_as (v := .bool false) rfl) <| SR.nil ?_)
            refine W.ret ?_
            refine ret1 rfl (v := .bool _) rfl ?_
            exact ⟨eR (eDF (z_c_laws_eqLibrary_34 a na_Maps hbda_Maps hlea_Maps na_Away hbda_Away hlea_Away b nb_Maps hbdb_Maps hleb_Maps nb_Away hbdb_Away hleb_Away h21 h27 h29 h31 h33)), hB26⟩
          · refine W.skip ?_
            refine W.seq ?_
            refine W.regS (SR.q' (r_as (v := .bool true) rfl) <| SR.nil ?_)
            refine W.ret ?_
            refine ret1 rfl (v := .bool _) rfl ?_
            exact ⟨eR (eDT (z_c_laws_eqLibrary_35 a na_Maps hbda_Maps hlea_Maps na_Away hbda_Away hlea_Away b nb_Maps hbdb_Maps hleb_Maps nb_Away hbdb_Away hleb_Away h21 h27 h29 h31 h33)), hB26⟩

theorem z_c_laws_markLibrary_21 (r : Library) (nr_Maps : Nat) (hbdr_Maps : (nr_Maps : Int) ≤ 9223372036854775807) (hler_Maps : nr_Maps = r.Maps.length) (nr_Away : Nat) (hbdr_Away : (nr_Away : Int) ≤ 9223372036854775807) (hler_Away : nr_Away = r.Away.length) (k : Int) (hp0 : 0 ≤ k) (hp1 : k ≤ 1000) (hp2 : (nr_Maps : Int) ≤ 1048576) (hp3 : (nr_Away : Int) ≤ 1048576) : (k + 3 * (r.Maps.length : Int)) + 2 * (r.Away.length : Int) = k + 3 * (r.Maps.length : Int) + 2 * (r.Away.length : Int) := by
  first | rfl | omega
theorem c_laws_markLibrary (w : World) (r : Library) {Ar_Maps : Option Addr} {nr_Maps cr_Maps Br_Maps : Nat} (hr_Maps : SlO w Br_Maps encLMap 3 41 Ar_Maps nr_Maps cr_Maps r.Maps) {Ar_Away : Option Addr} {nr_Away cr_Away Br_Away : Nat} (hr_Away : SlO w Br_Away encAway 2 59 Ar_Away nr_Away cr_Away r.Away) (k : Int) (hdr_Maps_r_Away : ∀ b_, Ar_Maps = some ⟨b_, 0, none⟩ → ¬ Ar_Away = some ⟨b_, 0, none⟩) (hp0 : 0 ≤ k) (hp1 : k ≤ 1000) (hp2 : (nr_Maps : Int) ≤ 1048576) (hp3 : (nr_Away : Int) ≤ 1048576) : Calls Try.prog 13 #[.agg (List.toArray [.slice Ar_Maps nr_Maps cr_Maps, .slice Ar_Away nr_Away cr_Away, .int .i64 r.Bought, .int .i64 r.Dropped, .int .i64 r.Mended]), .int .i64 k] w fun e w' => e = .returned (.int .i64 (k + 3 * (r.Maps.length : Int) + 2 * (r.Away.length : Int))) ∧ SlO w' Br_Maps encLMap 3 41 Ar_Maps nr_Maps cr_Maps (mkL mkLMap 3 r.Maps.length k) ∧ SlO w' Br_Away encAway 2 59 Ar_Away nr_Away cr_Away (mkL mkAway 2 r.Away.length (k + 3 * (r.Maps.length : Int))) ∧ Kp (fun b_ => Ar_Maps = some ⟨b_, 0, none⟩ ∨ Ar_Away = some ⟨b_, 0, none⟩) w w' := by
  refine calls_W 14 Try.func13 rfl rfl rfl ?_
  have hbdr_Maps := hr_Maps.rd.bound
  have hler_Maps := hr_Maps.len
  have hBbr_Maps := hr_Maps.bd
  have hbdr_Away := hr_Away.rd.bound
  have hler_Away := hr_Away.len
  have hBbr_Away := hr_Away.bd
  refine W.seq ?_
  refine W.regS (SR.box (v := .agg (List.toArray _)) (l := [.slice Ar_Maps nr_Maps cr_Maps, .slice Ar_Away nr_Away cr_Away, .int .i64 r.Bought, .int .i64 r.Dropped, .int .i64 r.Mended]) rfl rfl ?_)
  intro g1 w2 hg3 hk4 hs5 hb6
  have hz7 := hk4.size
  have hB8 := (Kp.refl w : Kp (fun b_ => Ar_Maps = some ⟨b_, 0, none⟩ ∨ Ar_Away = some ⟨b_, 0, none⟩) w w).lo hk4
  have hd9 : ¬ Ar_Maps = some ⟨g1, 0, none⟩ := fun e' => by have := (hr_Maps).base_le e'; omega
  have hd10 : ¬ Ar_Away = some ⟨g1, 0, none⟩ := fun e' => by have := (hr_Away).base_le e'; omega
  refine SR.q' (r_as (v := .int .i64 0) rfl) <| SR.nil ?_
  refine W.seq ?_
  refine W.regS (SR.q' (r_fa fa25_0 rfl) <| SR.q' (r_ld (v := .slice Ar_Maps nr_Maps cr_Maps) sca22 rfl ((hb6).cell rfl)) <| SR.q' (r_mv (v := .int .i64 _) rfl) <| SR.call ent20 (c_laws_markMapS w2 r.Maps ((hr_Maps).lo hk4) k (by omega) (by omega) (by omega)) rfl ?_)
  rintro e w11 ⟨rfl, hO13, hk12⟩
  refine ⟨_, rfl, ?_⟩
  have hz14 := hk12.size
  have hB15 := hB8.step hk12 (fun i_ hi_ e' => by have := (((hr_Maps).lo hk4)).base_le e'; first | omega | (exfalso; omega) | exact e' | exact .inl e' | exact .inr e')
  refine SR.q' (r_as (v := .int .i64 _) rfl) <| SR.nil ?_
  refine W.seq ?_
  refine W.regS (SR.q' (r_fa fa25_1 rfl) <| SR.q' (r_ld (v := .slice Ar_Away nr_Away cr_Away) sca23 rfl (((hb6).kp hk12 (fun e' => hd9 e')).cell rfl)) <| SR.q' (r_mv (v := .int .i64 _) rfl) <| SR.call ent21 (c_laws_markAwayS w11 r.Away (((hr_Away).lo hk4).kp hk12 (fun b_ hb e' => hdr_Maps_r_Away b_ e' hb)) (k + 3 * (r.Maps.length : Int)) (by omega) (by omega) (by omega)) rfl ?_)
  rintro e w16 ⟨rfl, hO18, hk17⟩
  refine ⟨_, rfl, ?_⟩
  have hz19 := hk17.size
  have hB20 := hB15.step hk17 (fun i_ hi_ e' => by have := ((((hr_Away).lo hk4).kp hk12 (fun b_ hb e' => hdr_Maps_r_Away b_ e' hb))).base_le e'; first | omega | (exfalso; omega) | exact e' | exact .inl e' | exact .inr e')
  refine SR.q' (r_as (v := .int .i64 _) rfl) <| SR.nil ?_
  refine W.seq ?_
  refine W.regS (SR.q' (r_mv (v := .int .i64 _) rfl) <| SR.q' (r_as (v := .int .i64 _) rfl) <| SR.nil ?_)
  refine W.ret ?_
  refine ret1 rfl (v := .int .i64 _) rfl ?_
  exact ⟨eR (eI (z_c_laws_markLibrary_21 r nr_Maps hbdr_Maps hler_Maps nr_Away hbdr_Away hler_Away k hp0 hp1 hp2 hp3)), ((hO13).kp hk17 (fun b_ hb e' => hdr_Maps_r_Away b_ hb e')), (hO18), hB20⟩

theorem z_c_laws_heldLibrary_14 (r : Library) (nr_Maps : Nat) (hbdr_Maps : (nr_Maps : Int) ≤ 9223372036854775807) (hler_Maps : nr_Maps = r.Maps.length) (nr_Away : Nat) (hbdr_Away : (nr_Away : Int) ≤ 9223372036854775807) (hler_Away : nr_Away = r.Away.length) (k : Int) (m_Maps : Nat) (m_Away : Nat) (hp0 : 0 ≤ k) (hp1 : k ≤ 1000) (hp2 : (nr_Maps : Int) ≤ 1048576) (hp3 : (nr_Away : Int) ≤ 1048576) (hp4 : r.Maps = mkL mkLMap 3 m_Maps k) (hp5 : r.Away = mkL mkAway 2 m_Away (k + 3 * (m_Maps : Int))) (hp6 : (m_Maps : Int) ≤ 1048576) (hp7 : (m_Away : Int) ≤ 1048576) (h13 : (k + 3 * (m_Maps : Int)) < 0) : (-1) = k + 3 * (m_Maps : Int) + 2 * (m_Away : Int) := by
  first | rfl | omega
theorem z_c_laws_heldLibrary_20 (r : Library) (nr_Maps : Nat) (hbdr_Maps : (nr_Maps : Int) ≤ 9223372036854775807) (hler_Maps : nr_Maps = r.Maps.length) (nr_Away : Nat) (hbdr_Away : (nr_Away : Int) ≤ 9223372036854775807) (hler_Away : nr_Away = r.Away.length) (k : Int) (m_Maps : Nat) (m_Away : Nat) (hp0 : 0 ≤ k) (hp1 : k ≤ 1000) (hp2 : (nr_Maps : Int) ≤ 1048576) (hp3 : (nr_Away : Int) ≤ 1048576) (hp4 : r.Maps = mkL mkLMap 3 m_Maps k) (hp5 : r.Away = mkL mkAway 2 m_Away (k + 3 * (m_Maps : Int))) (hp6 : (m_Maps : Int) ≤ 1048576) (hp7 : (m_Away : Int) ≤ 1048576) (h13 : ¬ ((k + 3 * (m_Maps : Int)) < 0)) (h19 : ((k + 3 * (m_Maps : Int)) + 2 * (m_Away : Int)) < 0) : (-1) = k + 3 * (m_Maps : Int) + 2 * (m_Away : Int) := by
  first | rfl | omega
theorem z_c_laws_heldLibrary_21 (r : Library) (nr_Maps : Nat) (hbdr_Maps : (nr_Maps : Int) ≤ 9223372036854775807) (hler_Maps : nr_Maps = r.Maps.length) (nr_Away : Nat) (hbdr_Away : (nr_Away : Int) ≤ 9223372036854775807) (hler_Away : nr_Away = r.Away.length) (k : Int) (m_Maps : Nat) (m_Away : Nat) (hp0 : 0 ≤ k) (hp1 : k ≤ 1000) (hp2 : (nr_Maps : Int) ≤ 1048576) (hp3 : (nr_Away : Int) ≤ 1048576) (hp4 : r.Maps = mkL mkLMap 3 m_Maps k) (hp5 : r.Away = mkL mkAway 2 m_Away (k + 3 * (m_Maps : Int))) (hp6 : (m_Maps : Int) ≤ 1048576) (hp7 : (m_Away : Int) ≤ 1048576) (h13 : ¬ ((k + 3 * (m_Maps : Int)) < 0)) (h19 : ¬ (((k + 3 * (m_Maps : Int)) + 2 * (m_Away : Int)) < 0)) : (k + 3 * (m_Maps : Int)) + 2 * (m_Away : Int) = k + 3 * (m_Maps : Int) + 2 * (m_Away : Int) := by
  first | rfl | omega
theorem c_laws_heldLibrary (w : World) (r : Library) {Ar_Maps : Option Addr} {nr_Maps cr_Maps Br_Maps : Nat} (hr_Maps : SlR w Br_Maps encLMap 3 Ar_Maps nr_Maps cr_Maps r.Maps) {Ar_Away : Option Addr} {nr_Away cr_Away Br_Away : Nat} (hr_Away : SlR w Br_Away encAway 2 Ar_Away nr_Away cr_Away r.Away) (k : Int) (m_Maps : Nat) (m_Away : Nat) (hp0 : 0 ≤ k) (hp1 : k ≤ 1000) (hp2 : (nr_Maps : Int) ≤ 1048576) (hp3 : (nr_Away : Int) ≤ 1048576) (hp4 : r.Maps = mkL mkLMap 3 m_Maps k) (hp5 : r.Away = mkL mkAway 2 m_Away (k + 3 * (m_Maps : Int))) (hp6 : (m_Maps : Int) ≤ 1048576) (hp7 : (m_Away : Int) ≤ 1048576) : Calls Try.prog 14 #[.agg (List.toArray [.slice Ar_Maps nr_Maps cr_Maps, .slice Ar_Away nr_Away cr_Away, .int .i64 r.Bought, .int .i64 r.Dropped, .int .i64 r.Mended]), .int .i64 k] w fun e w' => e = .returned (.int .i64 (k + 3 * (m_Maps : Int) + 2 * (m_Away : Int))) ∧ Lo w w' := by
  refine calls_W 18 Try.func14 rfl rfl rfl ?_
  have hbdr_Maps := hr_Maps.bound
  have hler_Maps := hr_Maps.len
  have hBbr_Maps := hr_Maps.bd
  have hbdr_Away := hr_Away.bound
  have hler_Away := hr_Away.len
  have hBbr_Away := hr_Away.bd
  refine W.seq ?_
  refine W.regS (SR.box (v := .agg (List.toArray _)) (l := [.slice Ar_Maps nr_Maps cr_Maps, .slice Ar_Away nr_Away cr_Away, .int .i64 r.Bought, .int .i64 r.Dropped, .int .i64 r.Mended]) rfl rfl ?_)
  intro g1 w2 hg3 hk4 hs5 hb6
  have hz7 := hk4.size
  have hB8 := (Lo.refl w).lo hk4
  refine SR.q' (r_as (v := .int .i64 0) rfl) <| SR.nil ?_
  refine W.seq ?_
  refine W.regS (SR.q' (r_fa fa25_0 rfl) <| SR.q' (r_ld (v := .slice Ar_Maps nr_Maps cr_Maps) sca22 rfl ((hb6).cell rfl)) <| SR.q' (r_mv (v := .int .i64 _) rfl) <| SR.call ent22 (c_laws_heldMapS w2 r.Maps (((hr_Maps).lo hk4)) k m_Maps (by omega) (by omega) (by omega) (by first | rfl | assumption)) rfl ?_)
  rintro e w9 ⟨rfl, hk10⟩
  refine ⟨_, rfl, ?_⟩
  have hz11 := hk10.size
  have hB12 := hB8.lo hk10
  refine SR.q' (r_as (v := .int .i64 _) rfl) <| SR.nil ?_
  refine W.seq ?_
  refine W.seq ?_
  refine W.regS (SR.q' (r_mv (v := .int .i64 _) rfl) <| SR.q' (r_lt rfl rfl) <| SR.nil ?_)
  refine W.cond_d rfl (fun h13 => ?_) (fun h13 => ?_)
  · refine W.seq ?_
    refine W.regS (SR.q' (r_as (v := .int .i64 (-1)) rfl) <| SR.nil ?_)
    refine W.ret ?_
    refine ret1 rfl (v := .int .i64 _) rfl ?_
    exact ⟨eR (eI (z_c_laws_heldLibrary_14 r nr_Maps hbdr_Maps hler_Maps nr_Away hbdr_Away hler_Away k m_Maps m_Away hp0 hp1 hp2 hp3 hp4 hp5 hp6 hp7 h13)), hB12⟩
  · refine W.skip ?_
    refine W.seq ?_
    refine W.regS (SR.q' (r_fa fa25_1 rfl) <| SR.q' (r_ld (v := .slice Ar_Away nr_Away cr_Away) sca23 rfl (((hb6).lo hk10).cell rfl)) <| SR.q' (r_mv (v := .int .i64 _) rfl) <| SR.call ent23 (c_laws_heldAwayS w9 r.Away ((((hr_Away).lo hk4).lo hk10)) (k + 3 * (m_Maps : Int)) m_Away (by omega) (by omega) (by omega) (by first | rfl | assumption)) rfl ?_)
    rintro e w15 ⟨rfl, hk16⟩
    refine ⟨_, rfl, ?_⟩
    have hz17 := hk16.size
    have hB18 := hB12.lo hk16
    refine SR.q' (r_as (v := .int .i64 _) rfl) <| SR.nil ?_
    refine W.seq ?_
    refine W.seq ?_
    refine W.regS (SR.q' (r_mv (v := .int .i64 _) rfl) <| SR.q' (r_lt rfl rfl) <| SR.nil ?_)
    refine W.cond_d rfl (fun h19 => ?_) (fun h19 => ?_)
    · refine W.seq ?_
      refine W.regS (SR.q' (r_as (v := .int .i64 (-1)) rfl) <| SR.nil ?_)
      refine W.ret ?_
      refine ret1 rfl (v := .int .i64 _) rfl ?_
      exact ⟨eR (eI (z_c_laws_heldLibrary_20 r nr_Maps hbdr_Maps hler_Maps nr_Away hbdr_Away hler_Away k m_Maps m_Away hp0 hp1 hp2 hp3 hp4 hp5 hp6 hp7 h13 h19)), hB18⟩
    · refine W.skip ?_
      refine W.seq ?_
      refine W.regS (SR.q' (r_mv (v := .int .i64 _) rfl) <| SR.q' (r_as (v := .int .i64 _) rfl) <| SR.nil ?_)
      refine W.ret ?_
      refine ret1 rfl (v := .int .i64 _) rfl ?_
      exact ⟨eR (eI (z_c_laws_heldLibrary_21 r nr_Maps hbdr_Maps hler_Maps nr_Away hbdr_Away hler_Away k m_Maps m_Away hp0 hp1 hp2 hp3 hp4 hp5 hp6 hp7 h13 h19)), hB18⟩

theorem z_c_spec_l32There_9 (x : Library) (nx_Maps : Nat) (hbdx_Maps : (nx_Maps : Int) ≤ 9223372036854775807) (hlex_Maps : nx_Maps = x.Maps.length) (nx_Away : Nat) (hbdx_Away : (nx_Away : Int) ≤ 9223372036854775807) (hlex_Away : nx_Away = x.Away.length) (b : Bool) (hp0 : MapsOK x.Maps) (hp1 : nx_Maps ≤ 8) : 0 ≤ nx_Maps ∧ thereS b (x.Maps.take 0) = (0 : Int) ∧ 0 ≤ (0 : Int) ∧ (0 : Int) ≤ 99 * (0 : Int) := by
  cases b <;> simp [thereS, sumC, sumT]
theorem z_c_spec_l32There_24 (x : Library) (nx_Maps : Nat) (hbdx_Maps : (nx_Maps : Int) ≤ 9223372036854775807) (hlex_Maps : nx_Maps = x.Maps.length) (nx_Away : Nat) (hbdx_Away : (nx_Away : Int) ≤ 9223372036854775807) (hlex_Away : nx_Away = x.Away.length) (b : Bool) (hp0 : MapsOK x.Maps) (hp1 : nx_Maps ≤ 8) (k : Nat) (t : Int) (hi17 : k ≤ nx_Maps ∧ thereS b (x.Maps.take k) = t ∧ 0 ≤ t ∧ t ≤ 99 * (k : Int)) (h19 : (k : Int) < (nx_Maps : Int)) (h20 : b = true) (hx22 : x.Maps[k]? = some (gt x.Maps k)) : k + 1 ≤ nx_Maps ∧ thereS b (x.Maps.take (k + 1)) = t + ((gt x.Maps k).Torn) ∧ 0 ≤ t + ((gt x.Maps k).Torn) ∧ t + ((gt x.Maps k).Torn) ≤ 99 * (k + 1 : Int) := by
  have hh := ‹_ ∧ thereS b _ = _ ∧ _›
  have hq := maps_rng hp0 ‹x.Maps[k]? = some _›
  first | exact ⟨by omega, thereS_t ‹_› (by omega) hh.2.1, by omega, by omega⟩ | exact ⟨by omega, thereS_f ‹_› (by omega) hh.2.1, by omega, by omega⟩
theorem z_c_spec_l32There_25 (x : Library) (nx_Maps : Nat) (hbdx_Maps : (nx_Maps : Int) ≤ 9223372036854775807) (hlex_Maps : nx_Maps = x.Maps.length) (nx_Away : Nat) (hbdx_Away : (nx_Away : Int) ≤ 9223372036854775807) (hlex_Away : nx_Away = x.Away.length) (b : Bool) (hp0 : MapsOK x.Maps) (hp1 : nx_Maps ≤ 8) (k : Nat) (t : Int) (hi17 : k ≤ nx_Maps ∧ thereS b (x.Maps.take k) = t ∧ 0 ≤ t ∧ t ≤ 99 * (k : Int)) (h19 : (k : Int) < (nx_Maps : Int)) (h20 : b = true) (hx22 : x.Maps[k]? = some (gt x.Maps k)) : nx_Maps - (k + 1) < nx_Maps - k := by
  omega
theorem z_c_spec_l32There_29 (x : Library) (nx_Maps : Nat) (hbdx_Maps : (nx_Maps : Int) ≤ 9223372036854775807) (hlex_Maps : nx_Maps = x.Maps.length) (nx_Away : Nat) (hbdx_Away : (nx_Away : Int) ≤ 9223372036854775807) (hlex_Away : nx_Away = x.Away.length) (b : Bool) (hp0 : MapsOK x.Maps) (hp1 : nx_Maps ≤ 8) (k : Nat) (t : Int) (hi17 : k ≤ nx_Maps ∧ thereS b (x.Maps.take k) = t ∧ 0 ≤ t ∧ t ≤ 99 * (k : Int)) (h19 : (k : Int) < (nx_Maps : Int)) (h20 : b = false) (hx27 : x.Maps[k]? = some (gt x.Maps k)) : k + 1 ≤ nx_Maps ∧ thereS b (x.Maps.take (k + 1)) = t + ((gt x.Maps k).Copies) ∧ 0 ≤ t + ((gt x.Maps k).Copies) ∧ t + ((gt x.Maps k).Copies) ≤ 99 * (k + 1 : Int) := by
  have hh := ‹_ ∧ thereS b _ = _ ∧ _›
  have hq := maps_rng hp0 ‹x.Maps[k]? = some _›
  first | exact ⟨by omega, thereS_t ‹_› (by omega) hh.2.1, by omega, by omega⟩ | exact ⟨by omega, thereS_f ‹_› (by omega) hh.2.1, by omega, by omega⟩
theorem z_c_spec_l32There_30 (x : Library) (nx_Maps : Nat) (hbdx_Maps : (nx_Maps : Int) ≤ 9223372036854775807) (hlex_Maps : nx_Maps = x.Maps.length) (nx_Away : Nat) (hbdx_Away : (nx_Away : Int) ≤ 9223372036854775807) (hlex_Away : nx_Away = x.Away.length) (b : Bool) (hp0 : MapsOK x.Maps) (hp1 : nx_Maps ≤ 8) (k : Nat) (t : Int) (hi17 : k ≤ nx_Maps ∧ thereS b (x.Maps.take k) = t ∧ 0 ≤ t ∧ t ≤ 99 * (k : Int)) (h19 : (k : Int) < (nx_Maps : Int)) (h20 : b = false) (hx27 : x.Maps[k]? = some (gt x.Maps k)) : nx_Maps - (k + 1) < nx_Maps - k := by
  omega
theorem z_c_spec_l32There_31 (x : Library) (nx_Maps : Nat) (hbdx_Maps : (nx_Maps : Int) ≤ 9223372036854775807) (hlex_Maps : nx_Maps = x.Maps.length) (nx_Away : Nat) (hbdx_Away : (nx_Away : Int) ≤ 9223372036854775807) (hlex_Away : nx_Away = x.Away.length) (b : Bool) (hp0 : MapsOK x.Maps) (hp1 : nx_Maps ≤ 8) (k : Nat) (t : Int) (hi17 : k ≤ nx_Maps ∧ thereS b (x.Maps.take k) = t ∧ 0 ≤ t ∧ t ≤ 99 * (k : Int)) (h19 : ¬ ((k : Int) < (nx_Maps : Int))) : t = (if b = true then sumT x.Maps else sumC x.Maps) := by
  have hh := ‹_ ∧ thereS b _ = _ ∧ _›
  rw [← hh.2.1, List.take_of_length_le (by omega)]; rfl
theorem c_spec_l32There (w : World) (x : Library) {Ax_Maps : Option Addr} {nx_Maps cx_Maps Bx_Maps : Nat} (hx_Maps : SlR w Bx_Maps encLMap 3 Ax_Maps nx_Maps cx_Maps x.Maps) {Ax_Away : Option Addr} {nx_Away cx_Away Bx_Away : Nat} (hx_Away : SlR w Bx_Away encAway 2 Ax_Away nx_Away cx_Away x.Away) (b : Bool) (hp0 : MapsOK x.Maps) (hp1 : nx_Maps ≤ 8) : Calls Try.prog 27 #[.agg (List.toArray [.slice Ax_Maps nx_Maps cx_Maps, .slice Ax_Away nx_Away cx_Away, .int .i64 x.Bought, .int .i64 x.Dropped, .int .i64 x.Mended]), .bool b] w fun e w' => e = .returned (.int .i64 (if b = true then sumT x.Maps else sumC x.Maps)) ∧ Lo w w' := by
  refine calls_W 32 Try.func27 rfl rfl rfl ?_
  have hbdx_Maps := hx_Maps.bound
  have hlex_Maps := hx_Maps.len
  have hBbx_Maps := hx_Maps.bd
  have hbdx_Away := hx_Away.bound
  have hlex_Away := hx_Away.len
  have hBbx_Away := hx_Away.bd
  refine W.seq ?_
  refine W.regS (SR.box (v := .agg (List.toArray _)) (l := [.slice Ax_Maps nx_Maps cx_Maps, .slice Ax_Away nx_Away cx_Away, .int .i64 x.Bought, .int .i64 x.Dropped, .int .i64 x.Mended]) rfl rfl ?_)
  intro g1 w2 hg3 hk4 hs5 hb6
  have hz7 := hk4.size
  have hB8 := (Lo.refl w).lo hk4
  refine SR.q' (r_as (v := .int .i64 0) rfl) <| SR.nil ?_
  refine W.seq ?_
  refine W.regS (SR.q' (r_as (v := .int .i64 0) rfl) <| SR.nil ?_)
  refine W.seq ?_
  refine W.seq ?_
  refine W.regS (SR.q' (r_as (v := .int .i64 0) rfl) <| SR.nil ?_)
  refine W.block ?_
  refine W.loop (σ := Nat × Int) (fun g => [(1, .bool b), (2, .pointer (some ((⟨g1, 0, none⟩ : Addr)))), (4, .int .i64 0), (5, .int .i64 g.2), (6, .int .i64 (g.1 : Int))]) (fun g w' => (Lo w w') ∧ (Blk w' g1 25 [.slice Ax_Maps nx_Maps cx_Maps, .slice Ax_Away nx_Away cx_Away, .int .i64 x.Bought, .int .i64 x.Dropped, .int .i64 x.Mended]) ∧ (SlR w' Bx_Maps encLMap 3 Ax_Maps nx_Maps cx_Maps x.Maps) ∧ (SlR w' Bx_Away encAway 2 Ax_Away nx_Away cx_Away x.Away) ∧ (g.1 ≤ nx_Maps ∧ thereS b (x.Maps.take g.1) = g.2 ∧ 0 ≤ g.2 ∧ g.2 ≤ 99 * (g.1 : Int))) (fun g => nx_Maps - g.1) (0, (0 : Int)) ?_ ?_ ?_
  · exact ⟨rfl, rfl, rfl, rfl, rfl, trivial⟩
  · exact ⟨hB8, hb6, (hx_Maps).lo hk4, (hx_Away).lo hk4, (z_c_spec_l32There_9 x nx_Maps hbdx_Maps hlex_Maps nx_Away hbdx_Away hlex_Away b hp0 hp1)⟩
  · rintro ⟨k, t⟩ f10 w11 hP13
    obtain ⟨hB12, hm14, hm15, hm16, hi17⟩ : (Lo w w11) ∧ (Blk w11 g1 25 [.slice Ax_Maps nx_Maps cx_Maps, .slice Ax_Away nx_Away cx_Away, .int .i64 x.Bought, .int .i64 x.Dropped, .int .i64 x.Mended]) ∧ (SlR w11 Bx_Maps encLMap 3 Ax_Maps nx_Maps cx_Maps x.Maps) ∧ (SlR w11 Bx_Away encAway 2 Ax_Away nx_Away cx_Away x.Away) ∧ (k ≤ nx_Maps ∧ thereS b (x.Maps.take k) = t ∧ 0 ≤ t ∧ t ≤ 99 * (k : Int)) := hP13
    refine (?_ : W _ _ _ _ _ (act _ (sets f10 [(1, .bool b), (2, .pointer (some ((⟨g1, 0, none⟩ : Addr)))), (4, .int .i64 0), (5, .int .i64 t), (6, .int .i64 (k : Int))])) _)
    have hzw11 := hB12.size
    have hl18 := hm14.lt
    refine W.seq ?_
    refine W.seq ?_
    refine W.regS (SR.q' (r_mv (v := .int .i64 _) rfl) <| SR.q' (r_fa fa25_0 rfl) <| SR.q' (r_ld (v := .slice Ax_Maps nx_Maps cx_Maps) sca22 rfl ((hm14).cell rfl)) <| SR.q' (r_len und22 rfl) <| SR.q' (r_lt rfl rfl) <| SR.nil ?_)
    refine W.cond_d rfl (fun h19 => ?_) (fun h19 => ?_)
    · refine W.skip ?_
      refine W.seq ?_
      refine W.block ?_
      refine W.seq ?_
      refine W.regS (SR.q' (r_mv (v := .bool _) rfl) <| SR.nil ?_)
      refine W.cond_b rfl (fun h20 => ?_) (fun h20 => ?_)
      · refine W.regS (SR.q' (r_mv (v := .int .i64 _) rfl) <| SR.q' (r_fa fa25_0 rfl) <| SR.q' (r_ld (v := .slice Ax_Maps nx_Maps cx_Maps) sca22 rfl ((hm14).cell rfl)) <| SR.q' (r_mv (v := .int .i64 _) rfl) <| ?_)
        have hx22 := (hm15).elem (i := k) (by omega)
        have hq23 := maps_rng ‹MapsOK x.Maps› hx22
        refine SR.q' (r_ixR tsl22 (hm15) rfl rfl (by omega)) <| SR.q' (r_fa fa41_2 rfl) <| SR.q' (r_ld (v := .int .i64 ((gt x.Maps k).Torn)) sca3 rfl ((hm15).cell hx22 rfl)) <| SR.q' (r_add rfl rfl (by omega)) <| SR.q' (r_as (v := .int .i64 _) rfl) <| SR.nil ?_
        refine W.regS (SR.q' (r_mv (v := .int .i64 _) rfl) <| SR.q' (r_add rfl rfl (by omega)) <| SR.q' (r_as (v := .int .i64 _) rfl) <| SR.nil ?_)
        refine ⟨(k + 1, t + ((gt x.Maps k).Torn)), _, rfl, ⟨rfl, rfl, rfl, rfl, rfl, trivial⟩, ⟨hB12, hm14, hm15, hm16, ?_⟩, ?_⟩
        · exact (z_c_spec_l32There_24 x nx_Maps hbdx_Maps hlex_Maps nx_Away hbdx_Away hlex_Away b hp0 hp1 k t hi17 h19 h20 hx22)
        · exact (z_c_spec_l32There_25 x nx_Maps hbdx_Maps hlex_Maps nx_Away hbdx_Away hlex_Away b hp0 hp1 k t hi17 h19 h20 hx22)
      · refine W.regS (SR.q' (r_mv (v := .int .i64 _) rfl) <| SR.q' (r_fa fa25_0 rfl) <| SR.q' (r_ld (v := .slice Ax_Maps nx_Maps cx_Maps) sca22 rfl ((hm14).cell rfl)) <| SR.q' (r_mv (v := .int .i64 _) rfl) <| ?_)
        have hx27 := (hm15).elem (i := k) (by omega)
        have hq28 := maps_rng ‹MapsOK x.Maps› hx27
        refine SR.q' (r_ixR tsl22 (hm15) rfl rfl (by omega)) <| SR.q' (r_fa fa41_1 rfl) <| SR.q' (r_ld (v := .int .i64 ((gt x.Maps k).Copies)) sca3 rfl ((hm15).cell hx27 rfl)) <| SR.q' (r_add rfl rfl (by omega)) <| SR.q' (r_as (v := .int .i64 _) rfl) <| SR.nil ?_
        refine W.regS (SR.q' (r_mv (v := .int .i64 _) rfl) <| SR.q' (r_add rfl rfl (by omega)) <| SR.q' (r_as (v := .int .i64 _) rfl) <| SR.nil ?_)
        refine ⟨(k + 1, t + ((gt x.Maps k).Copies)), _, rfl, ⟨rfl, rfl, rfl, rfl, rfl, trivial⟩, ⟨hB12, hm14, hm15, hm16, ?_⟩, ?_⟩
        · exact (z_c_spec_l32There_29 x nx_Maps hbdx_Maps hlex_Maps nx_Away hbdx_Away hlex_Away b hp0 hp1 k t hi17 h19 h20 hx27)
        · exact (z_c_spec_l32There_30 x nx_Maps hbdx_Maps hlex_Maps nx_Away hbdx_Away hlex_Away b hp0 hp1 k t hi17 h19 h20 hx27)
    · refine W.exit (xin_here ?_)
      refine W.seq ?_
      refine W.regS (SR.q' (r_mv (v := .int .i64 _) rfl) <| SR.q' (r_as (v := .int .i64 _) rfl) <| SR.nil ?_)
      refine W.ret ?_
      refine ret1 rfl (v := .int .i64 _) rfl ?_
      exact ⟨eR (eI (z_c_spec_l32There_31 x nx_Maps hbdx_Maps hlex_Maps nx_Away hbdx_Away hlex_Away b hp0 hp1 k t hi17 h19)), hB12⟩
end Go.Proofs.Ytocpdkhahmbaiaa
