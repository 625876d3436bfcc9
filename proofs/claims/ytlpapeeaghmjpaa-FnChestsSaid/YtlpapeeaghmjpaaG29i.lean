/- Walks, printed by a program of this claim's author. -/
import Derived.Test.YtlpapeeaghmjpaaChecked
import Derived.Test.YtlpapeeaghmjpaaSa
import Derived.Test.YtlpapeeaghmjpaaFu
import Derived.Test.YtlpapeeaghmjpaaFs
import Derived.Test.YtlpapeeaghmjpaaFq
import Derived.Test.YtlpapeeaghmjpaaFo
import Derived.Test.YtlpapeeaghmjpaaG29h
namespace Go.Proofs.Ytlpapeeaghmjpaa
open Go Go.RowKit Fw
set_option maxRecDepth 10000
set_option linter.unusedVariables false


open Classical in
noncomputable def impl_MapsAbove (x : Chest) (v : Int) : Int × Bool :=
  if (¬ (ChestOK x)) ∨ ((idxF (eqI v) x.Stack) < 0) then (0, false) else (((x.Stack.length : Int) - 1) - (idxF (eqI v) x.Stack), true)
theorem c_impl_MapsAbove (w : World) (x : Chest) {Ax_Stack : Option Addr} {nx_Stack cx_Stack Bx_Stack : Nat} (hx_Stack : SlR w Bx_Stack encI 1 Ax_Stack nx_Stack cx_Stack x.Stack) (v : Int) : Calls Try.prog 53 #[.agg (List.toArray [.int .i64 x.State, .int .i64 x.Key, .slice Ax_Stack nx_Stack cx_Stack, .int .i64 x.Dust, .int .i64 x.Laid, .int .i64 x.Given]), .int .i64 v] w fun e w' => e = .returned (.tuple (List.toArray [.int .i64 ((impl_MapsAbove x v).1), .bool ((impl_MapsAbove x v).2)])) ∧ Lo w w' := by
  refine calls_W 24 Try.func53 rfl rfl rfl ?_
  have hbdx_Stack := hx_Stack.bound
  have hlex_Stack := hx_Stack.len
  have hBbx_Stack := hx_Stack.bd
  have hbdx_Stack := hx_Stack.bound
  have hlex_Stack := hx_Stack.len
  have hBbx_Stack := hx_Stack.bd
  refine W.seq ?_
  refine W.regS (SR.box (v := .agg (List.toArray _)) (l := [.int .i64 x.State, .int .i64 x.Key, .slice Ax_Stack nx_Stack cx_Stack, .int .i64 x.Dust, .int .i64 x.Laid, .int .i64 x.Given]) rfl rfl ?_)
  intro g1 w2 hg3 hk4 hs5 hb6
  have hz7 := hk4.size
  have hB8 := (Lo.refl w).lo hk4
  refine SR.q' (r_as (v := .int .i64 0) rfl) <| SR.q' (r_as (v := .bool false) rfl) <| SR.nil ?_
  refine W.seq ?_
  refine W.regS (SR.q' (r_fa fa28_2 rfl) <| SR.q' (r_ld (v := .slice Ax_Stack nx_Stack cx_Stack) sca22 rfl ((hb6).cell rfl)) <| SR.q' (r_mv (v := .int .i64 _) rfl) <| SR.call ent94 (c_slices_Index___int_int_ w2 x.Stack (((hx_Stack).lo hk4)) v) rfl ?_)
  rintro e w9 ⟨rfl, hk10⟩
  refine ⟨_, rfl, ?_⟩
  have hz11 := hk10.size
  have hB12 := hB8.lo hk10
  have hq13 : idxF (eqI v) x.Stack < (x.Stack.length : Int) ∧ -1 ≤ idxF (eqI v) x.Stack := idx_lt
  refine SR.q' (r_as (v := .int .i64 _) rfl) <| SR.nil ?_
  refine W.seq ?_
  refine W.seq ?_
  refine W.regJS (fun f' w' => At f' [(2, .pointer (some ((⟨g1, 0, none⟩ : Addr)))), (4, .int .i64 0), (5, .bool false), (6, .int .i64 (idxF (eqI v) x.Stack)), (17, .bool (decide ((¬ (ChestOK x)) ∨ ((idxF (eqI v) x.Stack) < 0))))] ∧ Lo w9 w') ?_ ?_
  · refine SR.q' (r_lda (l := [.int .i64 x.State, .int .i64 x.Key, .slice Ax_Stack nx_Stack cx_Stack, .int .i64 x.Dust, .int .i64 x.Laid, .int .i64 x.Given]) agg28 rfl (fun _ _ hu => ((hb6).lo hk10).cell hu) rfl) <| SR.call ent49 (c_impl_IsChest w9 x ((((hx_Stack).lo hk4).lo hk10))) rfl ?_
    rintro e w14 ⟨rfl, hk15⟩
    refine ⟨_, rfl, ?_⟩
    have hz16 := hk15.size
    have hB17 := hB12.lo hk15
    refine SR.q' (r_not rfl) <| SR.q' (r_mv (v := .bool _) rfl) <| SR.splitN (fun h18 => ?_) (fun h18 => ?_)
    · refine SR.s' rfl <| SR.s' rfl <| SR.q' (r_pick true rfl (v := .bool true) rfl) <| SR.nil ?_
      exact ⟨_, rfl, ⟨⟨rfl, rfl, rfl, rfl, (eDT ((jmf h18).1 trivial)), trivial⟩, (hk15)⟩⟩
    · have hq19 := chest_len h18
      refine SR.g' rfl (r_mv (v := .int .i64 _) rfl) <| SR.g' rfl (r_lt rfl rfl) <| SR.q' (r_pick false rfl (v := .bool _) rfl) <| SR.nil ?_
      exact ⟨_, rfl, ⟨⟨rfl, rfl, rfl, rfl, (eDD (jmt h18)), trivial⟩, (hk15)⟩⟩
  rintro f20 w21 ⟨hat22, hk23⟩
  rw [← sets_of_at hat22]
  have hz24 := hk23.size
  have hB25 := hB12.lo hk23
  refine W.cond_d rfl (fun h26 => ?_) (fun h26 => ?_)
  · refine W.seq ?_
    refine W.regS (SR.q' (r_as (v := .int .i64 0) rfl) <| SR.q' (r_as (v := .bool false) rfl) <| SR.nil ?_)
    refine W.ret ?_
    refine ret2 rfl (v := .int .i64 _) (v' := .bool _) rfl rfl ?_
    exact ⟨eR (eT2 (eI (by unfold impl_MapsAbove; rw [if_pos h26] <;> rfl)) (eB (by unfold impl_MapsAbove; rw [if_pos h26] <;> rfl))), hB25⟩
  · have hq27 : ChestOK x := (Classical.not_not.1 (not_or.1 h26).1)
    have hq28 : ¬ ((idxF (eqI v) x.Stack) < 0) := (not_or.1 h26).2
    have hq29 := chest_len hq27
    refine W.skip ?_
    refine W.seq ?_
    refine W.regS (SR.q' (r_fa fa28_2 rfl) <| SR.q' (r_ld (v := .slice Ax_Stack nx_Stack cx_Stack) sca22 rfl ((((hb6).lo hk10).lo hk23).cell rfl)) <| SR.q' (r_len und22 rfl) <| SR.q' (r_sub rfl rfl (by omega)) <| SR.q' (r_mv (v := .int .i64 _) rfl) <| SR.q' (r_sub rfl rfl (by omega)) <| SR.q' (r_as (v := .int .i64 _) rfl) <| SR.q' (r_as (v := .bool true) rfl) <| SR.nil ?_)
    refine W.ret ?_
    refine ret2 rfl (v := .int .i64 _) (v' := .bool _) rfl rfl ?_
    exact ⟨eR (eT2 (eI (by subst hlex_Stack; unfold impl_MapsAbove; rw [if_neg h26] <;> rfl)) (eB (by subst hlex_Stack; unfold impl_MapsAbove; rw [if_neg h26] <;> rfl))), hB25⟩

open Classical in
noncomputable def spec_MapsAbove (x : Chest) (v : Int) : Int × Bool :=
  if (¬ (ChestOK x)) ∨ ((idxF (eqI v) x.Stack) < 0) then (0, false) else (((x.Stack.length : Int) - 1) - (idxF (eqI v) x.Stack), true)
theorem c_spec_MapsAbove (w : World) (x : Chest) {Ax_Stack : Option Addr} {nx_Stack cx_Stack Bx_Stack : Nat} (hx_Stack : SlR w Bx_Stack encI 1 Ax_Stack nx_Stack cx_Stack x.Stack) (v : Int) : Calls Try.prog 54 #[.agg (List.toArray [.int .i64 x.State, .int .i64 x.Key, .slice Ax_Stack nx_Stack cx_Stack, .int .i64 x.Dust, .int .i64 x.Laid, .int .i64 x.Given]), .int .i64 v] w fun e w' => e = .returned (.tuple (List.toArray [.int .i64 ((spec_MapsAbove x v).1), .bool ((spec_MapsAbove x v).2)])) ∧ Lo w w' := by
  refine calls_W 24 Try.func54 rfl rfl rfl ?_
  have hbdx_Stack := hx_Stack.bound
  have hlex_Stack := hx_Stack.len
  have hBbx_Stack := hx_Stack.bd
  have hbdx_Stack := hx_Stack.bound
  have hlex_Stack := hx_Stack.len
  have hBbx_Stack := hx_Stack.bd
  refine W.seq ?_
  refine W.regS (SR.box (v := .agg (List.toArray _)) (l := [.int .i64 x.State, .int .i64 x.Key, .slice Ax_Stack nx_Stack cx_Stack, .int .i64 x.Dust, .int .i64 x.Laid, .int .i64 x.Given]) rfl rfl ?_)
  intro g1 w2 hg3 hk4 hs5 hb6
  have hz7 := hk4.size
  have hB8 := (Lo.refl w).lo hk4
  refine SR.q' (r_as (v := .int .i64 0) rfl) <| SR.q' (r_as (v := .bool false) rfl) <| SR.nil ?_
  refine W.seq ?_
  refine W.regS (SR.q' (r_fa fa28_2 rfl) <| SR.q' (r_ld (v := .slice Ax_Stack nx_Stack cx_Stack) sca22 rfl ((hb6).cell rfl)) <| SR.q' (r_mv (v := .int .i64 _) rfl) <| SR.call ent95 (c_spec_l21Find w2 x.Stack (((hx_Stack).lo hk4)) v) rfl ?_)
  rintro e w9 ⟨rfl, hk10⟩
  refine ⟨_, rfl, ?_⟩
  have hz11 := hk10.size
  have hB12 := hB8.lo hk10
  have hq13 : idxF (eqI v) x.Stack < (x.Stack.length : Int) ∧ -1 ≤ idxF (eqI v) x.Stack := idx_lt
  refine SR.q' (r_as (v := .int .i64 _) rfl) <| SR.nil ?_
  refine W.seq ?_
  refine W.seq ?_
  refine W.regJS (fun f' w' => At f' [(2, .pointer (some ((⟨g1, 0, none⟩ : Addr)))), (4, .int .i64 0), (5, .bool false), (6, .int .i64 (idxF (eqI v) x.Stack)), (17, .bool (decide ((¬ (ChestOK x)) ∨ ((idxF (eqI v) x.Stack) < 0))))] ∧ Lo w9 w') ?_ ?_
  · refine SR.q' (r_lda (l := [.int .i64 x.State, .int .i64 x.Key, .slice Ax_Stack nx_Stack cx_Stack, .int .i64 x.Dust, .int .i64 x.Laid, .int .i64 x.Given]) agg28 rfl (fun _ _ hu => ((hb6).lo hk10).cell hu) rfl) <| SR.call ent58 (c_spec_l21Good w9 x ((((hx_Stack).lo hk4).lo hk10))) rfl ?_
    rintro e w14 ⟨rfl, hk15⟩
    refine ⟨_, rfl, ?_⟩
    have hz16 := hk15.size
    have hB17 := hB12.lo hk15
    refine SR.q' (r_not rfl) <| SR.q' (r_mv (v := .bool _) rfl) <| SR.splitN (fun h18 => ?_) (fun h18 => ?_)
    · refine SR.s' rfl <| SR.s' rfl <| SR.q' (r_pick true rfl (v := .bool true) rfl) <| SR.nil ?_
      exact ⟨_, rfl, ⟨⟨rfl, rfl, rfl, rfl, (eDT ((jmf h18).1 trivial)), trivial⟩, (hk15)⟩⟩
    · have hq19 := chest_len h18
      refine SR.g' rfl (r_mv (v := .int .i64 _) rfl) <| SR.g' rfl (r_lt rfl rfl) <| SR.q' (r_pick false rfl (v := .bool _) rfl) <| SR.nil ?_
      exact ⟨_, rfl, ⟨⟨rfl, rfl, rfl, rfl, (eDD (jmt h18)), trivial⟩, (hk15)⟩⟩
  rintro f20 w21 ⟨hat22, hk23⟩
  rw [← sets_of_at hat22]
  have hz24 := hk23.size
  have hB25 := hB12.lo hk23
  refine W.cond_d rfl (fun h26 => ?_) (fun h26 => ?_)
  · refine W.seq ?_
    refine W.regS (SR.q' (r_as (v := .int .i64 0) rfl) <| SR.q' (r_as (v := .bool false) rfl) <| SR.nil ?_)
    refine W.ret ?_
    refine ret2 rfl (v := .int .i64 _) (v' := .bool _) rfl rfl ?_
    exact ⟨eR (eT2 (eI (by unfold spec_MapsAbove; rw [if_pos h26] <;> rfl)) (eB (by unfold spec_MapsAbove; rw [if_pos h26] <;> rfl))), hB25⟩
  · have hq27 : ChestOK x := (Classical.not_not.1 (not_or.1 h26).1)
    have hq28 : ¬ ((idxF (eqI v) x.Stack) < 0) := (not_or.1 h26).2
    have hq29 := chest_len hq27
    refine W.skip ?_
    refine W.seq ?_
    refine W.regS (SR.q' (r_fa fa28_2 rfl) <| SR.q' (r_ld (v := .slice Ax_Stack nx_Stack cx_Stack) sca22 rfl ((((hb6).lo hk10).lo hk23).cell rfl)) <| SR.q' (r_len und22 rfl) <| SR.q' (r_sub rfl rfl (by omega)) <| SR.q' (r_mv (v := .int .i64 _) rfl) <| SR.q' (r_sub rfl rfl (by omega)) <| SR.q' (r_as (v := .int .i64 _) rfl) <| SR.q' (r_as (v := .bool true) rfl) <| SR.nil ?_)
    refine W.ret ?_
    refine ret2 rfl (v := .int .i64 _) (v' := .bool _) rfl rfl ?_
    exact ⟨eR (eT2 (eI (by subst hlex_Stack; unfold spec_MapsAbove; rw [if_neg h26] <;> rfl)) (eB (by subst hlex_Stack; unfold spec_MapsAbove; rw [if_neg h26] <;> rfl))), hB25⟩

open Classical in
noncomputable def impl_TopMap (x : Chest) : Int × Bool :=
  if (¬ (ChestOK x)) ∨ ((x.Stack.length : Int) = 0) then (0, false) else ((gt x.Stack (x.Stack.length - 1)), true)
theorem c_impl_TopMap (w : World) (x : Chest) {Ax_Stack : Option Addr} {nx_Stack cx_Stack Bx_Stack : Nat} (hx_Stack : SlR w Bx_Stack encI 1 Ax_Stack nx_Stack cx_Stack x.Stack) : Calls Try.prog 55 #[.agg (List.toArray [.int .i64 x.State, .int .i64 x.Key, .slice Ax_Stack nx_Stack cx_Stack, .int .i64 x.Dust, .int .i64 x.Laid, .int .i64 x.Given])] w fun e w' => e = .returned (.tuple (List.toArray [.int .i64 ((impl_TopMap x).1), .bool ((impl_TopMap x).2)])) ∧ Lo w w' := by
  refine calls_W 21 Try.func55 rfl rfl rfl ?_
  have hbdx_Stack := hx_Stack.bound
  have hlex_Stack := hx_Stack.len
  have hBbx_Stack := hx_Stack.bd
  have hbdx_Stack := hx_Stack.bound
  have hlex_Stack := hx_Stack.len
  have hBbx_Stack := hx_Stack.bd
  refine W.seq ?_
  refine W.regS (SR.box (v := .agg (List.toArray _)) (l := [.int .i64 x.State, .int .i64 x.Key, .slice Ax_Stack nx_Stack cx_Stack, .int .i64 x.Dust, .int .i64 x.Laid, .int .i64 x.Given]) rfl rfl ?_)
  intro g1 w2 hg3 hk4 hs5 hb6
  have hz7 := hk4.size
  have hB8 := (Lo.refl w).lo hk4
  refine SR.q' (r_as (v := .int .i64 0) rfl) <| SR.q' (r_as (v := .bool false) rfl) <| SR.nil ?_
  refine W.seq ?_
  refine W.seq ?_
  refine W.regJS (fun f' w' => At f' [(1, .pointer (some ((⟨g1, 0, none⟩ : Addr)))), (2, .int .i64 0), (3, .bool false), (12, .bool (decide ((¬ (ChestOK x)) ∨ ((nx_Stack : Int) = 0))))] ∧ Lo w2 w') ?_ ?_
  · refine SR.q' (r_lda (l := [.int .i64 x.State, .int .i64 x.Key, .slice Ax_Stack nx_Stack cx_Stack, .int .i64 x.Dust, .int .i64 x.Laid, .int .i64 x.Given]) agg28 rfl (fun _ _ hu => (hb6).cell hu) rfl) <| SR.call ent49 (c_impl_IsChest w2 x (((hx_Stack).lo hk4))) rfl ?_
    rintro e w9 ⟨rfl, hk10⟩
    refine ⟨_, rfl, ?_⟩
    have hz11 := hk10.size
    have hB12 := hB8.lo hk10
    refine SR.q' (r_not rfl) <| SR.q' (r_mv (v := .bool _) rfl) <| SR.splitN (fun h13 => ?_) (fun h13 => ?_)
    · refine SR.s' rfl <| SR.s' rfl <| SR.s' rfl <| SR.s' rfl <| SR.q' (r_pick true rfl (v := .bool true) rfl) <| SR.nil ?_
      exact ⟨_, rfl, ⟨⟨rfl, rfl, rfl, (eDT ((jmf h13).1 trivial)), trivial⟩, (hk10)⟩⟩
    · have hq14 := chest_len h13
      refine SR.g' rfl (r_fa fa28_2 rfl) <| SR.g' rfl (r_ld (v := .slice Ax_Stack nx_Stack cx_Stack) sca22 rfl (((hb6).lo hk10).cell rfl)) <| SR.g' rfl (r_len und22 rfl) <| SR.g' rfl (r_eq rfl rfl) <| SR.q' (r_pick false rfl (v := .bool _) rfl) <| SR.nil ?_
      exact ⟨_, rfl, ⟨⟨rfl, rfl, rfl, (eDD (jmt h13)), trivial⟩, (hk10)⟩⟩
  rintro f15 w16 ⟨hat17, hk18⟩
  rw [← sets_of_at hat17]
  have hz19 := hk18.size
  have hB20 := hB8.lo hk18
  refine W.cond_d rfl (fun h21 => ?_) (fun h21 => ?_)
  · refine W.seq ?_
    refine W.regS (SR.q' (r_as (v := .int .i64 0) rfl) <| SR.q' (r_as (v := .bool false) rfl) <| SR.nil ?_)
    refine W.ret ?_
    refine ret2 rfl (v := .int .i64 _) (v' := .bool _) rfl rfl ?_
    exact ⟨eR (eT2 (eI (by subst hlex_Stack; unfold impl_TopMap; rw [if_pos h21] <;> rfl)) (eB (by subst hlex_Stack; unfold impl_TopMap; rw [if_pos h21] <;> rfl))), hB20⟩
  · have hq22 : ChestOK x := (Classical.not_not.1 (not_or.1 h21).1)
    have hq23 : ¬ ((nx_Stack : Int) = 0) := (not_or.1 h21).2
    have hq24 := chest_len hq22
    refine W.skip ?_
    refine W.seq ?_
    refine W.regS (SR.q' (r_fa fa28_2 rfl) <| SR.q' (r_ld (v := .slice Ax_Stack nx_Stack cx_Stack) sca22 rfl (((hb6).lo hk18).cell rfl)) <| SR.q' (r_fa fa28_2 rfl) <| SR.q' (r_ld (v := .slice Ax_Stack nx_Stack cx_Stack) sca22 rfl (((hb6).lo hk18).cell rfl)) <| SR.q' (r_len und22 rfl) <| SR.q' (r_sub rfl rfl (by omega)) <| ?_)
    have hx26 := (((hx_Stack).lo hk4).lo hk18).elem (i := ((nx_Stack : Int) - 1).toNat) (by omega)
    rw [show ((nx_Stack : Int) - 1).toNat = nx_Stack - 1 from by omega] at hx26
    have hx27 : x.Stack[((nx_Stack : Int) - 1).toNat]? = some (gt x.Stack (nx_Stack - 1)) := (show ((nx_Stack : Int) - 1).toNat = nx_Stack - 1 from by omega) ▸ hx26
    refine SR.q' (r_ixR tsl22 (((hx_Stack).lo hk4).lo hk18) rfl rfl (by omega)) <| SR.q' (r_ld (v := .int .i64 (gt x.Stack (nx_Stack - 1))) sca3 rfl ((((hx_Stack).lo hk4).lo hk18).cell0 hx27 rfl)) <| SR.q' (r_as (v := .int .i64 _) rfl) <| SR.q' (r_as (v := .bool true) rfl) <| SR.nil ?_
    refine W.ret ?_
    refine ret2 rfl (v := .int .i64 _) (v' := .bool _) rfl rfl ?_
    exact ⟨eR (eT2 (eI (by subst hlex_Stack; unfold impl_TopMap; rw [if_neg h21] <;> rfl)) (eB (by subst hlex_Stack; unfold impl_TopMap; rw [if_neg h21] <;> rfl))), hB20⟩

open Classical in
noncomputable def spec_TopMap (x : Chest) : Int × Bool :=
  if (¬ (ChestOK x)) ∨ ((x.Stack.length : Int) = 0) then (0, false) else ((gt x.Stack (x.Stack.length - 1)), true)
theorem c_spec_TopMap (w : World) (x : Chest) {Ax_Stack : Option Addr} {nx_Stack cx_Stack Bx_Stack : Nat} (hx_Stack : SlR w Bx_Stack encI 1 Ax_Stack nx_Stack cx_Stack x.Stack) : Calls Try.prog 56 #[.agg (List.toArray [.int .i64 x.State, .int .i64 x.Key, .slice Ax_Stack nx_Stack cx_Stack, .int .i64 x.Dust, .int .i64 x.Laid, .int .i64 x.Given])] w fun e w' => e = .returned (.tuple (List.toArray [.int .i64 ((spec_TopMap x).1), .bool ((spec_TopMap x).2)])) ∧ Lo w w' := by
  refine calls_W 21 Try.func56 rfl rfl rfl ?_
  have hbdx_Stack := hx_Stack.bound
  have hlex_Stack := hx_Stack.len
  have hBbx_Stack := hx_Stack.bd
  have hbdx_Stack := hx_Stack.bound
  have hlex_Stack := hx_Stack.len
  have hBbx_Stack := hx_Stack.bd
  refine W.seq ?_
  refine W.regS (SR.box (v := .agg (List.toArray _)) (l := [.int .i64 x.State, .int .i64 x.Key, .slice Ax_Stack nx_Stack cx_Stack, .int .i64 x.Dust, .int .i64 x.Laid, .int .i64 x.Given]) rfl rfl ?_)
  intro g1 w2 hg3 hk4 hs5 hb6
  have hz7 := hk4.size
  have hB8 := (Lo.refl w).lo hk4
  refine SR.q' (r_as (v := .int .i64 0) rfl) <| SR.q' (r_as (v := .bool false) rfl) <| SR.nil ?_
  refine W.seq ?_
  refine W.seq ?_
  refine W.regJS (fun f' w' => At f' [(1, .pointer (some ((⟨g1, 0, none⟩ : Addr)))), (2, .int .i64 0), (3, .bool false), (12, .bool (decide ((¬ (ChestOK x)) ∨ ((nx_Stack : Int) = 0))))] ∧ Lo w2 w') ?_ ?_
  · refine SR.q' (r_lda (l := [.int .i64 x.State, .int .i64 x.Key, .slice Ax_Stack nx_Stack cx_Stack, .int .i64 x.Dust, .int .i64 x.Laid, .int .i64 x.Given]) agg28 rfl (fun _ _ hu => (hb6).cell hu) rfl) <| SR.call ent58 (c_spec_l21Good w2 x (((hx_Stack).lo hk4))) rfl ?_
    rintro e w9 ⟨rfl, hk10⟩
    refine ⟨_, rfl, ?_⟩
    have hz11 := hk10.size
    have hB12 := hB8.lo hk10
    refine SR.q' (r_not rfl) <| SR.q' (r_mv (v := .bool _) rfl) <| SR.splitN (fun h13 => ?_) (fun h13 => ?_)
    · refine SR.s' rfl <| SR.s' rfl <| SR.s' rfl <| SR.s' rfl <| SR.q' (r_pick true rfl (v := .bool true) rfl) <| SR.nil ?_
      exact ⟨_, rfl, ⟨⟨rfl, rfl, rfl, (eDT ((jmf h13).1 trivial)), trivial⟩, (hk10)⟩⟩
    · have hq14 := chest_len h13
      refine SR.g' rfl (r_fa fa28_2 rfl) <| SR.g' rfl (r_ld (v := .slice Ax_Stack nx_Stack cx_Stack) sca22 rfl (((hb6).lo hk10).cell rfl)) <| SR.g' rfl (r_len und22 rfl) <| SR.g' rfl (r_eq rfl rfl) <| SR.q' (r_pick false rfl (v := .bool _) rfl) <| SR.nil ?_
      exact ⟨_, rfl, ⟨⟨rfl, rfl, rfl, (eDD (jmt h13)), trivial⟩, (hk10)⟩⟩
  rintro f15 w16 ⟨hat17, hk18⟩
  rw [← sets_of_at hat17]
  have hz19 := hk18.size
  have hB20 := hB8.lo hk18
  refine W.cond_d rfl (fun h21 => ?_) (fun h21 => ?_)
  · refine W.seq ?_
    refine W.regS (SR.q' (r_as (v := .int .i64 0) rfl) <| SR.q' (r_as (v := .bool false) rfl) <| SR.nil ?_)
    refine W.ret ?_
    refine ret2 rfl (v := .int .i64 _) (v' := .bool _) rfl rfl ?_
    exact ⟨eR (eT2 (eI (by subst hlex_Stack; unfold spec_TopMap; rw [if_pos h21] <;> rfl)) (eB (by subst hlex_Stack; unfold spec_TopMap; rw [if_pos h21] <;> rfl))), hB20⟩
  · have hq22 : ChestOK x := (Classical.not_not.1 (not_or.1 h21).1)
    have hq23 : ¬ ((nx_Stack : Int) = 0) := (not_or.1 h21).2
    have hq24 := chest_len hq22
    refine W.skip ?_
    refine W.seq ?_
    refine W.regS (SR.q' (r_fa fa28_2 rfl) <| SR.q' (r_ld (v := .slice Ax_Stack nx_Stack cx_Stack) sca22 rfl (((hb6).lo hk18).cell rfl)) <| SR.q' (r_fa fa28_2 rfl) <| SR.q' (r_ld (v := .slice Ax_Stack nx_Stack cx_Stack) sca22 rfl (((hb6).lo hk18).cell rfl)) <| SR.q' (r_len und22 rfl) <| SR.q' (r_sub rfl rfl (by omega)) <| ?_)
    have hx26 := (((hx_Stack).lo hk4).lo hk18).elem (i := ((nx_Stack : Int) - 1).toNat) (by omega)
    rw [show ((nx_Stack : Int) - 1).toNat = nx_Stack - 1 from by omega] at hx26
    have hx27 : x.Stack[((nx_Stack : Int) - 1).toNat]? = some (gt x.Stack (nx_Stack - 1)) := (show ((nx_Stack : Int) - 1).toNat = nx_Stack - 1 from by omega) ▸ hx26
    refine SR.q' (r_ixR tsl22 (((hx_Stack).lo hk4).lo hk18) rfl rfl (by omega)) <| SR.q' (r_ld (v := .int .i64 (gt x.Stack (nx_Stack - 1))) sca3 rfl ((((hx_Stack).lo hk4).lo hk18).cell0 hx27 rfl)) <| SR.q' (r_as (v := .int .i64 _) rfl) <| SR.q' (r_as (v := .bool true) rfl) <| SR.nil ?_
    refine W.ret ?_
    refine ret2 rfl (v := .int .i64 _) (v' := .bool _) rfl rfl ?_
    exact ⟨eR (eT2 (eI (by subst hlex_Stack; unfold spec_TopMap; rw [if_neg h21] <;> rfl)) (eB (by subst hlex_Stack; unfold spec_TopMap; rw [if_neg h21] <;> rfl))), hB20⟩
end Go.Proofs.Ytlpapeeaghmjpaa
