/- Walks, printed by a program of this claim's author. -/
import Derived.Test.YtlpapeeaghmjpaaDoorChecked
import Derived.Test.YtlpapeeaghmjpaaDoorSa
import Derived.Test.YtlpapeeaghmjpaaDoorFu
import Derived.Test.YtlpapeeaghmjpaaDoorFs
import Derived.Test.YtlpapeeaghmjpaaDoorFq
import Derived.Test.YtlpapeeaghmjpaaDoorFo
import Derived.Test.YtlpapeeaghmjpaaDoorG29c
namespace Go.Proofs.YtlpapeeaghmjpaaDoor
open Go Go.RowKit Fw
set_option maxRecDepth 10000
set_option linter.unusedVariables false
theorem agg48 : TAgg Tryd.prog 48 2 := ⟨fun _ => by kernel_rfl, fun _ => by kernel_rfl⟩
theorem bld40_ : Tryd.prog.built 40 [] = some (List.toArray [.int .i64 0, .int .i64 0, .slice none 0 0, .int .i64 0, .int .i64 0, .int .i64 0]) := by kernel_rfl
theorem ent101 : Ent Tryd.prog 101 := ent_of Tryd.func101 (by decide +kernel) rfl
theorem ent102 : Ent Tryd.prog 102 := ent_of Tryd.func102 (by decide +kernel) rfl
theorem ent103 : Ent Tryd.prog 103 := ent_of Tryd.func103 (by decide +kernel) rfl
theorem ent26 : Ent Tryd.prog 26 := ent_of Tryd.func26 (by decide +kernel) rfl
theorem ent60 : Ent Tryd.prog 60 := ent_of Tryd.func60 (by decide +kernel) rfl

open Classical in
noncomputable def impl_Chest_stepped (x : Chest) (s : ChestStep) : Chest × Bool :=
  if (!(impl_isChestStep s)) = true then ((⟨0, 0, ([] : List Int), 0, 0, 0⟩ : Chest), false) else if (!(impl_Chest_isReady x s)) = true then ((⟨0, 0, ([] : List Int), 0, 0, 0⟩ : Chest), false) else if ChestOK (impl_Chest_after x s) then ((impl_Chest_after x s), true) else ((⟨0, 0, ([] : List Int), 0, 0, 0⟩ : Chest), false)
theorem c__impl_Chest__stepped (w : World) (x : Chest) {Ax_Stack : Option Addr} {nx_Stack cx_Stack Bx_Stack : Nat} (hx_Stack : SlR w Bx_Stack encI 1 Ax_Stack nx_Stack cx_Stack x.Stack) (s : ChestStep) (hp0 : ChestOK x) : Calls Tryd.prog 60 #[.agg (List.toArray [.int .i64 x.State, .int .i64 x.Key, .slice Ax_Stack nx_Stack cx_Stack, .int .i64 x.Dust, .int .i64 x.Laid, .int .i64 x.Given]), .agg (List.toArray (encChestStep s))] w fun e w' => ∃ (A1' : Option Addr) (n1' c1' : Nat), e = .returned (.tuple (List.toArray [.agg (List.toArray [.int .i64 (((impl_Chest_stepped x s).1).State), .int .i64 (((impl_Chest_stepped x s).1).Key), .slice A1' n1' c1', .int .i64 (((impl_Chest_stepped x s).1).Dust), .int .i64 (((impl_Chest_stepped x s).1).Laid), .int .i64 (((impl_Chest_stepped x s).1).Given)]), .bool ((impl_Chest_stepped x s).2)])) ∧ SlO w' w.heap.size encI 1 3 A1' n1' c1' (((impl_Chest_stepped x s).1).Stack) ∧ Lo w w' := by
  refine calls_W 26 Tryd.func60 rfl rfl rfl ?_
  have hbdx_Stack := hx_Stack.bound
  have hlex_Stack := hx_Stack.len
  have hBbx_Stack := hx_Stack.bd
  have hbdx_Stack := hx_Stack.bound
  have hlex_Stack := hx_Stack.len
  have hBbx_Stack := hx_Stack.bd
  have hrg := chest_rng hp0
  refine W.seq ?_
  refine W.regS (SR.box (v := .agg (List.toArray _)) (l := [.int .i64 x.State, .int .i64 x.Key, .slice Ax_Stack nx_Stack cx_Stack, .int .i64 x.Dust, .int .i64 x.Laid, .int .i64 x.Given]) rfl rfl ?_)
  intro g1 w2 hg3 hk4 hs5 hb6
  have hz7 := hk4.size
  have hB8 := (Lo.refl w).lo hk4
  refine SR.box (v := .agg (List.toArray _)) (l := [.int .i64 s.Kind, .int .i64 s.Value]) rfl rfl ?_
  intro g9 w10 hg11 hk12 hs13 hb14
  have hz15 := hk12.size
  have hB16 := hB8.lo hk12
  refine SR.alloc (l := [.int .i64 0, .int .i64 0, .slice none 0 0, .int .i64 0, .int .i64 0, .int .i64 0]) tz40 rfl ?_
  intro g17 w18 hg19 hk20 hs21 hb22
  have hz23 := hk20.size
  have hB24 := hB16.lo hk20
  refine SR.q' (r_as (v := .bool false) rfl) <| SR.nil ?_
  refine W.seq ?_
  refine W.seq ?_
  refine W.regS (SR.q' (r_lda (l := [.int .i64 s.Kind, .int .i64 s.Value]) agg48 rfl (fun _ _ hu => ((hb14).lo hk20).cell hu) rfl) <| SR.call ent101 (c_impl_isChestStep w18 s) rfl ?_)
  rintro e w25 ⟨rfl, hk26⟩
  refine ⟨_, rfl, ?_⟩
  have hz27 := hk26.size
  have hB28 := hB24.lo hk26
  refine SR.q' (r_not rfl) <| SR.q' (r_mv (v := .bool _) rfl) <| SR.split (fun h29 => ?_) (fun h29 => ?_)
  · have hq30 := bnot_t h29
    refine SR.s' rfl <| SR.s' rfl <| SR.s' rfl <| SR.s' rfl <| SR.q' (r_pick true rfl (v := .bool true) rfl) <| SR.q' (r_mv (v := .bool _) rfl) <| SR.s' rfl <| SR.s' rfl <| SR.s' rfl <| SR.s' rfl <| SR.s' rfl <| SR.q' (r_pick true rfl (v := .bool true) rfl) <| SR.nil ?_
    refine W.cond_t rfl ?_
    refine W.seq ?_
    refine W.regS (SR.q' (r_build (vs := []) rfl (bld40_)) <| SR.store (o := 0) (vs := [.int .i64 0, .int .i64 0, .slice none 0 0, .int .i64 0, .int .i64 0, .int .i64 0]) agg40.2 rfl rfl rfl rfl ((hb22).lo hk26) (Nat.le_of_ble_eq_true rfl) rfl ?_)
    intro w31 hk32 hs33 hb34
    have hz35 := hk32.size
    have hB36 := hB28.new hk32 (by omega)
    refine SR.q' (r_as (v := .bool false) rfl) <| SR.nil ?_
    refine W.ret ?_
    refine retCT rfl rfl agg40 (hb34) rfl (v := .bool _) rfl ?_
    exact ⟨none, 0, 0, eR (eT2 (eA (eC (eI (by unfold impl_Chest_stepped; rw [if_pos h29] <;> rfl)) (eC (eI (by unfold impl_Chest_stepped; rw [if_pos h29] <;> rfl)) (eC rfl (eC (eI (by unfold impl_Chest_stepped; rw [if_pos h29] <;> rfl)) (eC (eI (by unfold impl_Chest_stepped; rw [if_pos h29] <;> rfl)) (eC (eI (by unfold impl_Chest_stepped; rw [if_pos h29] <;> rfl)) rfl))))))) (eB (by unfold impl_Chest_stepped; rw [if_pos h29] <;> rfl))), (SlO.eqv (SlO.nil (e := 3) (enc := encI) (fun _ => rfl) (by omega)) (by unfold impl_Chest_stepped; rw [if_pos h29] <;> rfl)), hB36⟩
  · have hq37 := bnot_f h29
    have hq38 := cstep_rng hq37
    refine SR.g' rfl (r_lda (l := [.int .i64 x.State, .int .i64 x.Key, .slice Ax_Stack nx_Stack cx_Stack, .int .i64 x.Dust, .int .i64 x.Laid, .int .i64 x.Given]) agg40 rfl (fun _ _ hu => ((((hb6).lo hk12).lo hk20).lo hk26).cell hu) rfl) <| SR.g' rfl (r_lda (l := [.int .i64 s.Kind, .int .i64 s.Value]) agg48 rfl (fun _ _ hu => (((hb14).lo hk20).lo hk26).cell hu) rfl) <| SR.gcall rfl ent102 (c__impl_Chest__isReady w25 x ((((((hx_Stack).lo hk4).lo hk12).lo hk20).lo hk26)) s) rfl ?_
    rintro e w39 ⟨rfl, hk40⟩
    refine ⟨_, rfl, ?_⟩
    have hz41 := hk40.size
    have hB42 := hB28.lo hk40
    refine SR.g' rfl (r_not rfl) <| SR.q' (r_pick false rfl (v := .bool _) rfl) <| SR.q' (r_mv (v := .bool _) rfl) <| SR.split (fun h43 => ?_) (fun h43 => ?_)
    · have hq44 := bnot_t h43
      refine SR.s' rfl <| SR.s' rfl <| SR.s' rfl <| SR.s' rfl <| SR.s' rfl <| SR.q' (r_pick true rfl (v := .bool true) rfl) <| SR.nil ?_
      refine W.cond_t rfl ?_
      refine W.seq ?_
      refine W.regS (SR.q' (r_build (vs := []) rfl (bld40_)) <| SR.store (o := 0) (vs := [.int .i64 0, .int .i64 0, .slice none 0 0, .int .i64 0, .int .i64 0, .int .i64 0]) agg40.2 rfl rfl rfl rfl (((hb22).lo hk26).lo hk40) (Nat.le_of_ble_eq_true rfl) rfl ?_)
      intro w45 hk46 hs47 hb48
      have hz49 := hk46.size
      have hB50 := hB42.new hk46 (by omega)
      refine SR.q' (r_as (v := .bool false) rfl) <| SR.nil ?_
      refine W.ret ?_
      refine retCT rfl rfl agg40 (hb48) rfl (v := .bool _) rfl ?_
      exact ⟨none, 0, 0, eR (eT2 (eA (eC (eI (by unfold impl_Chest_stepped; rw [if_neg (ne_true_of_eq_false h29), if_pos h43] <;> rfl)) (eC (eI (by unfold impl_Chest_stepped; rw [if_neg (ne_true_of_eq_false h29), if_pos h43] <;> rfl)) (eC rfl (eC (eI (by unfold impl_Chest_stepped; rw [if_neg (ne_true_of_eq_false h29), if_pos h43] <;> rfl)) (eC (eI (by unfold impl_Chest_stepped; rw [if_neg (ne_true_of_eq_false h29), if_pos h43] <;> rfl)) (eC (eI (by unfold impl_Chest_stepped; rw [if_neg (ne_true_of_eq_false h29), if_pos h43] <;> rfl)) rfl))))))) (eB (by unfold impl_Chest_stepped; rw [if_neg (ne_true_of_eq_false h29), if_pos h43] <;> rfl))), (SlO.eqv (SlO.nil (e := 3) (enc := encI) (fun _ => rfl) (by omega)) (by unfold impl_Chest_stepped; rw [if_neg (ne_true_of_eq_false h29), if_pos h43] <;> rfl)), hB50⟩
    · have hq51 := bnot_f h43
      refine SR.g' rfl (r_lda (l := [.int .i64 x.State, .int .i64 x.Key, .slice Ax_Stack nx_Stack cx_Stack, .int .i64 x.Dust, .int .i64 x.Laid, .int .i64 x.Given]) agg40 rfl (fun _ _ hu => (((((hb6).lo hk12).lo hk20).lo hk26).lo hk40).cell hu) rfl) <| SR.g' rfl (r_lda (l := [.int .i64 s.Kind, .int .i64 s.Value]) agg48 rfl (fun _ _ hu => ((((hb14).lo hk20).lo hk26).lo hk40).cell hu) rfl) <| SR.gcall rfl ent103 (c__impl_Chest__after w39 x (((((((hx_Stack).lo hk4).lo hk12).lo hk20).lo hk26).lo hk40)) s (by assumption) (by omega)) rfl ?_
      rintro e w52 ⟨A54, n55, c56, rfl, hO57, hk53⟩
      refine ⟨_, rfl, ?_⟩
      have hz58 := hk53.size
      have hB59 := hB42.lo hk53
      have hl60 := hO57.len
      have hl61 := hO57.rd.bound
      refine SR.gcall rfl ent26 (c_impl_IsChest w52 (impl_Chest_after x s) (((hO57).rd))) rfl ?_
      rintro e w62 ⟨rfl, hk63⟩
      refine ⟨_, rfl, ?_⟩
      have hz64 := hk63.size
      have hB65 := hB59.lo hk63
      refine SR.g' rfl (r_not rfl) <| SR.q' (r_pick false rfl (v := .bool _) rfl) <| SR.nil ?_
      refine W.cond_n rfl (fun h66 => ?_) (fun h66 => ?_)
      · refine W.seq ?_
        refine W.regS (SR.q' (r_build (vs := []) rfl (bld40_)) <| SR.store (o := 0) (vs := [.int .i64 0, .int .i64 0, .slice none 0 0, .int .i64 0, .int .i64 0, .int .i64 0]) agg40.2 rfl rfl rfl rfl (((((hb22).lo hk26).lo hk40).lo hk53).lo hk63) (Nat.le_of_ble_eq_true rfl) rfl ?_)
        intro w67 hk68 hs69 hb70
        have hz71 := hk68.size
        have hB72 := hB65.new hk68 (by omega)
        refine SR.q' (r_as (v := .bool false) rfl) <| SR.nil ?_
        refine W.ret ?_
        refine retCT rfl rfl agg40 (hb70) rfl (v := .bool _) rfl ?_
        exact ⟨none, 0, 0, eR (eT2 (eA (eC (eI (by unfold impl_Chest_stepped; rw [if_neg (ne_true_of_eq_false h29), if_neg (ne_true_of_eq_false h43), if_neg h66] <;> rfl)) (eC (eI (by unfold impl_Chest_stepped; rw [if_neg (ne_true_of_eq_false h29), if_neg (ne_true_of_eq_false h43), if_neg h66] <;> rfl)) (eC rfl (eC (eI (by unfold impl_Chest_stepped; rw [if_neg (ne_true_of_eq_false h29), if_neg (ne_true_of_eq_false h43), if_neg h66] <;> rfl)) (eC (eI (by unfold impl_Chest_stepped; rw [if_neg (ne_true_of_eq_false h29), if_neg (ne_true_of_eq_false h43), if_neg h66] <;> rfl)) (eC (eI (by unfold impl_Chest_stepped; rw [if_neg (ne_true_of_eq_false h29), if_neg (ne_true_of_eq_false h43), if_neg h66] <;> rfl)) rfl))))))) (eB (by unfold impl_Chest_stepped; rw [if_neg (ne_true_of_eq_false h29), if_neg (ne_true_of_eq_false h43), if_neg h66] <;> rfl))), (SlO.eqv (SlO.nil (e := 3) (enc := encI) (fun _ => rfl) (by omega)) (by unfold impl_Chest_stepped; rw [if_neg (ne_true_of_eq_false h29), if_neg (ne_true_of_eq_false h43), if_neg h66] <;> rfl)), hB72⟩
      · refine W.skip ?_
        refine W.seq ?_
        refine W.regS (SR.q' (r_lda (l := [.int .i64 x.State, .int .i64 x.Key, .slice Ax_Stack nx_Stack cx_Stack, .int .i64 x.Dust, .int .i64 x.Laid, .int .i64 x.Given]) agg40 rfl (fun _ _ hu => (((((((hb6).lo hk12).lo hk20).lo hk26).lo hk40).lo hk53).lo hk63).cell hu) rfl) <| SR.q' (r_lda (l := [.int .i64 s.Kind, .int .i64 s.Value]) agg48 rfl (fun _ _ hu => ((((((hb14).lo hk20).lo hk26).lo hk40).lo hk53).lo hk63).cell hu) rfl) <| SR.call ent103 (c__impl_Chest__after w62 x (((((((((hx_Stack).lo hk4).lo hk12).lo hk20).lo hk26).lo hk40).lo hk53).lo hk63)) s (by assumption) (by omega)) rfl ?_)
        rintro e w73 ⟨A75, n76, c77, rfl, hO78, hk74⟩
        refine ⟨_, rfl, ?_⟩
        have hz79 := hk74.size
        have hB80 := hB65.lo hk74
        have hl81 := hO78.len
        have hl82 := hO78.rd.bound
        refine SR.store (o := 0) (vs := [.int .i64 ((impl_Chest_after x s).State), .int .i64 ((impl_Chest_after x s).Key), .slice A75 n76 c77, .int .i64 ((impl_Chest_after x s).Dust), .int .i64 ((impl_Chest_after x s).Laid), .int .i64 ((impl_Chest_after x s).Given)]) agg40.2 rfl rfl rfl rfl ((((((hb22).lo hk26).lo hk40).lo hk53).lo hk63).lo hk74) (Nat.le_of_ble_eq_true rfl) rfl ?_
        intro w83 hk84 hs85 hb86
        have hz87 := hk84.size
        have hB88 := hB80.new hk84 (by omega)
        refine SR.q' (r_as (v := .bool true) rfl) <| SR.nil ?_
        refine W.ret ?_
        refine retCT rfl rfl agg40 (hb86) rfl (v := .bool _) rfl ?_
        exact ⟨A75, n76, c77, eR (eT2 (eA (eC (eI (by subst hl81; unfold impl_Chest_stepped; rw [if_neg (ne_true_of_eq_false h29), if_neg (ne_true_of_eq_false h43), if_pos h66] <;> rfl)) (eC (eI (by subst hl81; unfold impl_Chest_stepped; rw [if_neg (ne_true_of_eq_false h29), if_neg (ne_true_of_eq_false h43), if_pos h66] <;> rfl)) (eC rfl (eC (eI (by subst hl81; unfold impl_Chest_stepped; rw [if_neg (ne_true_of_eq_false h29), if_neg (ne_true_of_eq_false h43), if_pos h66] <;> rfl)) (eC (eI (by subst hl81; unfold impl_Chest_stepped; rw [if_neg (ne_true_of_eq_false h29), if_neg (ne_true_of_eq_false h43), if_pos h66] <;> rfl)) (eC (eI (by subst hl81; unfold impl_Chest_stepped; rw [if_neg (ne_true_of_eq_false h29), if_neg (ne_true_of_eq_false h43), if_pos h66] <;> rfl)) rfl))))))) (eB (by subst hl81; unfold impl_Chest_stepped; rw [if_neg (ne_true_of_eq_false h29), if_neg (ne_true_of_eq_false h43), if_pos h66] <;> rfl))), (SlO.eqv (((hO78).kp hk84 (fun b_ hb e' => by have e'' : b_ = g17 := e'; have := (hO78).base_le hb; omega)).down (by omega)) (by subst hl81; unfold impl_Chest_stepped; rw [if_neg (ne_true_of_eq_false h29), if_neg (ne_true_of_eq_false h43), if_pos h66] <;> rfl)), hB88⟩

open Classical in
noncomputable def impl_StepChest (x : Chest) (s : ChestStep) : Chest × Bool :=
  if ChestOK x then (((impl_Chest_stepped x s).1), (impl_Chest_stepped x s).2) else ((⟨0, 0, ([] : List Int), 0, 0, 0⟩ : Chest), false)
theorem c_impl_StepChest (w : World) (x : Chest) {Ax_Stack : Option Addr} {nx_Stack cx_Stack Bx_Stack : Nat} (hx_Stack : SlR w Bx_Stack encI 1 Ax_Stack nx_Stack cx_Stack x.Stack) (s : ChestStep) : Calls Tryd.prog 15 #[.agg (List.toArray [.int .i64 x.State, .int .i64 x.Key, .slice Ax_Stack nx_Stack cx_Stack, .int .i64 x.Dust, .int .i64 x.Laid, .int .i64 x.Given]), .agg (List.toArray (encChestStep s))] w fun e w' => ∃ (A1' : Option Addr) (n1' c1' : Nat), e = .returned (.tuple (List.toArray [.agg (List.toArray [.int .i64 (((impl_StepChest x s).1).State), .int .i64 (((impl_StepChest x s).1).Key), .slice A1' n1' c1', .int .i64 (((impl_StepChest x s).1).Dust), .int .i64 (((impl_StepChest x s).1).Laid), .int .i64 (((impl_StepChest x s).1).Given)]), .bool ((impl_StepChest x s).2)])) ∧ SlO w' w.heap.size encI 1 3 A1' n1' c1' (((impl_StepChest x s).1).Stack) ∧ Lo w w' := by
  refine calls_W 15 Tryd.func15 rfl rfl rfl ?_
  have hbdx_Stack := hx_Stack.bound
  have hlex_Stack := hx_Stack.len
  have hBbx_Stack := hx_Stack.bd
  have hbdx_Stack := hx_Stack.bound
  have hlex_Stack := hx_Stack.len
  have hBbx_Stack := hx_Stack.bd
  refine W.seq ?_
  refine W.regS (SR.box (v := .agg (List.toArray _)) (l := [.int .i64 x.State, .int .i64 x.Key, .slice Ax_Stack nx_Stack cx_Stack, .int .i64 x.Dust, .int .i64 x.Laid, .int .i64 x.Given]) rfl rfl ?_)
  intro g1 w2 hg3 hk4 hs5 hb6
  have hz7 := hk4.size
  have hB8 := (Lo.refl w).lo hk4
  refine SR.box (v := .agg (List.toArray _)) (l := [.int .i64 s.Kind, .int .i64 s.Value]) rfl rfl ?_
  intro g9 w10 hg11 hk12 hs13 hb14
  have hz15 := hk12.size
  have hB16 := hB8.lo hk12
  refine SR.alloc (l := [.int .i64 0, .int .i64 0, .slice none 0 0, .int .i64 0, .int .i64 0, .int .i64 0]) tz40 rfl ?_
  intro g17 w18 hg19 hk20 hs21 hb22
  have hz23 := hk20.size
  have hB24 := hB16.lo hk20
  refine SR.q' (r_as (v := .bool false) rfl) <| SR.nil ?_
  refine W.seq ?_
  refine W.seq ?_
  refine W.regS (SR.q' (r_lda (l := [.int .i64 x.State, .int .i64 x.Key, .slice Ax_Stack nx_Stack cx_Stack, .int .i64 x.Dust, .int .i64 x.Laid, .int .i64 x.Given]) agg40 rfl (fun _ _ hu => (((hb6).lo hk12).lo hk20).cell hu) rfl) <| SR.call ent26 (c_impl_IsChest w18 x (((((hx_Stack).lo hk4).lo hk12).lo hk20))) rfl ?_)
  rintro e w25 ⟨rfl, hk26⟩
  refine ⟨_, rfl, ?_⟩
  have hz27 := hk26.size
  have hB28 := hB24.lo hk26
  refine SR.q' (r_not rfl) <| SR.nil ?_
  refine W.cond_n rfl (fun h29 => ?_) (fun h29 => ?_)
  · refine W.seq ?_
    refine W.regS (SR.q' (r_build (vs := []) rfl (bld40_)) <| SR.store (o := 0) (vs := [.int .i64 0, .int .i64 0, .slice none 0 0, .int .i64 0, .int .i64 0, .int .i64 0]) agg40.2 rfl rfl rfl rfl ((hb22).lo hk26) (Nat.le_of_ble_eq_true rfl) rfl ?_)
    intro w30 hk31 hs32 hb33
    have hz34 := hk31.size
    have hB35 := hB28.new hk31 (by omega)
    refine SR.q' (r_as (v := .bool false) rfl) <| SR.nil ?_
    refine W.ret ?_
    refine retCT rfl rfl agg40 (hb33) rfl (v := .bool _) rfl ?_
    exact ⟨none, 0, 0, eR (eT2 (eA (eC (eI (by unfold impl_StepChest; rw [if_neg h29] <;> rfl)) (eC (eI (by unfold impl_StepChest; rw [if_neg h29] <;> rfl)) (eC rfl (eC (eI (by unfold impl_StepChest; rw [if_neg h29] <;> rfl)) (eC (eI (by unfold impl_StepChest; rw [if_neg h29] <;> rfl)) (eC (eI (by unfold impl_StepChest; rw [if_neg h29] <;> rfl)) rfl))))))) (eB (by unfold impl_StepChest; rw [if_neg h29] <;> rfl))), (SlO.eqv (SlO.nil (e := 3) (enc := encI) (fun _ => rfl) (by omega)) (by unfold impl_StepChest; rw [if_neg h29] <;> rfl)), hB35⟩
  · have hq36 := chest_len h29
    have hq37 := chest_rng h29
    refine W.skip ?_
    refine W.seq ?_
    refine W.regS (SR.q' (r_lda (l := [.int .i64 x.State, .int .i64 x.Key, .slice Ax_Stack nx_Stack cx_Stack, .int .i64 x.Dust, .int .i64 x.Laid, .int .i64 x.Given]) agg40 rfl (fun _ _ hu => ((((hb6).lo hk12).lo hk20).lo hk26).cell hu) rfl) <| SR.q' (r_lda (l := [.int .i64 s.Kind, .int .i64 s.Value]) agg48 rfl (fun _ _ hu => (((hb14).lo hk20).lo hk26).cell hu) rfl) <| SR.call ent60 (c__impl_Chest__stepped w25 x ((((((hx_Stack).lo hk4).lo hk12).lo hk20).lo hk26)) s (by assumption)) rfl ?_)
    rintro e w38 ⟨A40, n41, c42, rfl, hO43, hk39⟩
    refine ⟨_, rfl, ?_⟩
    have hz44 := hk39.size
    have hB45 := hB28.lo hk39
    have hl46 := hO43.len
    have hl47 := hO43.rd.bound
    refine SR.q' (r_ext (v := .agg (List.toArray _)) rfl rfl) <| SR.q' (r_ext (v := .bool _) rfl rfl) <| SR.store (o := 0) (vs := [.int .i64 (((impl_Chest_stepped x s).1).State), .int .i64 (((impl_Chest_stepped x s).1).Key), .slice A40 n41 c42, .int .i64 (((impl_Chest_stepped x s).1).Dust), .int .i64 (((impl_Chest_stepped x s).1).Laid), .int .i64 (((impl_Chest_stepped x s).1).Given)]) agg40.2 rfl rfl rfl rfl (((hb22).lo hk26).lo hk39) (Nat.le_of_ble_eq_true rfl) rfl ?_
    intro w48 hk49 hs50 hb51
    have hz52 := hk49.size
    have hB53 := hB45.new hk49 (by omega)
    refine SR.q' (r_as (v := .bool _) rfl) <| SR.nil ?_
    refine W.ret ?_
    refine retCT rfl rfl agg40 (hb51) rfl (v := .bool _) rfl ?_
    exact ⟨A40, n41, c42, eR (eT2 (eA (eC (eI (by subst hl46; unfold impl_StepChest; rw [if_pos h29] <;> rfl)) (eC (eI (by subst hl46; unfold impl_StepChest; rw [if_pos h29] <;> rfl)) (eC rfl (eC (eI (by subst hl46; unfold impl_StepChest; rw [if_pos h29] <;> rfl)) (eC (eI (by subst hl46; unfold impl_StepChest; rw [if_pos h29] <;> rfl)) (eC (eI (by subst hl46; unfold impl_StepChest; rw [if_pos h29] <;> rfl)) rfl))))))) (eB (by subst hl46; unfold impl_StepChest; rw [if_pos h29] <;> rfl))), (SlO.eqv (((hO43).kp hk49 (fun b_ hb e' => by have e'' : b_ = g17 := e'; have := (hO43).base_le hb; omega)).down (by omega)) (by subst hl46; unfold impl_StepChest; rw [if_pos h29] <;> rfl)), hB53⟩
end Go.Proofs.YtlpapeeaghmjpaaDoor
