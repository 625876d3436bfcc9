/- Walks, printed by a program of this claim's author. -/
import Derived.Test.YtlpapeeaghmjpaaDoorChecked
import Derived.Test.YtlpapeeaghmjpaaDoorSd
import Derived.Test.YtlpapeeaghmjpaaDoorFu
import Derived.Test.YtlpapeeaghmjpaaDoorFs
import Derived.Test.YtlpapeeaghmjpaaDoorFq
import Derived.Test.YtlpapeeaghmjpaaDoorFo
import Derived.Test.YtlpapeeaghmjpaaDoorG29k
namespace Go.Proofs.YtlpapeeaghmjpaaDoor
open Go Go.RowKit Fw
set_option maxRecDepth 10000
set_option linter.unusedVariables false
theorem agg57 : TAgg Tryd.prog 57 5 := ⟨fun _ => by kernel_rfl, fun _ => by kernel_rfl⟩
theorem ent104 : Ent Tryd.prog 104 := ent_of Tryd.func104 (by decide +kernel) rfl
theorem ent119 : Ent Tryd.prog 119 := ent_of Tryd.func119 (by decide +kernel) rfl
theorem ent125 : Ent Tryd.prog 125 := ent_of Tryd.func125 (by decide +kernel) rfl
theorem fa60_0 : FA Tryd.prog 60 0 0 := fun _ _ => by kernel_rfl
theorem fa60_1 : FA Tryd.prog 60 1 1 := fun _ _ => by kernel_rfl
theorem tz57 : TZ Tryd.prog 57 (.agg (List.toArray [.int .i64 0, .slice none 0 0, .int .i64 0, .int .i64 0, .int .i64 0])) := fun _ => by kernel_rfl

open Classical in
noncomputable def impl_isScanStep (s : ScanStep) : Bool :=
  if s.Kind = 2 then decide (1 ≤ s.Value ∧ s.Value ≤ 100) else if s.Kind = 5 then decide (0 ≤ s.Value ∧ s.Value ≤ 100) else decide ((1 ≤ s.Kind ∧ s.Kind ≤ 6) ∧ (s.Value = 0))
theorem c_impl_isScanStep (w : World) (s : ScanStep) : Calls Tryd.prog 107 #[.agg (List.toArray (encScanStep s))] w fun e w' => e = .returned (.bool (impl_isScanStep s)) ∧ Lo w w' := by
  refine calls_W 23 Tryd.func107 rfl rfl rfl ?_
  refine W.seq ?_
  refine W.regS (SR.box (v := .agg (List.toArray _)) (l := [.int .i64 s.Kind, .int .i64 s.Value]) rfl rfl ?_)
  intro g1 w2 hg3 hk4 hs5 hb6
  have hz7 := hk4.size
  have hB8 := (Lo.refl w).lo hk4
  refine SR.q' (r_as (v := .bool false) rfl) <| SR.nil ?_
  refine W.seq ?_
  refine W.seq ?_
  refine W.regS (SR.q' (r_fa fa60_0 rfl) <| SR.q' (r_ld (v := .int .i64 s.Kind) sca3 rfl ((hb6).cell rfl)) <| SR.nil ?_)
  refine W.block ?_
  refine W.seq ?_
  refine W.regS (SR.q' (r_eq rfl rfl) <| SR.q' (r_as (v := .bool _) rfl) <| SR.nil ?_)
  refine W.cond_d rfl (fun h9 => ?_) (fun h9 => ?_)
  · refine W.seq ?_
    refine W.regS (SR.q' (r_fa fa60_1 rfl) <| SR.q' (r_ld (v := .int .i64 s.Value) sca3 rfl ((hb6).cell rfl)) <| SR.call ent55 (c_impl_within w2 s.Value 1 100) rfl ?_)
    rintro e w10 ⟨rfl, hk11⟩
    refine ⟨_, rfl, ?_⟩
    have hz12 := hk11.size
    have hB13 := hB8.lo hk11
    refine SR.q' (r_as (v := .bool _) rfl) <| SR.nil ?_
    refine W.ret ?_
    refine ret1 rfl (v := .bool _) rfl ?_
    exact ⟨eR (eB (by unfold impl_isScanStep; rw [if_pos h9] <;> rfl)), hB13⟩
  · refine W.seq ?_
    refine W.regS (SR.q' (r_eq rfl rfl) <| SR.q' (r_as (v := .bool _) rfl) <| SR.nil ?_)
    refine W.cond_d rfl (fun h14 => ?_) (fun h14 => ?_)
    · refine W.seq ?_
      refine W.regS (SR.q' (r_fa fa60_1 rfl) <| SR.q' (r_ld (v := .int .i64 s.Value) sca3 rfl ((hb6).cell rfl)) <| SR.call ent55 (c_impl_within w2 s.Value 0 100) rfl ?_)
      rintro e w15 ⟨rfl, hk16⟩
      refine ⟨_, rfl, ?_⟩
      have hz17 := hk16.size
      have hB18 := hB8.lo hk16
      refine SR.q' (r_as (v := .bool _) rfl) <| SR.nil ?_
      refine W.ret ?_
      refine ret1 rfl (v := .bool _) rfl ?_
      exact ⟨eR (eB (by unfold impl_isScanStep; rw [if_neg h9, if_pos h14] <;> rfl)), hB18⟩
    · refine W.skip ?_
      refine W.seq ?_
      refine W.regJS (fun f' w' => At f' [(2, .bool (decide ((1 ≤ s.Kind ∧ s.Kind ≤ 6) ∧ (s.Value = 0))))] ∧ Lo w2 w') ?_ ?_
      · refine SR.q' (r_fa fa60_0 rfl) <| SR.q' (r_ld (v := .int .i64 s.Kind) sca3 rfl ((hb6).cell rfl)) <| SR.call ent55 (c_impl_within w2 s.Kind 1 6) rfl ?_
        rintro e w19 ⟨rfl, hk20⟩
        refine ⟨_, rfl, ?_⟩
        have hz21 := hk20.size
        have hB22 := hB8.lo hk20
        refine SR.q' (r_mv (v := .bool _) rfl) <| SR.splitD (fun h23 => ?_) (fun h23 => ?_)
        · refine SR.g' rfl (r_fa fa60_1 rfl) <| SR.g' rfl (r_ld (v := .int .i64 s.Value) sca3 rfl (((hb6).lo hk20).cell rfl)) <| SR.g' rfl (r_eq rfl rfl) <| SR.q' (r_pick true rfl (v := .bool _) rfl) <| SR.q' (r_as (v := .bool _) rfl) <| SR.nil ?_
          exact ⟨_, rfl, ⟨⟨(eDD (jat h23)), trivial⟩, (hk20)⟩⟩
        · refine SR.s' rfl <| SR.s' rfl <| SR.s' rfl <| SR.q' (r_pick false rfl (v := .bool false) rfl) <| SR.q' (r_as (v := .bool _) rfl) <| SR.nil ?_
          exact ⟨_, rfl, ⟨⟨(eDF (jaf h23).2), trivial⟩, (hk20)⟩⟩
      rintro f24 w25 ⟨hat26, hk27⟩
      rw [← sets_of_at hat26]
      have hz28 := hk27.size
      have hB29 := hB8.lo hk27
      refine W.ret ?_
      refine ret1 rfl (v := .bool _) rfl ?_
      exact ⟨eR (eB (by unfold impl_isScanStep; rw [if_neg h9, if_neg h14] <;> rfl)), hB29⟩

open Classical in
noncomputable def spec_l29Step (s : ScanStep) : Bool :=
  if s.Kind = 2 then decide (1 ≤ s.Value ∧ s.Value ≤ 100) else if s.Kind = 5 then decide (0 ≤ s.Value ∧ s.Value ≤ 100) else decide (((s.Kind = 1) ∧ (s.Value = 0)) ∨ ((¬ (s.Kind = 1)) ∧ (((s.Kind = 3) ∧ (s.Value = 0)) ∨ ((¬ (s.Kind = 3)) ∧ (((s.Kind = 4) ∧ (s.Value = 0)) ∨ ((¬ (s.Kind = 4)) ∧ ((s.Kind = 6) ∧ (s.Value = 0))))))))
theorem c_spec_l29Step (w : World) (s : ScanStep) : Calls Tryd.prog 129 #[.agg (List.toArray (encScanStep s))] w fun e w' => e = .returned (.bool (spec_l29Step s)) ∧ Lo w w' := by
  refine calls_W 38 Tryd.func129 rfl rfl rfl ?_
  refine W.seq ?_
  refine W.regS (SR.box (v := .agg (List.toArray _)) (l := [.int .i64 s.Kind, .int .i64 s.Value]) rfl rfl ?_)
  intro g1 w2 hg3 hk4 hs5 hb6
  have hz7 := hk4.size
  have hB8 := (Lo.refl w).lo hk4
  refine SR.q' (r_as (v := .bool false) rfl) <| SR.nil ?_
  refine W.seq ?_
  refine W.seq ?_
  refine W.regS (SR.q' (r_fa fa60_0 rfl) <| SR.q' (r_ld (v := .int .i64 s.Kind) sca3 rfl ((hb6).cell rfl)) <| SR.nil ?_)
  refine W.block ?_
  refine W.seq ?_
  refine W.regS (SR.q' (r_eq rfl rfl) <| SR.q' (r_as (v := .bool _) rfl) <| SR.nil ?_)
  refine W.cond_d rfl (fun h9 => ?_) (fun h9 => ?_)
  · refine W.seq ?_
    refine W.regS (SR.q' (r_fa fa60_1 rfl) <| SR.q' (r_ld (v := .int .i64 s.Value) sca3 rfl ((hb6).cell rfl)) <| SR.call ent58 (c_spec_l1In w2 s.Value 1 100) rfl ?_)
    rintro e w10 ⟨rfl, hk11⟩
    refine ⟨_, rfl, ?_⟩
    have hz12 := hk11.size
    have hB13 := hB8.lo hk11
    refine SR.q' (r_as (v := .bool _) rfl) <| SR.nil ?_
    refine W.ret ?_
    refine ret1 rfl (v := .bool _) rfl ?_
    exact ⟨eR (eB (by unfold spec_l29Step; rw [if_pos h9] <;> rfl)), hB13⟩
  · refine W.seq ?_
    refine W.regS (SR.q' (r_eq rfl rfl) <| SR.q' (r_as (v := .bool _) rfl) <| SR.nil ?_)
    refine W.cond_d rfl (fun h14 => ?_) (fun h14 => ?_)
    · refine W.seq ?_
      refine W.regS (SR.q' (r_fa fa60_1 rfl) <| SR.q' (r_ld (v := .int .i64 s.Value) sca3 rfl ((hb6).cell rfl)) <| SR.call ent58 (c_spec_l1In w2 s.Value 0 100) rfl ?_)
      rintro e w15 ⟨rfl, hk16⟩
      refine ⟨_, rfl, ?_⟩
      have hz17 := hk16.size
      have hB18 := hB8.lo hk16
      refine SR.q' (r_as (v := .bool _) rfl) <| SR.nil ?_
      refine W.ret ?_
      refine ret1 rfl (v := .bool _) rfl ?_
      exact ⟨eR (eB (by unfold spec_l29Step; rw [if_neg h9, if_pos h14] <;> rfl)), hB18⟩
    · refine W.skip ?_
      refine W.seq ?_
      refine W.regJS (fun f' w' => At f' [(2, .bool (decide (((s.Kind = 1) ∧ (s.Value = 0)) ∨ ((¬ (s.Kind = 1)) ∧ (((s.Kind = 3) ∧ (s.Value = 0)) ∨ ((¬ (s.Kind = 3)) ∧ (((s.Kind = 4) ∧ (s.Value = 0)) ∨ ((¬ (s.Kind = 4)) ∧ ((s.Kind = 6) ∧ (s.Value = 0))))))))))] ∧ Lo w2 w') ?_ ?_
      · refine SR.q' (r_fa fa60_0 rfl) <| SR.q' (r_ld (v := .int .i64 s.Kind) sca3 rfl ((hb6).cell rfl)) <| SR.q' (r_eq rfl rfl) <| SR.q' (r_mv (v := .bool _) rfl) <| SR.splitD (fun h19 => ?_) (fun h19 => ?_)
        · refine SR.s' rfl <| SR.s' rfl <| SR.s' rfl <| SR.q' (r_pick true rfl (v := .bool true) rfl) <| SR.q' (r_mv (v := .bool _) rfl) <| SR.s' rfl <| SR.s' rfl <| SR.s' rfl <| SR.q' (r_pick true rfl (v := .bool true) rfl) <| SR.q' (r_mv (v := .bool _) rfl) <| SR.s' rfl <| SR.s' rfl <| SR.s' rfl <| SR.q' (r_pick true rfl (v := .bool true) rfl) <| SR.q' (r_mv (v := .bool _) rfl) <| SR.g' rfl (r_fa fa60_1 rfl) <| SR.g' rfl (r_ld (v := .int .i64 s.Value) sca3 rfl ((hb6).cell rfl)) <| SR.g' rfl (r_eq rfl rfl) <| SR.q' (r_pick true rfl (v := .bool _) rfl) <| SR.q' (r_as (v := .bool _) rfl) <| SR.nil ?_
          exact ⟨_, rfl, ⟨⟨(eDD (jgt h19)), trivial⟩, (Lo.refl _)⟩⟩
        · refine SR.g' rfl (r_fa fa60_0 rfl) <| SR.g' rfl (r_ld (v := .int .i64 s.Kind) sca3 rfl ((hb6).cell rfl)) <| SR.g' rfl (r_eq rfl rfl) <| SR.q' (r_pick false rfl (v := .bool _) rfl) <| SR.q' (r_mv (v := .bool _) rfl) <| SR.splitD (fun h20 => ?_) (fun h20 => ?_)
          · refine SR.s' rfl <| SR.s' rfl <| SR.s' rfl <| SR.q' (r_pick true rfl (v := .bool true) rfl) <| SR.q' (r_mv (v := .bool _) rfl) <| SR.s' rfl <| SR.s' rfl <| SR.s' rfl <| SR.q' (r_pick true rfl (v := .bool true) rfl) <| SR.q' (r_mv (v := .bool _) rfl) <| SR.g' rfl (r_fa fa60_1 rfl) <| SR.g' rfl (r_ld (v := .int .i64 s.Value) sca3 rfl ((hb6).cell rfl)) <| SR.g' rfl (r_eq rfl rfl) <| SR.q' (r_pick true rfl (v := .bool _) rfl) <| SR.q' (r_as (v := .bool _) rfl) <| SR.nil ?_
            exact ⟨_, rfl, ⟨⟨(eDD ((jgt h20).trans (jgf h19))), trivial⟩, (Lo.refl _)⟩⟩
          · refine SR.g' rfl (r_fa fa60_0 rfl) <| SR.g' rfl (r_ld (v := .int .i64 s.Kind) sca3 rfl ((hb6).cell rfl)) <| SR.g' rfl (r_eq rfl rfl) <| SR.q' (r_pick false rfl (v := .bool _) rfl) <| SR.q' (r_mv (v := .bool _) rfl) <| SR.splitD (fun h21 => ?_) (fun h21 => ?_)
            · refine SR.s' rfl <| SR.s' rfl <| SR.s' rfl <| SR.q' (r_pick true rfl (v := .bool true) rfl) <| SR.q' (r_mv (v := .bool _) rfl) <| SR.g' rfl (r_fa fa60_1 rfl) <| SR.g' rfl (r_ld (v := .int .i64 s.Value) sca3 rfl ((hb6).cell rfl)) <| SR.g' rfl (r_eq rfl rfl) <| SR.q' (r_pick true rfl (v := .bool _) rfl) <| SR.q' (r_as (v := .bool _) rfl) <| SR.nil ?_
              exact ⟨_, rfl, ⟨⟨(eDD (((jgt h21).trans (jgf h20)).trans (jgf h19))), trivial⟩, (Lo.refl _)⟩⟩
            · refine SR.g' rfl (r_fa fa60_0 rfl) <| SR.g' rfl (r_ld (v := .int .i64 s.Kind) sca3 rfl ((hb6).cell rfl)) <| SR.g' rfl (r_eq rfl rfl) <| SR.q' (r_pick false rfl (v := .bool _) rfl) <| SR.q' (r_mv (v := .bool _) rfl) <| SR.splitD (fun h22 => ?_) (fun h22 => ?_)
              · refine SR.g' rfl (r_fa fa60_1 rfl) <| SR.g' rfl (r_ld (v := .int .i64 s.Value) sca3 rfl ((hb6).cell rfl)) <| SR.g' rfl (r_eq rfl rfl) <| SR.q' (r_pick true rfl (v := .bool _) rfl) <| SR.q' (r_as (v := .bool _) rfl) <| SR.nil ?_
                exact ⟨_, rfl, ⟨⟨(eDD ((((jat h22).trans (jgf h21)).trans (jgf h20)).trans (jgf h19))), trivial⟩, (Lo.refl _)⟩⟩
              · refine SR.s' rfl <| SR.s' rfl <| SR.s' rfl <| SR.q' (r_pick false rfl (v := .bool false) rfl) <| SR.q' (r_as (v := .bool _) rfl) <| SR.nil ?_
                exact ⟨_, rfl, ⟨⟨(eDF ((((jaf h22).trans (jgf h21)).trans (jgf h20)).trans (jgf h19)).2), trivial⟩, (Lo.refl _)⟩⟩
      rintro f23 w24 ⟨hat25, hk26⟩
      rw [← sets_of_at hat25]
      have hz27 := hk26.size
      have hB28 := hB8.lo hk26
      refine W.ret ?_
      refine ret1 rfl (v := .bool _) rfl ?_
      exact ⟨eR (eB (by unfold spec_l29Step; rw [if_neg h9, if_neg h14] <;> rfl)), hB28⟩

theorem c__impl_ScanJob__own (w : World) (x : ScanJob) {Ax_Tiles : Option Addr} {nx_Tiles cx_Tiles Bx_Tiles : Nat} (hx_Tiles : SlR w Bx_Tiles encI 1 Ax_Tiles nx_Tiles cx_Tiles x.Tiles) (hp0 : (nx_Tiles : Int) ≤ 1048576) : Calls Tryd.prog 70 #[.agg (List.toArray [.int .i64 x.State, .slice Ax_Tiles nx_Tiles cx_Tiles, .int .i64 x.Next, .int .i64 x.Fails, .int .i64 x.Size])] w fun e w' => ∃ (A1' : Option Addr) (n1' c1' : Nat), e = .returned (.agg (List.toArray [.int .i64 x.State, .slice A1' n1' c1', .int .i64 x.Next, .int .i64 x.Fails, .int .i64 x.Size])) ∧ SlO w' w.heap.size encI 1 3 A1' n1' c1' x.Tiles ∧ Lo w w' := by
  refine calls_W 8 Tryd.func70 rfl rfl rfl ?_
  have hbdx_Tiles := hx_Tiles.bound
  have hlex_Tiles := hx_Tiles.len
  have hBbx_Tiles := hx_Tiles.bd
  refine W.seq ?_
  refine W.regS (SR.box (v := .agg (List.toArray _)) (l := [.int .i64 x.State, .slice Ax_Tiles nx_Tiles cx_Tiles, .int .i64 x.Next, .int .i64 x.Fails, .int .i64 x.Size]) rfl rfl ?_)
  intro g1 w2 hg3 hk4 hs5 hb6
  have hz7 := hk4.size
  have hB8 := (Lo.refl w).lo hk4
  refine SR.alloc (l := [.int .i64 0, .slice none 0 0, .int .i64 0, .int .i64 0, .int .i64 0]) tz57 rfl ?_
  intro g9 w10 hg11 hk12 hs13 hb14
  have hz15 := hk12.size
  have hB16 := hB8.lo hk12
  refine SR.nil ?_
  refine W.seq ?_
  refine W.regS (SR.q' (r_fa fa57_1 rfl) <| SR.q' (r_ld (v := .slice Ax_Tiles nx_Tiles cx_Tiles) sca38 rfl (((hb6).lo hk12).cell rfl)) <| SR.call ent104 (c_slices_Clone___int_int_ w10 x.Tiles ((((hx_Tiles).lo hk4).lo hk12)) (by omega)) rfl ?_)
  rintro e w17 ⟨A19, n20, c21, rfl, hO22, hk18⟩
  refine ⟨_, rfl, ?_⟩
  have hz23 := hk18.size
  have hB24 := hB16.lo hk18
  have hl25 := hO22.len
  have hl26 := hO22.rd.bound
  refine SR.q' (r_fa fa57_1 rfl) <| SR.store (o := 1) (vs := [.slice A19 n20 c21]) sca38.2 rfl rfl rfl rfl (((hb6).lo hk12).lo hk18) (Nat.le_of_ble_eq_true rfl) rfl ?_
  intro w27 hk28 hs29 hb30
  have hz31 := hk28.size
  have hB32 := hB24.new hk28 (by omega)
  refine SR.nil ?_
  refine W.seq ?_
  refine W.regS (SR.q' (r_lda (l := [.int .i64 x.State, .slice A19 n20 c21, .int .i64 x.Next, .int .i64 x.Fails, .int .i64 x.Size]) agg57 rfl (fun _ _ hu => (hb30).cell hu) rfl) <| SR.store (o := 0) (vs := [.int .i64 x.State, .slice A19 n20 c21, .int .i64 x.Next, .int .i64 x.Fails, .int .i64 x.Size]) agg57.2 rfl rfl rfl rfl (((hb14).lo hk18).kp hk28 (fun e' => by have e'' : g9 = g1 := e'; omega)) (Nat.le_of_ble_eq_true rfl) rfl ?_)
  intro w33 hk34 hs35 hb36
  have hz37 := hk34.size
  have hB38 := hB32.new hk34 (by omega)
  refine SR.nil ?_
  refine W.ret ?_
  refine retC rfl rfl agg57 (hb36) rfl ?_
  exact ⟨A19, n20, c21, eR rfl, ((((hO22).kp hk28 (fun b_ hb e' => by have e'' : b_ = g1 := e'; have := (hO22).base_le hb; omega)).kp hk34 (fun b_ hb e' => by have e'' : b_ = g9 := e'; have := ((hO22).kp hk28 (fun b_ hb e' => by have e'' : b_ = g1 := e'; have := (hO22).base_le hb; omega)).base_le hb; omega)).down (by omega)), hB38⟩

theorem c_spec_l29Own (w : World) (x : ScanJob) {Ax_Tiles : Option Addr} {nx_Tiles cx_Tiles Bx_Tiles : Nat} (hx_Tiles : SlR w Bx_Tiles encI 1 Ax_Tiles nx_Tiles cx_Tiles x.Tiles) (hp0 : (nx_Tiles : Int) ≤ 1048576) : Calls Tryd.prog 135 #[.agg (List.toArray [.int .i64 x.State, .slice Ax_Tiles nx_Tiles cx_Tiles, .int .i64 x.Next, .int .i64 x.Fails, .int .i64 x.Size])] w fun e w' => ∃ (A1' : Option Addr) (n1' c1' : Nat), e = .returned (.agg (List.toArray [.int .i64 x.State, .slice A1' n1' c1', .int .i64 x.Next, .int .i64 x.Fails, .int .i64 x.Size])) ∧ SlO w' w.heap.size encI 1 3 A1' n1' c1' x.Tiles ∧ Lo w w' := by
  refine calls_W 8 Tryd.func135 rfl rfl rfl ?_
  have hbdx_Tiles := hx_Tiles.bound
  have hlex_Tiles := hx_Tiles.len
  have hBbx_Tiles := hx_Tiles.bd
  refine W.seq ?_
  refine W.regS (SR.box (v := .agg (List.toArray _)) (l := [.int .i64 x.State, .slice Ax_Tiles nx_Tiles cx_Tiles, .int .i64 x.Next, .int .i64 x.Fails, .int .i64 x.Size]) rfl rfl ?_)
  intro g1 w2 hg3 hk4 hs5 hb6
  have hz7 := hk4.size
  have hB8 := (Lo.refl w).lo hk4
  refine SR.alloc (l := [.int .i64 0, .slice none 0 0, .int .i64 0, .int .i64 0, .int .i64 0]) tz57 rfl ?_
  intro g9 w10 hg11 hk12 hs13 hb14
  have hz15 := hk12.size
  have hB16 := hB8.lo hk12
  refine SR.nil ?_
  refine W.seq ?_
  refine W.regS (SR.q' (r_fa fa57_1 rfl) <| SR.q' (r_ld (v := .slice Ax_Tiles nx_Tiles cx_Tiles) sca38 rfl (((hb6).lo hk12).cell rfl)) <| SR.call ent119 (c_spec_l1Own w10 x.Tiles ((((hx_Tiles).lo hk4).lo hk12)) (by omega)) rfl ?_)
  rintro e w17 ⟨A19, n20, c21, rfl, hO22, hk18⟩
  refine ⟨_, rfl, ?_⟩
  have hz23 := hk18.size
  have hB24 := hB16.lo hk18
  have hl25 := hO22.len
  have hl26 := hO22.rd.bound
  refine SR.q' (r_fa fa57_1 rfl) <| SR.store (o := 1) (vs := [.slice A19 n20 c21]) sca38.2 rfl rfl rfl rfl (((hb6).lo hk12).lo hk18) (Nat.le_of_ble_eq_true rfl) rfl ?_
  intro w27 hk28 hs29 hb30
  have hz31 := hk28.size
  have hB32 := hB24.new hk28 (by omega)
  refine SR.nil ?_
  refine W.seq ?_
  refine W.regS (SR.q' (r_lda (l := [.int .i64 x.State, .slice A19 n20 c21, .int .i64 x.Next, .int .i64 x.Fails, .int .i64 x.Size]) agg57 rfl (fun _ _ hu => (hb30).cell hu) rfl) <| SR.store (o := 0) (vs := [.int .i64 x.State, .slice A19 n20 c21, .int .i64 x.Next, .int .i64 x.Fails, .int .i64 x.Size]) agg57.2 rfl rfl rfl rfl (((hb14).lo hk18).kp hk28 (fun e' => by have e'' : g9 = g1 := e'; omega)) (Nat.le_of_ble_eq_true rfl) rfl ?_)
  intro w33 hk34 hs35 hb36
  have hz37 := hk34.size
  have hB38 := hB32.new hk34 (by omega)
  refine SR.nil ?_
  refine W.ret ?_
  refine retC rfl rfl agg57 (hb36) rfl ?_
  exact ⟨A19, n20, c21, eR rfl, ((((hO22).kp hk28 (fun b_ hb e' => by have e'' : b_ = g1 := e'; have := (hO22).base_le hb; omega)).kp hk34 (fun b_ hb e' => by have e'' : b_ = g9 := e'; have := ((hO22).kp hk28 (fun b_ hb e' => by have e'' : b_ = g1 := e'; have := (hO22).base_le hb; omega)).base_le hb; omega)).down (by omega)), hB38⟩

theorem z_c__impl_ScanJob__lastBelow_9 (x : ScanJob) (nx_Tiles : Nat) (hbdx_Tiles : (nx_Tiles : Int) ≤ 9223372036854775807) (hlex_Tiles : nx_Tiles = x.Tiles.length) (v : Int) (hp0 : 0 ≤ x.Next ∧ x.Next ≤ (nx_Tiles : Int)) : x.Next.toNat ≤ x.Next.toNat ∧ lastB x.Tiles v x.Next.toNat = lastB x.Tiles v x.Next.toNat := by
  exact ⟨Nat.le_refl _, rfl⟩
theorem z_c__impl_ScanJob__lastBelow_23 (x : ScanJob) (nx_Tiles : Nat) (hbdx_Tiles : (nx_Tiles : Int) ≤ 9223372036854775807) (hlex_Tiles : nx_Tiles = x.Tiles.length) (v : Int) (hp0 : 0 ≤ x.Next ∧ x.Next ≤ (nx_Tiles : Int)) (n : Nat) (hi16 : n ≤ x.Next.toNat ∧ lastB x.Tiles v n = lastB x.Tiles v x.Next.toNat) (h18 : 0 ≤ ((n : Int) - 1)) (hx20 : x.Tiles[n - 1]? = some (gt x.Tiles (n - 1))) (h22 : (gt x.Tiles (n - 1)) < v) : (n : Int) - 1 = lastB x.Tiles v x.Next.toNat := by
  have hh := ‹n ≤ _ ∧ lastB _ _ _ = _›
  rw [← hh.2]; first | exact (lastB_at (by omega) (by omega)).symm | exact (lastB_zero (by omega)).symm
theorem z_c__impl_ScanJob__lastBelow_24 (x : ScanJob) (nx_Tiles : Nat) (hbdx_Tiles : (nx_Tiles : Int) ≤ 9223372036854775807) (hlex_Tiles : nx_Tiles = x.Tiles.length) (v : Int) (hp0 : 0 ≤ x.Next ∧ x.Next ≤ (nx_Tiles : Int)) (n : Nat) (hi16 : n ≤ x.Next.toNat ∧ lastB x.Tiles v n = lastB x.Tiles v x.Next.toNat) (h18 : 0 ≤ ((n : Int) - 1)) (hx20 : x.Tiles[n - 1]? = some (gt x.Tiles (n - 1))) (h22 : ¬ ((gt x.Tiles (n - 1)) < v)) : n - 1 ≤ x.Next.toNat ∧ lastB x.Tiles v (n - 1) = lastB x.Tiles v x.Next.toNat := by
  have hh := ‹n ≤ _ ∧ lastB _ _ _ = _›
  exact ⟨by omega, (lastB_dn (by omega) ‹_›).symm.trans hh.2⟩
theorem z_c__impl_ScanJob__lastBelow_25 (x : ScanJob) (nx_Tiles : Nat) (hbdx_Tiles : (nx_Tiles : Int) ≤ 9223372036854775807) (hlex_Tiles : nx_Tiles = x.Tiles.length) (v : Int) (hp0 : 0 ≤ x.Next ∧ x.Next ≤ (nx_Tiles : Int)) (n : Nat) (hi16 : n ≤ x.Next.toNat ∧ lastB x.Tiles v n = lastB x.Tiles v x.Next.toNat) (h18 : 0 ≤ ((n : Int) - 1)) (hx20 : x.Tiles[n - 1]? = some (gt x.Tiles (n - 1))) (h22 : ¬ ((gt x.Tiles (n - 1)) < v)) : (n - 1) < n := by
  omega
theorem z_c__impl_ScanJob__lastBelow_26 (x : ScanJob) (nx_Tiles : Nat) (hbdx_Tiles : (nx_Tiles : Int) ≤ 9223372036854775807) (hlex_Tiles : nx_Tiles = x.Tiles.length) (v : Int) (hp0 : 0 ≤ x.Next ∧ x.Next ≤ (nx_Tiles : Int)) (n : Nat) (hi16 : n ≤ x.Next.toNat ∧ lastB x.Tiles v n = lastB x.Tiles v x.Next.toNat) (h18 : ¬ (0 ≤ ((n : Int) - 1))) : (-1) = lastB x.Tiles v x.Next.toNat := by
  have hh := ‹n ≤ _ ∧ lastB _ _ _ = _›
  rw [← hh.2]; first | exact (lastB_at (by omega) (by omega)).symm | exact (lastB_zero (by omega)).symm
theorem c__impl_ScanJob__lastBelow (w : World) (x : ScanJob) {Ax_Tiles : Option Addr} {nx_Tiles cx_Tiles Bx_Tiles : Nat} (hx_Tiles : SlR w Bx_Tiles encI 1 Ax_Tiles nx_Tiles cx_Tiles x.Tiles) (v : Int) (hp0 : 0 ≤ x.Next ∧ x.Next ≤ (nx_Tiles : Int)) : Calls Tryd.prog 125 #[.agg (List.toArray [.int .i64 x.State, .slice Ax_Tiles nx_Tiles cx_Tiles, .int .i64 x.Next, .int .i64 x.Fails, .int .i64 x.Size]), .int .i64 v] w fun e w' => e = .returned (.int .i64 (lastB x.Tiles v x.Next.toNat)) ∧ Lo w w' := by
  refine calls_W 21 Tryd.func125 rfl rfl rfl ?_
  have hbdx_Tiles := hx_Tiles.bound
  have hlex_Tiles := hx_Tiles.len
  have hBbx_Tiles := hx_Tiles.bd
  refine W.seq ?_
  refine W.regS (SR.box (v := .agg (List.toArray _)) (l := [.int .i64 x.State, .slice Ax_Tiles nx_Tiles cx_Tiles, .int .i64 x.Next, .int .i64 x.Fails, .int .i64 x.Size]) rfl rfl ?_)
  intro g1 w2 hg3 hk4 hs5 hb6
  have hz7 := hk4.size
  have hB8 := (Lo.refl w).lo hk4
  refine SR.q' (r_as (v := .int .i64 0) rfl) <| SR.nil ?_
  refine W.seq ?_
  refine W.seq ?_
  refine W.regS (SR.q' (r_fa fa57_2 rfl) <| SR.q' (r_ld (v := .int .i64 x.Next) sca3 rfl ((hb6).cell rfl)) <| SR.q' (r_sub rfl rfl (by omega)) <| SR.q' (r_as (v := .int .i64 _) rfl) <| SR.nil ?_)
  refine W.block ?_
  refine W.loop (σ := Nat) (fun g => [(1, .int .i64 v), (2, .pointer (some ((⟨g1, 0, none⟩ : Addr)))), (5, .int .i64 ((g : Int) - 1))]) (fun g w' => (Lo w w') ∧ (Blk w' g1 57 [.int .i64 x.State, .slice Ax_Tiles nx_Tiles cx_Tiles, .int .i64 x.Next, .int .i64 x.Fails, .int .i64 x.Size]) ∧ (SlR w' Bx_Tiles encI 1 Ax_Tiles nx_Tiles cx_Tiles x.Tiles) ∧ (g ≤ x.Next.toNat ∧ lastB x.Tiles v g = lastB x.Tiles v x.Next.toNat)) (fun g => g) x.Next.toNat ?_ ?_ ?_
  · exact ⟨rfl, rfl, (eI (by first | omega | (dsimp only; omega))), trivial⟩
  · exact ⟨hB8, hb6, (hx_Tiles).lo hk4, (z_c__impl_ScanJob__lastBelow_9 x nx_Tiles hbdx_Tiles hlex_Tiles v hp0)⟩
  · rintro n f10 w11 hP13
    obtain ⟨hB12, hm14, hm15, hi16⟩ : (Lo w w11) ∧ (Blk w11 g1 57 [.int .i64 x.State, .slice Ax_Tiles nx_Tiles cx_Tiles, .int .i64 x.Next, .int .i64 x.Fails, .int .i64 x.Size]) ∧ (SlR w11 Bx_Tiles encI 1 Ax_Tiles nx_Tiles cx_Tiles x.Tiles) ∧ (n ≤ x.Next.toNat ∧ lastB x.Tiles v n = lastB x.Tiles v x.Next.toNat) := hP13
    refine (?_ : W _ _ _ _ _ (act _ (sets f10 [(1, .int .i64 v), (2, .pointer (some ((⟨g1, 0, none⟩ : Addr)))), (5, .int .i64 ((n : Int) - 1))])) _)
    have hzw11 := hB12.size
    have hl17 := hm14.lt
    refine W.seq ?_
    refine W.seq ?_
    refine W.regS (SR.q' (r_mv (v := .int .i64 _) rfl) <| SR.q' (r_ge rfl rfl) <| SR.nil ?_)
    refine W.cond_d rfl (fun h18 => ?_) (fun h18 => ?_)
    · refine W.skip ?_
      refine W.seq ?_
      refine W.block ?_
      refine W.seq ?_
      refine W.regS (SR.q' (r_fa fa57_1 rfl) <| SR.q' (r_ld (v := .slice Ax_Tiles nx_Tiles cx_Tiles) sca38 rfl ((hm14).cell rfl)) <| SR.q' (r_mv (v := .int .i64 _) rfl) <| ?_)
      have hx20 := (hm15).elem (i := ((n : Int) - 1).toNat) (by omega)
      rw [show ((n : Int) - 1).toNat = n - 1 from by omega] at hx20
      have hx21 : x.Tiles[((n : Int) - 1).toNat]? = some (gt x.Tiles (n - 1)) := (show ((n : Int) - 1).toNat = n - 1 from by omega) ▸ hx20
      refine SR.q' (r_ixR tsl38 (hm15) rfl rfl (by omega)) <| SR.q' (r_ld (v := .int .i64 (gt x.Tiles (n - 1))) sca3 rfl ((hm15).cell0 hx21 rfl)) <| SR.q' (r_mv (v := .int .i64 _) rfl) <| SR.q' (r_lt rfl rfl) <| SR.nil ?_
      refine W.cond_d rfl (fun h22 => ?_) (fun h22 => ?_)
      · refine W.seq ?_
        refine W.regS (SR.q' (r_mv (v := .int .i64 _) rfl) <| SR.q' (r_as (v := .int .i64 _) rfl) <| SR.nil ?_)
        refine W.ret ?_
        refine ret1 rfl (v := .int .i64 _) rfl ?_
        exact ⟨eR (eI (z_c__impl_ScanJob__lastBelow_23 x nx_Tiles hbdx_Tiles hlex_Tiles v hp0 n hi16 h18 hx20 h22)), hB12⟩
      · refine W.skip ?_
        refine W.regS (SR.q' (r_mv (v := .int .i64 _) rfl) <| SR.q' (r_sub rfl rfl (by omega)) <| SR.q' (r_as (v := .int .i64 _) rfl) <| SR.nil ?_)
        refine ⟨n - 1, _, rfl, ⟨rfl, rfl, (eI (by first | omega | (dsimp only; omega))), trivial⟩, ⟨hB12, hm14, hm15, ?_⟩, ?_⟩
        · exact (z_c__impl_ScanJob__lastBelow_24 x nx_Tiles hbdx_Tiles hlex_Tiles v hp0 n hi16 h18 hx20 h22)
        · exact (z_c__impl_ScanJob__lastBelow_25 x nx_Tiles hbdx_Tiles hlex_Tiles v hp0 n hi16 h18 hx20 h22)
    · refine W.exit (xin_here ?_)
      refine W.seq ?_
      refine W.regS (SR.q' (r_as (v := .int .i64 (-1)) rfl) <| SR.nil ?_)
      refine W.ret ?_
      refine ret1 rfl (v := .int .i64 _) rfl ?_
      exact ⟨eR (eI (z_c__impl_ScanJob__lastBelow_26 x nx_Tiles hbdx_Tiles hlex_Tiles v hp0 n hi16 h18)), hB12⟩

open Classical in
noncomputable def impl_ScanJob_isReady (x : ScanJob) (s : ScanStep) : Bool :=
  if s.Kind = 1 then decide (x.State = 0) else if s.Kind = 2 then decide ((x.State = 1) ∧ (x.Next < (x.Tiles.length : Int))) else if s.Kind = 3 then decide ((x.State = 1) ∧ (x.Next < (x.Tiles.length : Int))) else if s.Kind = 4 then decide (x.State = 1) else if s.Kind = 5 then decide ((x.State = 2) ∧ ((s.Value = 0) ∨ (0 ≤ (lastB x.Tiles s.Value x.Next.toNat)))) else decide ((x.State = 1) ∧ (x.Next = (x.Tiles.length : Int)))
theorem c__impl_ScanJob__isReady (w : World) (x : ScanJob) {Ax_Tiles : Option Addr} {nx_Tiles cx_Tiles Bx_Tiles : Nat} (hx_Tiles : SlR w Bx_Tiles encI 1 Ax_Tiles nx_Tiles cx_Tiles x.Tiles) (s : ScanStep) (hp0 : JobOK x) : Calls Tryd.prog 108 #[.agg (List.toArray [.int .i64 x.State, .slice Ax_Tiles nx_Tiles cx_Tiles, .int .i64 x.Next, .int .i64 x.Fails, .int .i64 x.Size]), .agg (List.toArray (encScanStep s))] w fun e w' => e = .returned (.bool (impl_ScanJob_isReady x s)) ∧ Lo w w' := by
  refine calls_W 59 Tryd.func108 rfl rfl rfl ?_
  have hbdx_Tiles := hx_Tiles.bound
  have hlex_Tiles := hx_Tiles.len
  have hBbx_Tiles := hx_Tiles.bd
  have hbdx_Tiles := hx_Tiles.bound
  have hlex_Tiles := hx_Tiles.len
  have hBbx_Tiles := hx_Tiles.bd
  have hrg := job_rng hp0
  refine W.seq ?_
  refine W.regS (SR.box (v := .agg (List.toArray _)) (l := [.int .i64 x.State, .slice Ax_Tiles nx_Tiles cx_Tiles, .int .i64 x.Next, .int .i64 x.Fails, .int .i64 x.Size]) rfl rfl ?_)
  intro g1 w2 hg3 hk4 hs5 hb6
  have hz7 := hk4.size
  have hB8 := (Lo.refl w).lo hk4
  refine SR.box (v := .agg (List.toArray _)) (l := [.int .i64 s.Kind, .int .i64 s.Value]) rfl rfl ?_
  intro g9 w10 hg11 hk12 hs13 hb14
  have hz15 := hk12.size
  have hB16 := hB8.lo hk12
  refine SR.q' (r_as (v := .bool false) rfl) <| SR.nil ?_
  refine W.seq ?_
  refine W.seq ?_
  refine W.regS (SR.q' (r_fa fa60_0 rfl) <| SR.q' (r_ld (v := .int .i64 s.Kind) sca3 rfl ((hb14).cell rfl)) <| SR.nil ?_)
  refine W.block ?_
  refine W.seq ?_
  refine W.regS (SR.q' (r_eq rfl rfl) <| SR.q' (r_as (v := .bool _) rfl) <| SR.nil ?_)
  refine W.cond_d rfl (fun h17 => ?_) (fun h17 => ?_)
  · refine W.seq ?_
    refine W.regS (SR.q' (r_fa fa57_0 rfl) <| SR.q' (r_ld (v := .int .i64 x.State) sca3 rfl (((hb6).lo hk12).cell rfl)) <| SR.q' (r_eq rfl rfl) <| SR.q' (r_as (v := .bool _) rfl) <| SR.nil ?_)
    refine W.ret ?_
    refine ret1 rfl (v := .bool _) rfl ?_
    exact ⟨eR (eB (by unfold impl_ScanJob_isReady; rw [if_pos h17] <;> rfl)), hB16⟩
  · refine W.seq ?_
    refine W.seq ?_
    refine W.regS (SR.q' (r_eq rfl rfl) <| SR.q' (r_as (v := .bool _) rfl) <| SR.nil ?_)
    refine W.cond_d rfl (fun h18 => ?_) (fun h18 => ?_)
    · refine W.skip ?_
      refine W.cond_t (congrArg Value.bool (decide_eq_true h18)) ?_
      refine W.seq ?_
      refine W.regJS (fun f' w' => At f' [(2, .pointer (some ((⟨g1, 0, none⟩ : Addr)))), (4, .bool (decide ((x.State = 1) ∧ (x.Next < (nx_Tiles : Int)))))] ∧ Lo w10 w') ?_ ?_
      · refine SR.q' (r_fa fa57_0 rfl) <| SR.q' (r_ld (v := .int .i64 x.State) sca3 rfl (((hb6).lo hk12).cell rfl)) <| SR.q' (r_eq rfl rfl) <| SR.q' (r_mv (v := .bool _) rfl) <| SR.splitD (fun h19 => ?_) (fun h19 => ?_)
        · refine SR.g' rfl (r_fa fa57_2 rfl) <| SR.g' rfl (r_ld (v := .int .i64 x.Next) sca3 rfl (((hb6).lo hk12).cell rfl)) <| SR.g' rfl (r_fa fa57_1 rfl) <| SR.g' rfl (r_ld (v := .slice Ax_Tiles nx_Tiles cx_Tiles) sca38 rfl (((hb6).lo hk12).cell rfl)) <| SR.g' rfl (r_len und38 rfl) <| SR.g' rfl (r_lt rfl rfl) <| SR.q' (r_pick true rfl (v := .bool _) rfl) <| SR.q' (r_as (v := .bool _) rfl) <| SR.nil ?_
          exact ⟨_, rfl, ⟨⟨rfl, (eDD (jat h19)), trivial⟩, (Lo.refl _)⟩⟩
        · refine SR.s' rfl <| SR.s' rfl <| SR.s' rfl <| SR.s' rfl <| SR.s' rfl <| SR.s' rfl <| SR.q' (r_pick false rfl (v := .bool false) rfl) <| SR.q' (r_as (v := .bool _) rfl) <| SR.nil ?_
          exact ⟨_, rfl, ⟨⟨rfl, (eDF (jaf h19).2), trivial⟩, (Lo.refl _)⟩⟩
      rintro f20 w21 ⟨hat22, hk23⟩
      rw [← sets_of_at hat22]
      have hz24 := hk23.size
      have hB25 := hB16.lo hk23
      refine W.ret ?_
      refine ret1 rfl (v := .bool _) rfl ?_
      exact ⟨eR (eB (by subst hlex_Tiles; unfold impl_ScanJob_isReady; rw [if_neg h17, if_pos h18] <;> rfl)), hB25⟩
    · refine W.regS (SR.q' (r_eq rfl rfl) <| SR.q' (r_as (v := .bool _) rfl) <| SR.nil ?_)
      refine W.cond_d rfl (fun h26 => ?_) (fun h26 => ?_)
      · refine W.seq ?_
        refine W.regJS (fun f' w' => At f' [(2, .pointer (some ((⟨g1, 0, none⟩ : Addr)))), (4, .bool (decide ((x.State = 1) ∧ (x.Next < (nx_Tiles : Int)))))] ∧ Lo w10 w') ?_ ?_
        · refine SR.q' (r_fa fa57_0 rfl) <| SR.q' (r_ld (v := .int .i64 x.State) sca3 rfl (((hb6).lo hk12).cell rfl)) <| SR.q' (r_eq rfl rfl) <| SR.q' (r_mv (v := .bool _) rfl) <| SR.splitD (fun h27 => ?_) (fun h27 => ?_)
          · refine SR.g' rfl (r_fa fa57_2 rfl) <| SR.g' rfl (r_ld (v := .int .i64 x.Next) sca3 rfl (((hb6).lo hk12).cell rfl)) <| SR.g' rfl (r_fa fa57_1 rfl) <| SR.g' rfl (r_ld (v := .slice Ax_Tiles nx_Tiles cx_Tiles) sca38 rfl (((hb6).lo hk12).cell rfl)) <| SR.g' rfl (r_len und38 rfl) <| SR.g' rfl (r_lt rfl rfl) <| SR.q' (r_pick true rfl (v := .bool _) rfl) <| SR.q' (r_as (v := .bool _) rfl) <| SR.nil ?_
            exact ⟨_, rfl, ⟨⟨rfl, (eDD (jat h27)), trivial⟩, (Lo.refl _)⟩⟩
          · refine SR.s' rfl <| SR.s' rfl <| SR.s' rfl <| SR.s' rfl <| SR.s' rfl <| SR.s' rfl <| SR.q' (r_pick false rfl (v := .bool false) rfl) <| SR.q' (r_as (v := .bool _) rfl) <| SR.nil ?_
            exact ⟨_, rfl, ⟨⟨rfl, (eDF (jaf h27).2), trivial⟩, (Lo.refl _)⟩⟩
        rintro f28 w29 ⟨hat30, hk31⟩
        rw [← sets_of_at hat30]
        have hz32 := hk31.size
        have hB33 := hB16.lo hk31
        refine W.ret ?_
        refine ret1 rfl (v := .bool _) rfl ?_
        exact ⟨eR (eB (by subst hlex_Tiles; unfold impl_ScanJob_isReady; rw [if_neg h17, if_neg h18, if_pos h26] <;> rfl)), hB33⟩
      · refine W.seq ?_
        refine W.regS (SR.q' (r_eq rfl rfl) <| SR.q' (r_as (v := .bool _) rfl) <| SR.nil ?_)
        refine W.cond_d rfl (fun h34 => ?_) (fun h34 => ?_)
        · refine W.seq ?_
          refine W.regS (SR.q' (r_fa fa57_0 rfl) <| SR.q' (r_ld (v := .int .i64 x.State) sca3 rfl (((hb6).lo hk12).cell rfl)) <| SR.q' (r_eq rfl rfl) <| SR.q' (r_as (v := .bool _) rfl) <| SR.nil ?_)
          refine W.ret ?_
          refine ret1 rfl (v := .bool _) rfl ?_
          exact ⟨eR (eB (by unfold impl_ScanJob_isReady; rw [if_neg h17, if_neg h18, if_neg h26, if_pos h34] <;> rfl)), hB16⟩
        · refine W.seq ?_
          refine W.regS (SR.q' (r_eq rfl rfl) <| SR.q' (r_as (v := .bool _) rfl) <| SR.nil ?_)
          refine W.cond_d rfl (fun h35 => ?_) (fun h35 => ?_)
          · refine W.seq ?_
            refine W.regJS (fun f' w' => At f' [(2, .pointer (some ((⟨g1, 0, none⟩ : Addr)))), (4, .bool (decide ((x.State = 2) ∧ ((s.Value = 0) ∨ (0 ≤ (lastB x.Tiles s.Value x.Next.toNat))))))] ∧ Lo w10 w') ?_ ?_
            · refine SR.q' (r_fa fa57_0 rfl) <| SR.q' (r_ld (v := .int .i64 x.State) sca3 rfl (((hb6).lo hk12).cell rfl)) <| SR.q' (r_eq rfl rfl) <| SR.q' (r_mv (v := .bool _) rfl) <| SR.splitD (fun h36 => ?_) (fun h36 => ?_)
              · refine SR.g' rfl (r_fa fa60_1 rfl) <| SR.g' rfl (r_ld (v := .int .i64 s.Value) sca3 rfl ((hb14).cell rfl)) <| SR.g' rfl (r_eq rfl rfl) <| SR.g' rfl (r_mv (v := .bool _) rfl) <| SR.splitD (fun h37 => ?_) (fun h37 => ?_)
                · refine SR.s' rfl <| SR.s' rfl <| SR.s' rfl <| SR.s' rfl <| SR.s' rfl <| SR.g' rfl (r_pick true rfl (v := .bool true) rfl) <| SR.q' (r_pick true rfl (v := .bool _) rfl) <| SR.q' (r_as (v := .bool _) rfl) <| SR.nil ?_
                  exact ⟨_, rfl, ⟨⟨rfl, (eDT (((jot h37).trans (jat h36)).1 trivial)), trivial⟩, (Lo.refl _)⟩⟩
                · refine SR.g' rfl (r_lda (l := [.int .i64 x.State, .slice Ax_Tiles nx_Tiles cx_Tiles, .int .i64 x.Next, .int .i64 x.Fails, .int .i64 x.Size]) agg57 rfl (fun _ _ hu => ((hb6).lo hk12).cell hu) rfl) <| SR.g' rfl (r_fa fa60_1 rfl) <| SR.g' rfl (r_ld (v := .int .i64 s.Value) sca3 rfl ((hb14).cell rfl)) <| SR.gcall rfl ent125 (c__impl_ScanJob__lastBelow w10 x ((((hx_Tiles).lo hk4).lo hk12)) s.Value (by first | omega | (dsimp only; omega))) rfl ?_
                  rintro e w38 ⟨rfl, hk39⟩
                  refine ⟨_, rfl, ?_⟩
                  have hz40 := hk39.size
                  have hB41 := hB16.lo hk39
                  have hq42 : -1 ≤ lastB x.Tiles s.Value x.Next.toNat ∧ lastB x.Tiles s.Value x.Next.toNat < (x.Next.toNat : Int) := lastB_rng x.Next.toNat
                  refine SR.g' rfl (r_ge rfl rfl) <| SR.g' rfl (r_pick false rfl (v := .bool _) rfl) <| SR.q' (r_pick true rfl (v := .bool _) rfl) <| SR.q' (r_as (v := .bool _) rfl) <| SR.nil ?_
                  exact ⟨_, rfl, ⟨⟨rfl, (eDD ((jof h37).trans (jat h36))), trivial⟩, (hk39)⟩⟩
              · refine SR.s' rfl <| SR.s' rfl <| SR.s' rfl <| SR.s' rfl <| SR.u' rfl <| SR.u' rfl <| SR.u' rfl <| SR.u' rfl <| SR.u' rfl <| SR.s' rfl <| SR.q' (r_pick false rfl (v := .bool false) rfl) <| SR.q' (r_as (v := .bool _) rfl) <| SR.nil ?_
                exact ⟨_, rfl, ⟨⟨rfl, (eDF (jaf h36).2), trivial⟩, (Lo.refl _)⟩⟩
            rintro f43 w44 ⟨hat45, hk46⟩
            rw [← sets_of_at hat45]
            have hz47 := hk46.size
            have hB48 := hB16.lo hk46
            refine W.ret ?_
            refine ret1 rfl (v := .bool _) rfl ?_
            exact ⟨eR (eB (by unfold impl_ScanJob_isReady; rw [if_neg h17, if_neg h18, if_neg h26, if_neg h34, if_pos h35] <;> rfl)), hB48⟩
          · refine W.skip ?_
            refine W.seq ?_
            refine W.regJS (fun f' w' => At f' [(4, .bool (decide ((x.State = 1) ∧ (x.Next = (nx_Tiles : Int)))))] ∧ Lo w10 w') ?_ ?_
            · refine SR.q' (r_fa fa57_0 rfl) <| SR.q' (r_ld (v := .int .i64 x.State) sca3 rfl (((hb6).lo hk12).cell rfl)) <| SR.q' (r_eq rfl rfl) <| SR.q' (r_mv (v := .bool _) rfl) <| SR.splitD (fun h49 => ?_) (fun h49 => ?_)
              · refine SR.g' rfl (r_fa fa57_2 rfl) <| SR.g' rfl (r_ld (v := .int .i64 x.Next) sca3 rfl (((hb6).lo hk12).cell rfl)) <| SR.g' rfl (r_fa fa57_1 rfl) <| SR.g' rfl (r_ld (v := .slice Ax_Tiles nx_Tiles cx_Tiles) sca38 rfl (((hb6).lo hk12).cell rfl)) <| SR.g' rfl (r_len und38 rfl) <| SR.g' rfl (r_eq rfl rfl) <| SR.q' (r_pick true rfl (v := .bool _) rfl) <| SR.q' (r_as (v := .bool _) rfl) <| SR.nil ?_
                exact ⟨_, rfl, ⟨⟨(eDD (jat h49)), trivial⟩, (Lo.refl _)⟩⟩
              · refine SR.s' rfl <| SR.s' rfl <| SR.s' rfl <| SR.s' rfl <| SR.s' rfl <| SR.s' rfl <| SR.q' (r_pick false rfl (v := .bool false) rfl) <| SR.q' (r_as (v := .bool _) rfl) <| SR.nil ?_
                exact ⟨_, rfl, ⟨⟨(eDF (jaf h49).2), trivial⟩, (Lo.refl _)⟩⟩
            rintro f50 w51 ⟨hat52, hk53⟩
            rw [← sets_of_at hat52]
            have hz54 := hk53.size
            have hB55 := hB16.lo hk53
            refine W.ret ?_
            refine ret1 rfl (v := .bool _) rfl ?_
            exact ⟨eR (eB (by subst hlex_Tiles; unfold impl_ScanJob_isReady; rw [if_neg h17, if_neg h18, if_neg h26, if_neg h34, if_neg h35] <;> rfl)), hB55⟩
end Go.Proofs.YtlpapeeaghmjpaaDoor
