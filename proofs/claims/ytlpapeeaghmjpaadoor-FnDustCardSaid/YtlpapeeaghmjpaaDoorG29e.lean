/- Walks, printed by a program of this claim's author. -/
import Derived.Test.YtlpapeeaghmjpaaDoorChecked
import Derived.Test.YtlpapeeaghmjpaaDoorSa
import Derived.Test.YtlpapeeaghmjpaaDoorFu
import Derived.Test.YtlpapeeaghmjpaaDoorFs
import Derived.Test.YtlpapeeaghmjpaaDoorFq
import Derived.Test.YtlpapeeaghmjpaaDoorFo
import Derived.Test.YtlpapeeaghmjpaaDoorG29d
namespace Go.Proofs.YtlpapeeaghmjpaaDoor
open Go Go.RowKit Fw
set_option maxRecDepth 10000
set_option linter.unusedVariables false
theorem ent100 : Ent Tryd.prog 100 := ent_of Tryd.func100 (by decide +kernel) rfl
theorem ent99 : Ent Tryd.prog 99 := ent_of Tryd.func99 (by decide +kernel) rfl
theorem und4 : Tryd.prog.underlying 4 = some (.bool) := by kernel_rfl

open Classical in
noncomputable def spec_l21Dusty (x : Chest) (v : Int) : Chest × Bool :=
  if v = 0 then ((⟨x.State, x.Key, x.Stack, 0, x.Laid, x.Given⟩ : Chest), decide (x.State = 1)) else if x.State = 1 then ((⟨x.State, x.Key, x.Stack, min 100 (x.Dust + v), x.Laid, x.Given⟩ : Chest), true) else ((⟨x.State, x.Key, x.Stack, min 100 (x.Dust + (v / 10)), x.Laid, x.Given⟩ : Chest), true)
theorem c_spec_l21Dusty (w : World) (x : Chest) {Ax_Stack : Option Addr} {nx_Stack cx_Stack Bx_Stack : Nat} (hx_Stack : SlR w Bx_Stack encI 1 Ax_Stack nx_Stack cx_Stack x.Stack) (v : Int) (hp0 : ChestOK x) (hp1 : 0 ≤ v ∧ v ≤ 9999) : Calls Tryd.prog 59 #[.agg (List.toArray [.int .i64 x.State, .int .i64 x.Key, .slice Ax_Stack nx_Stack cx_Stack, .int .i64 x.Dust, .int .i64 x.Laid, .int .i64 x.Given]), .int .i64 v] w fun e w' => ∃ (A1' : Option Addr) (n1' c1' : Nat), e = .returned (.tuple (List.toArray [.agg (List.toArray [.int .i64 (((spec_l21Dusty x v).1).State), .int .i64 (((spec_l21Dusty x v).1).Key), .slice A1' n1' c1', .int .i64 (((spec_l21Dusty x v).1).Dust), .int .i64 (((spec_l21Dusty x v).1).Laid), .int .i64 (((spec_l21Dusty x v).1).Given)]), .bool ((spec_l21Dusty x v).2)])) ∧ SlO w' w.heap.size encI 1 3 A1' n1' c1' (((spec_l21Dusty x v).1).Stack) ∧ Lo w w' := by
  refine calls_W 30 Tryd.func59 rfl rfl rfl ?_
  have hbdx_Stack := hx_Stack.bound
  have hlex_Stack := hx_Stack.len
  have hBbx_Stack := hx_Stack.bd
  have hbdx_Stack := hx_Stack.bound
  have hlex_Stack := hx_Stack.len
  have hBbx_Stack := hx_Stack.bd
  have hrg := chest_rng hp0
  refine W.seq ?_
  refine W.regS (SR.box (v := .agg (List.toArray _)) (l := [.int .i64 x.State, .int .i64 x.Key, .slice Ax_Stack nx_Stack cx_Stack, .int .i64 x.Dust, .int .i64 x.Laid, .int .i64 x.Given]) rfl rfl ?_)
  intro g1 w2 hg3 hk4 hs5 hb6
  have hz7 := hk4.size
  have hB8 := (Lo.refl w).lo hk4
  refine SR.alloc (l := [.int .i64 0, .int .i64 0, .slice none 0 0, .int .i64 0, .int .i64 0, .int .i64 0]) tz40 rfl ?_
  intro g9 w10 hg11 hk12 hs13 hb14
  have hz15 := hk12.size
  have hB16 := hB8.lo hk12
  refine SR.q' (r_as (v := .bool false) rfl) <| SR.nil ?_
  refine W.seq ?_
  refine W.regS (SR.q' (r_lda (l := [.int .i64 x.State, .int .i64 x.Key, .slice Ax_Stack nx_Stack cx_Stack, .int .i64 x.Dust, .int .i64 x.Laid, .int .i64 x.Given]) agg40 rfl (fun _ _ hu => ((hb6).lo hk12).cell hu) rfl) <| SR.call ent99 (c_spec_l21Own w10 x ((((hx_Stack).lo hk4).lo hk12)) (by omega)) rfl ?_)
  rintro e w17 ⟨A19, n20, c21, rfl, hO22, hk18⟩
  refine ⟨_, rfl, ?_⟩
  have hz23 := hk18.size
  have hB24 := hB16.lo hk18
  have hl25 := hO22.len
  have hl26 := hO22.rd.bound
  refine SR.alloc (l := [.int .i64 0, .int .i64 0, .slice none 0 0, .int .i64 0, .int .i64 0, .int .i64 0]) tz40 rfl ?_
  intro g27 w28 hg29 hk30 hs31 hb32
  have hz33 := hk30.size
  have hB34 := hB24.lo hk30
  have hd35 : ¬ A19 = some ⟨g27, 0, none⟩ := fun e' => by have := (hO22).base_le e'; omega
  refine SR.store (o := 0) (vs := [.int .i64 x.State, .int .i64 x.Key, .slice A19 n20 c21, .int .i64 x.Dust, .int .i64 x.Laid, .int .i64 x.Given]) agg40.2 rfl rfl rfl rfl (hb32) (Nat.le_of_ble_eq_true rfl) rfl ?_
  intro w36 hk37 hs38 hb39
  have hz40 := hk37.size
  have hB41 := hB34.new hk37 (by omega)
  refine SR.nil ?_
  refine W.seq ?_
  refine W.block ?_
  refine W.seq ?_
  refine W.regS (SR.q' (r_mv (v := .int .i64 _) rfl) <| SR.q' (r_eq rfl rfl) <| SR.q' (r_as (v := .bool _) rfl) <| SR.nil ?_)
  refine W.cond_d rfl (fun h42 => ?_) (fun h42 => ?_)
  · refine W.seq ?_
    refine W.regS (SR.q' (r_fa fa40_3 rfl) <| SR.store (o := 3) (vs := [.int .i64 0]) sca3.2 rfl rfl rfl rfl (hb39) (Nat.le_of_ble_eq_true rfl) rfl ?_)
    intro w43 hk44 hs45 hb46
    have hz47 := hk44.size
    have hB48 := hB41.new hk44 (by omega)
    refine SR.nil ?_
    refine W.seq ?_
    refine W.regA (Kp (fun b_ => b_ = g9) w43) (fun f' w' => At f' [(1, .int .i64 v), (2, .pointer (some ((⟨g1, 0, none⟩ : Addr)))), (4, .pointer (some ((⟨g9, 0, none⟩ : Addr)))), (5, .bool (decide (x.State = 1))), (6, .pointer (some ((⟨g27, 0, none⟩ : Addr))))] ∧ (Kp (fun b_ => b_ = g9) w43 w') ∧ (Blk w' g9 40 [.int .i64 x.State, .int .i64 x.Key, .slice A19 n20 c21, .int .i64 0, .int .i64 x.Laid, .int .i64 x.Given])) mo ?_ ?_
    · intro w60 hk61
      have hz62 := hk61.size
      have hB63 := hB48.lo hk61
      refine AH.take 0 rfl (by kernel_rfl) trivial ((Kp.refl w43 : Kp (fun b_ => b_ = g9) w43 w43).lo hk61) (fun w' hw' => r_lda (l := [.int .i64 x.State, .int .i64 x.Key, .slice A19 n20 c21, .int .i64 0, .int .i64 x.Laid, .int .i64 x.Given]) agg40 rfl (fun _ _ hu => ((hb46).kp hw' (fun e' => by have e'' : g27 = g9 := e'; omega)).cell hu) rfl) <| AH.take 1 rfl (by kernel_rfl) trivial ((Kp.refl w43 : Kp (fun b_ => b_ = g9) w43 w43).lo hk61) (fun w' hw' => r_fa fa40_0 rfl) <| AH.take 2 rfl (by kernel_rfl) trivial ((Kp.refl w43 : Kp (fun b_ => b_ = g9) w43 w43).lo hk61) (fun w' hw' => r_ld (v := .int .i64 x.State) sca3 rfl ((((((((hb6).lo hk12).lo hk18).lo hk30).kp hk37 (fun e' => by have e'' : g1 = g27 := e'; omega)).kp hk44 (fun e' => by have e'' : g1 = g27 := e'; omega)).kp hw' (fun e' => by have e'' : g1 = g9 := e'; omega)).cell rfl)) <| AH.take 3 rfl (by kernel_rfl) trivial ((Kp.refl w43 : Kp (fun b_ => b_ = g9) w43 w43).lo hk61) (fun w' hw' => r_eq rfl rfl) <| AH.br [4] (by kernel_rfl) rfl ⟨Br.mk' rfl trivial ?_, trivial⟩
      refine SR.store (o := 0) (vs := [.int .i64 x.State, .int .i64 x.Key, .slice A19 n20 c21, .int .i64 0, .int .i64 x.Laid, .int .i64 x.Given]) agg40.2 rfl rfl rfl rfl ((((((hb14).lo hk18).lo hk30).kp hk37 (fun e' => by have e'' : g9 = g27 := e'; omega)).kp hk44 (fun e' => by have e'' : g9 = g27 := e'; omega)).lo hk61) (Nat.le_of_ble_eq_true rfl) rfl ?_
      intro w64 hk65 hs66 hb67
      have hz68 := hk65.size
      have hB69 := hB63.new hk65 (by omega)
      have hS70 := ((Kp.refl w43 : Kp (fun b_ => b_ = g9) w43 w43).lo hk61).step hk65 (fun _ _ e => e)
      refine SR.nil ⟨hS70, _, rfl, ?_⟩
      refine AH.take 5 rfl (by kernel_rfl) trivial (hS70) (fun w' hw' => r_as (v := .bool _) rfl) <| AH.done (by kernel_rfl) ?_
      exact ⟨⟨rfl, rfl, rfl, rfl, rfl, trivial⟩, hS70, (hb67)⟩
    rintro f72 w73 ⟨hat75, hR74, hm71⟩
    rw [← sets_of_at hat75]
    have hz76 := hR74.size
    have hB77 := hB48.new hR74 (by omega)
    refine W.ret ?_
    refine retCT rfl rfl agg40 (hm71) rfl (v := .bool _) rfl ?_
    exact ⟨A19, n20, c21, eR (eT2 (eA (eC (eI (by subst hl25; unfold spec_l21Dusty; rw [if_pos h42] <;> rfl)) (eC (eI (by subst hl25; unfold spec_l21Dusty; rw [if_pos h42] <;> rfl)) (eC rfl (eC (eI (by subst hl25; unfold spec_l21Dusty; rw [if_pos h42] <;> rfl)) (eC (eI (by subst hl25; unfold spec_l21Dusty; rw [if_pos h42] <;> rfl)) (eC (eI (by subst hl25; unfold spec_l21Dusty; rw [if_pos h42] <;> rfl)) rfl))))))) (eB (by subst hl25; unfold spec_l21Dusty; rw [if_pos h42] <;> rfl))), (SlO.eqv ((((((hO22).lo hk30).kp hk37 (fun b_ hb e' => hd35 (by have e'' : b_ = g27 := e'; rw [← e'']; exact hb))).kp hk44 (fun b_ hb e' => hd35 (by have e'' : b_ = g27 := e'; rw [← e'']; exact hb))).kp hR74 (fun b_ hb e' => by have e'' : b_ = g9 := e'; have := ((((hO22).lo hk30).kp hk37 (fun b_ hb e' => hd35 (by have e'' : b_ = g27 := e'; rw [← e'']; exact hb))).kp hk44 (fun b_ hb e' => hd35 (by have e'' : b_ = g27 := e'; rw [← e'']; exact hb))).base_le hb; omega)).down (by omega)) (by subst hl25; unfold spec_l21Dusty; rw [if_pos h42] <;> rfl)), hB77⟩
  · refine W.seq ?_
    refine W.regS (SR.q' (r_fa fa40_0 rfl) <| SR.q' (r_ld (v := .int .i64 x.State) sca3 rfl ((((((hb6).lo hk12).lo hk18).lo hk30).kp hk37 (fun e' => by have e'' : g1 = g27 := e'; omega)).cell rfl)) <| SR.q' (r_ne rfl rfl) <| SR.q' (r_as (v := .bool _) rfl) <| SR.nil ?_)
    refine W.cond_n rfl (fun h78 => ?_) (fun h78 => ?_)
    · refine W.regS (SR.q' (r_mv (v := .int .i64 _) rfl) <| SR.q' (r_quo rfl rfl (by omega)) <| SR.q' (r_as (v := .int .i64 _) rfl) <| SR.nil ?_)
      refine W.seq ?_
      refine W.regS (SR.q' (r_fa fa40_3 rfl) <| SR.q' (r_ld (v := .int .i64 x.Dust) sca3 rfl ((((((hb6).lo hk12).lo hk18).lo hk30).kp hk37 (fun e' => by have e'' : g1 = g27 := e'; omega)).cell rfl)) <| SR.q' (r_mv (v := .int .i64 _) rfl) <| SR.q' (r_add rfl rfl (by omega)) <| SR.call ent100 (c_spec_l1Least w36 100 (x.Dust + (v / 10))) rfl ?_)
      rintro e w79 ⟨rfl, hk80⟩
      refine ⟨_, rfl, ?_⟩
      have hz81 := hk80.size
      have hB82 := hB41.lo hk80
      refine SR.q' (r_fa fa40_3 rfl) <| SR.store (o := 3) (vs := [.int .i64 (min 100 (x.Dust + (v / 10)))]) sca3.2 rfl rfl rfl rfl ((hb39).lo hk80) (Nat.le_of_ble_eq_true rfl) rfl ?_
      intro w83 hk84 hs85 hb86
      have hz87 := hk84.size
      have hB88 := hB82.new hk84 (by omega)
      refine SR.nil ?_
      refine W.seq ?_
      refine W.regS (SR.q' (r_lda (l := [.int .i64 x.State, .int .i64 x.Key, .slice A19 n20 c21, .int .i64 (min 100 (x.Dust + (v / 10))), .int .i64 x.Laid, .int .i64 x.Given]) agg40 rfl (fun _ _ hu => (hb86).cell hu) rfl) <| SR.store (o := 0) (vs := [.int .i64 x.State, .int .i64 x.Key, .slice A19 n20 c21, .int .i64 (min 100 (x.Dust + (v / 10))), .int .i64 x.Laid, .int .i64 x.Given]) agg40.2 rfl rfl rfl rfl ((((((hb14).lo hk18).lo hk30).kp hk37 (fun e' => by have e'' : g9 = g27 := e'; omega)).lo hk80).kp hk84 (fun e' => by have e'' : g9 = g27 := e'; omega)) (Nat.le_of_ble_eq_true rfl) rfl ?_)
      intro w89 hk90 hs91 hb92
      have hz93 := hk90.size
      have hB94 := hB88.new hk90 (by omega)
      refine SR.q' (r_as (v := .bool true) rfl) <| SR.nil ?_
      refine W.ret ?_
      refine retCT rfl rfl agg40 (hb92) rfl (v := .bool _) rfl ?_
      exact ⟨A19, n20, c21, eR (eT2 (eA (eC (eI (by subst hl25; unfold spec_l21Dusty; rw [if_neg h42, if_neg h78] <;> rfl)) (eC (eI (by subst hl25; unfold spec_l21Dusty; rw [if_neg h42, if_neg h78] <;> rfl)) (eC rfl (eC (eI (by subst hl25; unfold spec_l21Dusty; rw [if_neg h42, if_neg h78] <;> rfl)) (eC (eI (by subst hl25; unfold spec_l21Dusty; rw [if_neg h42, if_neg h78] <;> rfl)) (eC (eI (by subst hl25; unfold spec_l21Dusty; rw [if_neg h42, if_neg h78] <;> rfl)) rfl))))))) (eB (by subst hl25; unfold spec_l21Dusty; rw [if_neg h42, if_neg h78] <;> rfl))), (SlO.eqv (((((((hO22).lo hk30).kp hk37 (fun b_ hb e' => hd35 (by have e'' : b_ = g27 := e'; rw [← e'']; exact hb))).lo hk80).kp hk84 (fun b_ hb e' => hd35 (by have e'' : b_ = g27 := e'; rw [← e'']; exact hb))).kp hk90 (fun b_ hb e' => by have e'' : b_ = g9 := e'; have := (((((hO22).lo hk30).kp hk37 (fun b_ hb e' => hd35 (by have e'' : b_ = g27 := e'; rw [← e'']; exact hb))).lo hk80).kp hk84 (fun b_ hb e' => hd35 (by have e'' : b_ = g27 := e'; rw [← e'']; exact hb))).base_le hb; omega)).down (by omega)) (by subst hl25; unfold spec_l21Dusty; rw [if_neg h42, if_neg h78] <;> rfl)), hB94⟩
    · refine W.skip ?_
      refine W.seq ?_
      refine W.regS (SR.q' (r_fa fa40_3 rfl) <| SR.q' (r_ld (v := .int .i64 x.Dust) sca3 rfl ((((((hb6).lo hk12).lo hk18).lo hk30).kp hk37 (fun e' => by have e'' : g1 = g27 := e'; omega)).cell rfl)) <| SR.q' (r_mv (v := .int .i64 _) rfl) <| SR.q' (r_add rfl rfl (by omega)) <| SR.call ent100 (c_spec_l1Least w36 100 (x.Dust + v)) rfl ?_)
      rintro e w95 ⟨rfl, hk96⟩
      refine ⟨_, rfl, ?_⟩
      have hz97 := hk96.size
      have hB98 := hB41.lo hk96
      refine SR.q' (r_fa fa40_3 rfl) <| SR.store (o := 3) (vs := [.int .i64 (min 100 (x.Dust + v))]) sca3.2 rfl rfl rfl rfl ((hb39).lo hk96) (Nat.le_of_ble_eq_true rfl) rfl ?_
      intro w99 hk100 hs101 hb102
      have hz103 := hk100.size
      have hB104 := hB98.new hk100 (by omega)
      refine SR.nil ?_
      refine W.seq ?_
      refine W.regS (SR.q' (r_lda (l := [.int .i64 x.State, .int .i64 x.Key, .slice A19 n20 c21, .int .i64 (min 100 (x.Dust + v)), .int .i64 x.Laid, .int .i64 x.Given]) agg40 rfl (fun _ _ hu => (hb102).cell hu) rfl) <| SR.store (o := 0) (vs := [.int .i64 x.State, .int .i64 x.Key, .slice A19 n20 c21, .int .i64 (min 100 (x.Dust + v)), .int .i64 x.Laid, .int .i64 x.Given]) agg40.2 rfl rfl rfl rfl ((((((hb14).lo hk18).lo hk30).kp hk37 (fun e' => by have e'' : g9 = g27 := e'; omega)).lo hk96).kp hk100 (fun e' => by have e'' : g9 = g27 := e'; omega)) (Nat.le_of_ble_eq_true rfl) rfl ?_)
      intro w105 hk106 hs107 hb108
      have hz109 := hk106.size
      have hB110 := hB104.new hk106 (by omega)
      refine SR.q' (r_as (v := .bool true) rfl) <| SR.nil ?_
      refine W.ret ?_
      refine retCT rfl rfl agg40 (hb108) rfl (v := .bool _) rfl ?_
      exact ⟨A19, n20, c21, eR (eT2 (eA (eC (eI (by subst hl25; unfold spec_l21Dusty; rw [if_neg h42, if_pos h78] <;> rfl)) (eC (eI (by subst hl25; unfold spec_l21Dusty; rw [if_neg h42, if_pos h78] <;> rfl)) (eC rfl (eC (eI (by subst hl25; unfold spec_l21Dusty; rw [if_neg h42, if_pos h78] <;> rfl)) (eC (eI (by subst hl25; unfold spec_l21Dusty; rw [if_neg h42, if_pos h78] <;> rfl)) (eC (eI (by subst hl25; unfold spec_l21Dusty; rw [if_neg h42, if_pos h78] <;> rfl)) rfl))))))) (eB (by subst hl25; unfold spec_l21Dusty; rw [if_neg h42, if_pos h78] <;> rfl))), (SlO.eqv (((((((hO22).lo hk30).kp hk37 (fun b_ hb e' => hd35 (by have e'' : b_ = g27 := e'; rw [← e'']; exact hb))).lo hk96).kp hk100 (fun b_ hb e' => hd35 (by have e'' : b_ = g27 := e'; rw [← e'']; exact hb))).kp hk106 (fun b_ hb e' => by have e'' : b_ = g9 := e'; have := (((((hO22).lo hk30).kp hk37 (fun b_ hb e' => hd35 (by have e'' : b_ = g27 := e'; rw [← e'']; exact hb))).lo hk96).kp hk100 (fun b_ hb e' => hd35 (by have e'' : b_ = g27 := e'; rw [← e'']; exact hb))).base_le hb; omega)).down (by omega)) (by subst hl25; unfold spec_l21Dusty; rw [if_neg h42, if_pos h78] <;> rfl)), hB110⟩

open Classical in
noncomputable def spec_l21Move (x : Chest) (s : ChestStep) : Chest × Bool :=
  if (¬ (x.State = 1)) ∨ ((!((decide (0 ≤ (idxF (eqI s.Value) x.Stack))) == (decide (s.Kind = 6)))) = true) then (x, false) else if s.Kind = 5 then ((⟨x.State, x.Key, x.Stack ++ ([s.Value] : List Int), x.Dust, x.Laid + 1, x.Given⟩ : Chest), true) else ((⟨x.State, x.Key, (x.Stack.take ((idxF (eqI s.Value) x.Stack).toNat)) ++ (x.Stack.drop (((idxF (eqI s.Value) x.Stack) + 1).toNat)), x.Dust, x.Laid, x.Given + 1⟩ : Chest), true)
theorem c_spec_l21Move (w : World) (x : Chest) {Ax_Stack : Option Addr} {nx_Stack cx_Stack Bx_Stack : Nat} (hx_Stack : SlR w Bx_Stack encI 1 Ax_Stack nx_Stack cx_Stack x.Stack) (s : ChestStep) (hp0 : ChestOK x) (hp1 : s.Kind = 5 ∨ s.Kind = 6) : Calls Tryd.prog 128 #[.agg (List.toArray [.int .i64 x.State, .int .i64 x.Key, .slice Ax_Stack nx_Stack cx_Stack, .int .i64 x.Dust, .int .i64 x.Laid, .int .i64 x.Given]), .agg (List.toArray (encChestStep s))] w fun e w' => ∃ (A1' : Option Addr) (n1' c1' : Nat), e = .returned (.tuple (List.toArray [.agg (List.toArray [.int .i64 (((spec_l21Move x s).1).State), .int .i64 (((spec_l21Move x s).1).Key), .slice A1' n1' c1', .int .i64 (((spec_l21Move x s).1).Dust), .int .i64 (((spec_l21Move x s).1).Laid), .int .i64 (((spec_l21Move x s).1).Given)]), .bool ((spec_l21Move x s).2)])) ∧ SlO w' w.heap.size encI 1 3 A1' n1' c1' (((spec_l21Move x s).1).Stack) ∧ Lo w w' := by
  refine calls_W 60 Tryd.func128 rfl rfl rfl ?_
  have hbdx_Stack := hx_Stack.bound
  have hlex_Stack := hx_Stack.len
  have hBbx_Stack := hx_Stack.bd
  have hbdx_Stack := hx_Stack.bound
  have hlex_Stack := hx_Stack.len
  have hBbx_Stack := hx_Stack.bd
  have hrg := chest_rng hp0
  refine W.seq ?_
  refine W.regS (SR.box (v := .agg (List.toArray _)) (l := [.int .i64 x.State, .int .i64 x.Key, .slice Ax_Stack nx_Stack cx_Stack, .int .i64 x.Dust, .int .i64 x.Laid, .int .i64 x.Given]) rfl rfl ?_)
  intro g1 w2 hg3 hk4 hs5 hb6
  have hz7 := hk4.size
  have hB8 := (Lo.refl w).lo hk4
  refine SR.box (v := .agg (List.toArray _)) (l := [.int .i64 s.Kind, .int .i64 s.Value]) rfl rfl ?_
  intro g9 w10 hg11 hk12 hs13 hb14
  have hz15 := hk12.size
  have hB16 := hB8.lo hk12
  refine SR.alloc (l := [.int .i64 0, .int .i64 0, .slice none 0 0, .int .i64 0, .int .i64 0, .int .i64 0]) tz40 rfl ?_
  intro g17 w18 hg19 hk20 hs21 hb22
  have hz23 := hk20.size
  have hB24 := hB16.lo hk20
  refine SR.q' (r_as (v := .bool false) rfl) <| SR.nil ?_
  refine W.seq ?_
  refine W.regA (Lo w18) (fun f' w' => ∃ (A31 : Option Addr), ∃ (n32 : Nat), ∃ (c33 : Nat), ∃ (g46 : Nat), At f' [(2, .pointer (some ((⟨g1, 0, none⟩ : Addr)))), (3, .pointer (some ((⟨g9, 0, none⟩ : Addr)))), (4, .pointer (some ((⟨g17, 0, none⟩ : Addr)))), (5, .bool false), (6, .pointer (some ((⟨g46, 0, none⟩ : Addr)))), (7, .int .i64 (idxF (eqI s.Value) x.Stack))] ∧ (Lo w18 w') ∧ (SlO w' w18.heap.size encI 1 3 A31 n32 c33 x.Stack) ∧ (Blk w' g46 40 [.int .i64 x.State, .int .i64 x.Key, .slice A31 n32 c33, .int .i64 x.Dust, .int .i64 x.Laid, .int .i64 x.Given]) ∧ (w18.heap.size ≤ g46 ∧ g46 < w'.heap.size) ∧ (¬ A31 = some ⟨g46, 0, none⟩) ∧ (n32 = (x.Stack).length) ∧ ((n32 : Int) ≤ 9223372036854775807) ∧ (idxF (eqI s.Value) x.Stack < (x.Stack.length : Int) ∧ -1 ≤ idxF (eqI s.Value) x.Stack)) mo ?_ ?_
  · intro w25 hk26
    have hz27 := hk26.size
    have hB28 := hB24.lo hk26
    refine AH.take 0 rfl (by kernel_rfl) trivial (hk26) (fun w' hw' => r_lda (l := [.int .i64 x.State, .int .i64 x.Key, .slice Ax_Stack nx_Stack cx_Stack, .int .i64 x.Dust, .int .i64 x.Laid, .int .i64 x.Given]) agg40 rfl (fun _ _ hu => ((((hb6).lo hk12).lo hk20).lo hw').cell hu) rfl) <| AH.take 2 rfl (by kernel_rfl) trivial (hk26) (fun w' hw' => r_fa fa40_2 rfl) <| AH.take 3 rfl (by kernel_rfl) trivial (hk26) (fun w' hw' => r_ld (v := .slice Ax_Stack nx_Stack cx_Stack) sca38 rfl (((((hb6).lo hk12).lo hk20).lo hw').cell rfl)) <| AH.take 4 rfl (by kernel_rfl) trivial (hk26) (fun w' hw' => r_fa fa48_1 rfl) <| AH.take 5 rfl (by kernel_rfl) trivial (hk26) (fun w' hw' => r_ld (v := .int .i64 s.Value) sca3 rfl ((((hb14).lo hk20).lo hw').cell rfl)) <| AH.br [1, 7] (by kernel_rfl) rfl ⟨Br.mk' rfl trivial ?_, Br.mk' rfl trivial ?_, trivial⟩
    · refine SR.call ent99 (c_spec_l21Own w25 x ((((((hx_Stack).lo hk4).lo hk12).lo hk20).lo hk26)) (by omega)) rfl ?_
      rintro e w29 ⟨A31, n32, c33, rfl, hO34, hk30⟩
      refine ⟨_, rfl, ?_⟩
      have hz35 := hk30.size
      have hB36 := hB28.lo hk30
      have hS37 := (hk26).lo hk30
      have hl38 := hO34.len
      have hl39 := hO34.rd.bound
      refine SR.nil ⟨hS37, _, rfl, ?_⟩
      refine AH.br [6, 7] (by kernel_rfl) rfl ⟨Br.mk' rfl trivial ?_, Br.mk' rfl trivial ?_, trivial⟩
      · refine SR.call ent98 (c_spec_l21Find w29 x.Stack (((((((hx_Stack).lo hk4).lo hk12).lo hk20).lo hk26).lo hk30)) s.Value) rfl ?_
        rintro e w40 ⟨rfl, hk41⟩
        refine ⟨_, rfl, ?_⟩
        have hz42 := hk41.size
        have hB43 := hB36.lo hk41
        have hS44 := (hS37).lo hk41
        have hq45 : idxF (eqI s.Value) x.Stack < (x.Stack.length : Int) ∧ -1 ≤ idxF (eqI s.Value) x.Stack := idx_lt
        refine SR.nil ⟨hS44, _, rfl, ?_⟩
        refine AH.br [7] (by kernel_rfl) rfl ⟨Br.mk' rfl trivial ?_, trivial⟩
        refine SR.alloc (l := [.int .i64 0, .int .i64 0, .slice none 0 0, .int .i64 0, .int .i64 0, .int .i64 0]) tz40 rfl ?_
        intro g46 w47 hg48 hk49 hs50 hb51
        have hz52 := hk49.size
        have hB53 := hB43.lo hk49
        have hS54 := (hS44).lo hk49
        have hd55 : ¬ A31 = some ⟨g46, 0, none⟩ := fun e' => by have := ((hO34).lo hk41).base_le e'; omega
        refine SR.nil ⟨hS54, _, rfl, ?_⟩
        refine AH.br [8] (by kernel_rfl) rfl ⟨Br.mk' rfl trivial ?_, trivial⟩
        refine SR.store (o := 0) (vs := [.int .i64 x.State, .int .i64 x.Key, .slice A31 n32 c33, .int .i64 x.Dust, .int .i64 x.Laid, .int .i64 x.Given]) agg40.2 rfl rfl rfl rfl (hb51) (Nat.le_of_ble_eq_true rfl) rfl ?_
        intro w56 hk57 hs58 hb59
        have hz60 := hk57.size
        have hB61 := hB53.new hk57 (by omega)
        have hS62 := (hS54).new hk57 (by omega)
        refine SR.nil ⟨hS62, _, rfl, ?_⟩
        refine AH.take 9 rfl (by kernel_rfl) trivial (hS62) (fun w' hw' => r_as (v := .int .i64 _) rfl) <| AH.done (by kernel_rfl) ?_
        exact ⟨A31, n32, c33, g46, ⟨rfl, rfl, rfl, rfl, rfl, rfl, trivial⟩, hS62, (((((hO34).lo hk41).lo hk49).kp hk57 (fun b_ hb e' => hd55 (by have e'' : b_ = g46 := e'; rw [← e'']; exact hb))).down (by omega)), (hb59), ⟨by omega, (hb59).lt⟩, hd55, hl38, hl39, hq45⟩
      · refine SR.alloc (l := [.int .i64 0, .int .i64 0, .slice none 0 0, .int .i64 0, .int .i64 0, .int .i64 0]) tz40 rfl ?_
        intro g67 w68 hg69 hk70 hs71 hb72
        have hz73 := hk70.size
        have hB74 := hB36.lo hk70
        have hS75 := (hS37).lo hk70
        have hd76 : ¬ A31 = some ⟨g67, 0, none⟩ := fun e' => by have := (hO34).base_le e'; omega
        refine SR.nil ⟨hS75, _, rfl, ?_⟩
        refine AH.br [6] (by kernel_rfl) rfl ⟨Br.mk' rfl trivial ?_, trivial⟩
        refine SR.call ent98 (c_spec_l21Find w68 x.Stack ((((((((hx_Stack).lo hk4).lo hk12).lo hk20).lo hk26).lo hk30).lo hk70)) s.Value) rfl ?_
        rintro e w77 ⟨rfl, hk78⟩
        refine ⟨_, rfl, ?_⟩
        have hz79 := hk78.size
        have hB80 := hB74.lo hk78
        have hS81 := (hS75).lo hk78
        have hq82 : idxF (eqI s.Value) x.Stack < (x.Stack.length : Int) ∧ -1 ≤ idxF (eqI s.Value) x.Stack := idx_lt
        refine SR.nil ⟨hS81, _, rfl, ?_⟩
        refine AH.br [8] (by kernel_rfl) rfl ⟨Br.mk' rfl trivial ?_, trivial⟩
        refine SR.store (o := 0) (vs := [.int .i64 x.State, .int .i64 x.Key, .slice A31 n32 c33, .int .i64 x.Dust, .int .i64 x.Laid, .int .i64 x.Given]) agg40.2 rfl rfl rfl rfl ((hb72).lo hk78) (Nat.le_of_ble_eq_true rfl) rfl ?_
        intro w83 hk84 hs85 hb86
        have hz87 := hk84.size
        have hB88 := hB80.new hk84 (by omega)
        have hS89 := (hS81).new hk84 (by omega)
        refine SR.nil ⟨hS89, _, rfl, ?_⟩
        refine AH.take 9 rfl (by kernel_rfl) trivial (hS89) (fun w' hw' => r_as (v := .int .i64 _) rfl) <| AH.done (by kernel_rfl) ?_
        exact ⟨A31, n32, c33, g67, ⟨rfl, rfl, rfl, rfl, rfl, rfl, trivial⟩, hS89, (((((hO34).lo hk70).lo hk78).kp hk84 (fun b_ hb e' => hd76 (by have e'' : b_ = g67 := e'; rw [← e'']; exact hb))).down (by omega)), (hb86), ⟨by omega, (hb86).lt⟩, hd76, hl38, hl39, hq82⟩
    · refine SR.alloc (l := [.int .i64 0, .int .i64 0, .slice none 0 0, .int .i64 0, .int .i64 0, .int .i64 0]) tz40 rfl ?_
      intro g92 w93 hg94 hk95 hs96 hb97
      have hz98 := hk95.size
      have hB99 := hB28.lo hk95
      have hS100 := (hk26).lo hk95
      refine SR.nil ⟨hS100, _, rfl, ?_⟩
      refine AH.br [1] (by kernel_rfl) rfl ⟨Br.mk' rfl trivial ?_, trivial⟩
      refine SR.call ent99 (c_spec_l21Own w93 x (((((((hx_Stack).lo hk4).lo hk12).lo hk20).lo hk26).lo hk95)) (by omega)) rfl ?_
      rintro e w101 ⟨A103, n104, c105, rfl, hO106, hk102⟩
      refine ⟨_, rfl, ?_⟩
      have hz107 := hk102.size
      have hB108 := hB99.lo hk102
      have hS109 := (hS100).lo hk102
      have hl110 := hO106.len
      have hl111 := hO106.rd.bound
      refine SR.nil ⟨hS109, _, rfl, ?_⟩
      refine AH.br [6] (by kernel_rfl) rfl ⟨Br.mk' rfl trivial ?_, trivial⟩
      refine SR.call ent98 (c_spec_l21Find w101 x.Stack ((((((((hx_Stack).lo hk4).lo hk12).lo hk20).lo hk26).lo hk95).lo hk102)) s.Value) rfl ?_
      rintro e w112 ⟨rfl, hk113⟩
      refine ⟨_, rfl, ?_⟩
      have hz114 := hk113.size
      have hB115 := hB108.lo hk113
      have hS116 := (hS109).lo hk113
      have hq117 : idxF (eqI s.Value) x.Stack < (x.Stack.length : Int) ∧ -1 ≤ idxF (eqI s.Value) x.Stack := idx_lt
      refine SR.nil ⟨hS116, _, rfl, ?_⟩
      refine AH.br [8] (by kernel_rfl) rfl ⟨Br.mk' rfl trivial ?_, trivial⟩
      refine SR.store (o := 0) (vs := [.int .i64 x.State, .int .i64 x.Key, .slice A103 n104 c105, .int .i64 x.Dust, .int .i64 x.Laid, .int .i64 x.Given]) agg40.2 rfl rfl rfl rfl (((hb97).lo hk102).lo hk113) (Nat.le_of_ble_eq_true rfl) rfl ?_
      intro w118 hk119 hs120 hb121
      have hz122 := hk119.size
      have hB123 := hB115.new hk119 (by omega)
      have hS124 := (hS116).new hk119 (by omega)
      refine SR.nil ⟨hS124, _, rfl, ?_⟩
      refine AH.take 9 rfl (by kernel_rfl) trivial (hS124) (fun w' hw' => r_as (v := .int .i64 _) rfl) <| AH.done (by kernel_rfl) ?_
      exact ⟨A103, n104, c105, g92, ⟨rfl, rfl, rfl, rfl, rfl, rfl, trivial⟩, hS124, ((((hO106).lo hk113).kp hk119 (fun b_ hb e' => by have e'' : b_ = g92 := e'; have := ((hO106).lo hk113).base_le hb; omega)).down (by omega)), (hb121), ⟨by omega, (hb121).lt⟩, (fun e' => by have := (((hO106).lo hk113).kp hk119 (fun b_ hb e' => by have e'' : b_ = g92 := e'; have := ((hO106).lo hk113).base_le hb; omega)).base_le e'; omega), hl110, hl111, hq117⟩
  rintro f127 w128 ⟨A31, n32, c33, g46, hat130, hR129, hm63, hm64, hg65, hd66, hl38, hl39, hq45⟩
  rw [← sets_of_at hat130]
  have hz131 := hR129.size
  have hB132 := hB24.lo hR129
  refine W.seq ?_
  refine W.seq ?_
  refine W.regJS (fun f' w' => At f' [(2, .pointer (some ((⟨g1, 0, none⟩ : Addr)))), (3, .pointer (some ((⟨g9, 0, none⟩ : Addr)))), (4, .pointer (some ((⟨g17, 0, none⟩ : Addr)))), (5, .bool false), (6, .pointer (some ((⟨g46, 0, none⟩ : Addr)))), (7, .int .i64 (idxF (eqI s.Value) x.Stack)), (25, .bool (decide ((¬ (x.State = 1)) ∨ ((!((decide (0 ≤ (idxF (eqI s.Value) x.Stack))) == (decide (s.Kind = 6)))) = true))))] ∧ Lo w128 w') ?_ ?_
  · refine SR.q' (r_fa fa40_0 rfl) <| SR.q' (r_ld (v := .int .i64 x.State) sca3 rfl (((((hb6).lo hk12).lo hk20).lo hR129).cell rfl)) <| SR.q' (r_ne rfl rfl) <| SR.q' (r_mv (v := .bool _) rfl) <| SR.splitN (fun h133 => ?_) (fun h133 => ?_)
    · refine SR.s' rfl <| SR.s' rfl <| SR.s' rfl <| SR.s' rfl <| SR.s' rfl <| SR.s' rfl <| SR.q' (r_pick true rfl (v := .bool true) rfl) <| SR.nil ?_
      exact ⟨_, rfl, ⟨⟨rfl, rfl, rfl, rfl, rfl, rfl, (eDT ((jmf h133).1 trivial)), trivial⟩, (Lo.refl _)⟩⟩
    · refine SR.g' rfl (r_mv (v := .int .i64 _) rfl) <| SR.g' rfl (r_ge rfl rfl) <| SR.g' rfl (r_fa fa48_0 rfl) <| SR.g' rfl (r_ld (v := .int .i64 s.Kind) sca3 rfl ((((hb14).lo hk20).lo hR129).cell rfl)) <| SR.g' rfl (r_eq rfl rfl) <| SR.g' rfl (r_neb und4 rfl rfl) <| SR.q' (r_pick false rfl (v := .bool _) rfl) <| SR.nil ?_
      exact ⟨_, rfl, ⟨⟨rfl, rfl, rfl, rfl, rfl, rfl, (eBD (jmt h133)), trivial⟩, (Lo.refl _)⟩⟩
  rintro f134 w135 ⟨hat136, hk137⟩
  rw [← sets_of_at hat136]
  have hz138 := hk137.size
  have hB139 := hB132.lo hk137
  refine W.cond_d rfl (fun h140 => ?_) (fun h140 => ?_)
  · refine W.seq ?_
    refine W.regS (SR.q' (r_lda (l := [.int .i64 x.State, .int .i64 x.Key, .slice A31 n32 c33, .int .i64 x.Dust, .int .i64 x.Laid, .int .i64 x.Given]) agg40 rfl (fun _ _ hu => ((hm64).lo hk137).cell hu) rfl) <| SR.store (o := 0) (vs := [.int .i64 x.State, .int .i64 x.Key, .slice A31 n32 c33, .int .i64 x.Dust, .int .i64 x.Laid, .int .i64 x.Given]) agg40.2 rfl rfl rfl rfl (((hb22).lo hR129).lo hk137) (Nat.le_of_ble_eq_true rfl) rfl ?_)
    intro w141 hk142 hs143 hb144
    have hz145 := hk142.size
    have hB146 := hB139.new hk142 (by omega)
    refine SR.q' (r_as (v := .bool false) rfl) <| SR.nil ?_
    refine W.ret ?_
    refine retCT rfl rfl agg40 (hb144) rfl (v := .bool _) rfl ?_
    exact ⟨A31, n32, c33, eR (eT2 (eA (eC (eI (by subst hl38; unfold spec_l21Move; rw [if_pos h140] <;> rfl)) (eC (eI (by subst hl38; unfold spec_l21Move; rw [if_pos h140] <;> rfl)) (eC rfl (eC (eI (by subst hl38; unfold spec_l21Move; rw [if_pos h140] <;> rfl)) (eC (eI (by subst hl38; unfold spec_l21Move; rw [if_pos h140] <;> rfl)) (eC (eI (by subst hl38; unfold spec_l21Move; rw [if_pos h140] <;> rfl)) rfl))))))) (eB (by subst hl38; unfold spec_l21Move; rw [if_pos h140] <;> rfl))), (SlO.eqv ((((hm63).lo hk137).kp hk142 (fun b_ hb e' => by have e'' : b_ = g17 := e'; have := ((hm63).lo hk137).base_le hb; omega)).down (by omega)) (by subst hl38; unfold spec_l21Move; rw [if_pos h140] <;> rfl)), hB146⟩
  · have hq147 : x.State = 1 := (Classical.not_not.1 (not_or.1 h140).1)
    have hq148 : ¬ ((!((decide (0 ≤ (idxF (eqI s.Value) x.Stack))) == (decide (s.Kind = 6)))) = true) := (not_or.1 h140).2
    have hq149 := beq_iff hq148
    refine W.skip ?_
    refine W.seq ?_
    refine W.seq ?_
    refine W.regS (SR.q' (r_fa fa48_0 rfl) <| SR.q' (r_ld (v := .int .i64 s.Kind) sca3 rfl (((((hb14).lo hk20).lo hR129).lo hk137).cell rfl)) <| SR.q' (r_eq rfl rfl) <| SR.nil ?_)
    refine W.cond_d rfl (fun h150 => ?_) (fun h150 => ?_)
    · refine W.seq ?_
      refine W.regA (Kp (fun b_ => b_ = g46) w135) (fun f' w' => ∃ (A199 : Option Addr), ∃ (n200 : Nat), ∃ (c201 : Nat), ∃ (g208 : Nat), ∃ (A218 : Option Addr), ∃ (c219 : Nat), At f' [(2, .pointer (some ((⟨g1, 0, none⟩ : Addr)))), (4, .pointer (some ((⟨g17, 0, none⟩ : Addr)))), (5, .bool false), (6, .pointer (some ((⟨g46, 0, none⟩ : Addr)))), (7, .int .i64 (idxF (eqI s.Value) x.Stack))] ∧ (Kp (fun b_ => b_ = g46) w135 w') ∧ (SlO w' w135.heap.size encI 1 3 A218 (n200 + 1) c219 (x.Stack ++ ([s.Value] : List Int))) ∧ (Blk w' g46 40 [.int .i64 x.State, .int .i64 x.Key, .slice A218 (n200 + 1) c219, .int .i64 x.Dust, .int .i64 x.Laid, .int .i64 x.Given]) ∧ (∀ b_, A218 = some ⟨b_, 0, none⟩ → ¬ A31 = some ⟨b_, 0, none⟩) ∧ (n200 = (x.Stack).length) ∧ ((n200 : Int) ≤ 9223372036854775807)) mo ?_ ?_
      · intro w193 hk194
        have hz195 := hk194.size
        have hB196 := hB139.lo hk194
        refine AH.take 0 rfl (by kernel_rfl) trivial ((Kp.refl w135 : Kp (fun b_ => b_ = g46) w135 w135).lo hk194) (fun w' hw' => r_fa fa40_2 rfl) <| AH.take 1 rfl (by kernel_rfl) trivial ((Kp.refl w135 : Kp (fun b_ => b_ = g46) w135 w135).lo hk194) (fun w' hw' => r_ld (v := .slice Ax_Stack nx_Stack cx_Stack) sca38 rfl (((((((hb6).lo hk12).lo hk20).lo hR129).lo hk137).kp hw' (fun e' => by have e'' : g1 = g46 := e'; omega)).cell rfl)) <| AH.take 3 rfl (by kernel_rfl) trivial ((Kp.refl w135 : Kp (fun b_ => b_ = g46) w135 w135).lo hk194) (fun w' hw' => r_fa fa48_1 rfl) <| AH.take 4 rfl (by kernel_rfl) trivial ((Kp.refl w135 : Kp (fun b_ => b_ = g46) w135 w135).lo hk194) (fun w' hw' => r_ld (v := .int .i64 s.Value) sca3 rfl ((((((hb14).lo hk20).lo hR129).lo hk137).kp hw' (fun e' => by have e'' : g9 = g46 := e'; omega)).cell rfl)) <| AH.br [2, 5] (by kernel_rfl) rfl ⟨Br.mk' rfl trivial ?_, Br.mk' rfl trivial ?_, trivial⟩
        · refine SR.call ent119 (c_spec_l1Own w193 x.Stack ((((((((hx_Stack).lo hk4).lo hk12).lo hk20).lo hR129).lo hk137).lo hk194)) (by omega)) rfl ?_
          rintro e w197 ⟨A199, n200, c201, rfl, hO202, hk198⟩
          refine ⟨_, rfl, ?_⟩
          have hz203 := hk198.size
          have hB204 := hB196.lo hk198
          have hS205 := ((Kp.refl w135 : Kp (fun b_ => b_ = g46) w135 w135).lo hk194).lo hk198
          have hl206 := hO202.len
          have hl207 := hO202.rd.bound
          refine SR.nil ⟨hS205, _, rfl, ?_⟩
          refine AH.br [5] (by kernel_rfl) rfl ⟨Br.mk' rfl trivial ?_, trivial⟩
          refine SR.lit (vs := [.int .i64 s.Value]) (L := ([s.Value] : List Int)) (enc := encI) tel38 (fun _ => rfl) rfl rfl rfl (by decide) ?_
          intro g208 w209 hg210 hk211 hO212
          have hz213 := hk211.size
          have hB214 := hB204.lo hk211
          have hS215 := (hS205).lo hk211
          have hd216 : ¬ A31 = some ⟨g208, 0, none⟩ := fun e' => by have := ((((hm63).lo hk137).lo hk194).lo hk198).base_le e'; omega
          have hd217 : ¬ A199 = some ⟨g208, 0, none⟩ := fun e' => by have := (hO202).base_le e'; omega
          refine SR.nil ⟨hS215, _, rfl, ?_⟩
          refine AH.br [6] (by kernel_rfl) rfl ⟨Br.mk' rfl trivial ?_, trivial⟩
          refine SR.app tel38 rfl rfl ((hO202).lo hk211) ((hO212).rd) (fun _ => rfl) (by omega) (by omega) ?_
          intro A218 c219 w220 hk221 hO222 hN223
          have hz224 := hk221.size
          have hB225 := hB214.step hk221 (fun i_ hi_ e' => by have := (((hO202).lo hk211)).base_le e'; first | omega | (exfalso; omega) | exact e' | exact .inl e' | exact .inr e')
          have hS226 := (hS215).step hk221 (fun i_ hi_ e' => by have := (((hO202).lo hk211)).base_le e'; exfalso; omega)
          have hd227 : ∀ b_, A218 = some ⟨b_, 0, none⟩ → ¬ (some (⟨g208, 0, none⟩ : Addr)) = some ⟨b_, 0, none⟩ := fun b_ e' h' => (hN223 b_ e').elim (fun h => (fun b_ h h' => hd217 (h.trans h'.symm)) b_ (h.trans e') h') (fun h => by have := (hO212).base_le h'; omega)
          refine SR.nil ⟨hS226, _, rfl, ?_⟩
          refine AH.take 7 rfl (by kernel_rfl) trivial (hS226) (fun w' hw' => r_fa fa40_2 rfl) <| AH.br [8] (by kernel_rfl) rfl ⟨Br.mk' rfl trivial ?_, trivial⟩
          refine SR.store (o := 2) (vs := [.slice A218 (n200 + 1) c219]) sca38.2 rfl rfl rfl rfl ((((((hm64).lo hk137).lo hk194).lo hk198).lo hk211).kp hk221 (fun e' => by have := (((hO202).lo hk211)).base_le e'; omega)) (Nat.le_of_ble_eq_true rfl) rfl ?_
          intro w228 hk229 hs230 hb231
          have hz232 := hk229.size
          have hB233 := hB225.new hk229 (by omega)
          have hS234 := (hS226).step hk229 (fun _ _ e => e)
          refine SR.nil ⟨hS234, _, rfl, ?_⟩
          refine AH.done (by kernel_rfl) ?_
          exact ⟨A199, n200, c201, g208, A218, c219, ⟨rfl, rfl, rfl, rfl, rfl, trivial⟩, hS234, (((hO222).kp hk229 (fun b_ hb e' => by have e'' : b_ = g46 := e'; have := (hO222).base_le hb; omega)).down (by omega)), (hb231), (fun b_ h h' => by have h1 := ((hO222).kp hk229 (fun b_ hb e' => by have e'' : b_ = g46 := e'; have := (hO222).base_le hb; omega)).base_le h; have h2 := (((hm63).lo hk137).lo hk194).base_le h'; omega), hl206, hl207⟩
        · refine SR.lit (vs := [.int .i64 s.Value]) (L := ([s.Value] : List Int)) (enc := encI) tel38 (fun _ => rfl) rfl rfl rfl (by decide) ?_
          intro g238 w239 hg240 hk241 hO242
          have hz243 := hk241.size
          have hB244 := hB196.lo hk241
          have hS245 := ((Kp.refl w135 : Kp (fun b_ => b_ = g46) w135 w135).lo hk194).lo hk241
          have hd246 : ¬ A31 = some ⟨g238, 0, none⟩ := fun e' => by have := (((hm63).lo hk137).lo hk194).base_le e'; omega
          refine SR.nil ⟨hS245, _, rfl, ?_⟩
          refine AH.br [2] (by kernel_rfl) rfl ⟨Br.mk' rfl trivial ?_, trivial⟩
          refine SR.call ent119 (c_spec_l1Own w239 x.Stack (((((((((hx_Stack).lo hk4).lo hk12).lo hk20).lo hR129).lo hk137).lo hk194).lo hk241)) (by omega)) rfl ?_
          rintro e w247 ⟨A249, n250, c251, rfl, hO252, hk248⟩
          refine ⟨_, rfl, ?_⟩
          have hz253 := hk248.size
          have hB254 := hB244.lo hk248
          have hS255 := (hS245).lo hk248
          have hl256 := hO252.len
          have hl257 := hO252.rd.bound
          refine SR.nil ⟨hS255, _, rfl, ?_⟩
          refine AH.br [6] (by kernel_rfl) rfl ⟨Br.mk' rfl trivial ?_, trivial⟩
          refine SR.app tel38 rfl rfl (hO252) (((hO242).lo hk248).rd) (fun _ => rfl) (by omega) (by omega) ?_
          intro A258 c259 w260 hk261 hO262 hN263
          have hz264 := hk261.size
          have hB265 := hB254.step hk261 (fun i_ hi_ e' => by have := ((hO252)).base_le e'; first | omega | (exfalso; omega) | exact e' | exact .inl e' | exact .inr e')
          have hS266 := (hS255).step hk261 (fun i_ hi_ e' => by have := ((hO252)).base_le e'; exfalso; omega)
          have hd267 : ∀ b_, A258 = some ⟨b_, 0, none⟩ → ¬ (some (⟨g238, 0, none⟩ : Addr)) = some ⟨b_, 0, none⟩ := fun b_ e' h' => (hN263 b_ e').elim (fun h => (fun b_ h h' => by have h1 := (hO252).base_le h; have h2 := (hO242).base_le h'; omega) b_ (h.trans e') h') (fun h => by have := ((hO242).lo hk248).base_le h'; omega)
          refine SR.nil ⟨hS266, _, rfl, ?_⟩
          refine AH.take 7 rfl (by kernel_rfl) trivial (hS266) (fun w' hw' => r_fa fa40_2 rfl) <| AH.br [8] (by kernel_rfl) rfl ⟨Br.mk' rfl trivial ?_, trivial⟩
          refine SR.store (o := 2) (vs := [.slice A258 (n250 + 1) c259]) sca38.2 rfl rfl rfl rfl ((((((hm64).lo hk137).lo hk194).lo hk241).lo hk248).kp hk261 (fun e' => by have := ((hO252)).base_le e'; omega)) (Nat.le_of_ble_eq_true rfl) rfl ?_
          intro w268 hk269 hs270 hb271
          have hz272 := hk269.size
          have hB273 := hB265.new hk269 (by omega)
          have hS274 := (hS266).step hk269 (fun _ _ e => e)
          refine SR.nil ⟨hS274, _, rfl, ?_⟩
          refine AH.done (by kernel_rfl) ?_
          exact ⟨A249, n250, c251, g238, A258, c259, ⟨rfl, rfl, rfl, rfl, rfl, trivial⟩, hS274, (((hO262).kp hk269 (fun b_ hb e' => by have e'' : b_ = g46 := e'; have := (hO262).base_le hb; omega)).down (by omega)), (hb271), (fun b_ h h' => by have h1 := ((hO262).kp hk269 (fun b_ hb e' => by have e'' : b_ = g46 := e'; have := (hO262).base_le hb; omega)).base_le h; have h2 := ((((hm63).lo hk137).lo hk194).lo hk241).base_le h'; omega), hl256, hl257⟩
      rintro f276 w277 ⟨A199, n200, c201, g208, A218, c219, hat279, hR278, hm235, hm236, hd237, hl206, hl207⟩
      rw [← sets_of_at hat279]
      have hz280 := hR278.size
      have hB281 := hB139.new hR278 (by omega)
      refine W.seq ?_
      refine W.regS (SR.q' (r_fa fa40_4 rfl) <| SR.q' (r_ld (v := .int .i64 x.Laid) sca3 rfl (((((((hb6).lo hk12).lo hk20).lo hR129).lo hk137).kp hR278 (fun e' => by have e'' : g1 = g46 := e'; omega)).cell rfl)) <| SR.q' (r_add rfl rfl (by omega)) <| SR.q' (r_fa fa40_4 rfl) <| SR.store (o := 4) (vs := [.int .i64 (x.Laid + 1)]) sca3.2 rfl rfl rfl rfl (hm236) (Nat.le_of_ble_eq_true rfl) rfl ?_)
      intro w282 hk283 hs284 hb285
      have hz286 := hk283.size
      have hB287 := hB281.new hk283 (by omega)
      refine SR.nil ?_
      refine W.seq ?_
      refine W.regS (SR.q' (r_lda (l := [.int .i64 x.State, .int .i64 x.Key, .slice A218 (n200 + 1) c219, .int .i64 x.Dust, .int .i64 (x.Laid + 1), .int .i64 x.Given]) agg40 rfl (fun _ _ hu => (hb285).cell hu) rfl) <| SR.store (o := 0) (vs := [.int .i64 x.State, .int .i64 x.Key, .slice A218 (n200 + 1) c219, .int .i64 x.Dust, .int .i64 (x.Laid + 1), .int .i64 x.Given]) agg40.2 rfl rfl rfl rfl (((((hb22).lo hR129).lo hk137).kp hR278 (fun e' => by have e'' : g17 = g46 := e'; omega)).kp hk283 (fun e' => by have e'' : g17 = g46 := e'; omega)) (Nat.le_of_ble_eq_true rfl) rfl ?_)
      intro w288 hk289 hs290 hb291
      have hz292 := hk289.size
      have hB293 := hB287.new hk289 (by omega)
      refine SR.q' (r_as (v := .bool true) rfl) <| SR.nil ?_
      refine W.ret ?_
      refine retCT rfl rfl agg40 (hb291) rfl (v := .bool _) rfl ?_
      exact ⟨A218, n200 + 1, c219, eR (eT2 (eA (eC (eI (by subst hl206; unfold spec_l21Move; rw [if_neg h140, if_pos h150] <;> rfl)) (eC (eI (by subst hl206; unfold spec_l21Move; rw [if_neg h140, if_pos h150] <;> rfl)) (eC rfl (eC (eI (by subst hl206; unfold spec_l21Move; rw [if_neg h140, if_pos h150] <;> rfl)) (eC (eI (by subst hl206; unfold spec_l21Move; rw [if_neg h140, if_pos h150] <;> rfl)) (eC (eI (by subst hl206; unfold spec_l21Move; rw [if_neg h140, if_pos h150] <;> rfl)) rfl))))))) (eB (by subst hl206; unfold spec_l21Move; rw [if_neg h140, if_pos h150] <;> rfl))), (SlO.eqv ((((hm235).kp hk283 (fun b_ hb e' => by have e'' : b_ = g46 := e'; have := (hm235).base_le hb; omega)).kp hk289 (fun b_ hb e' => by have e'' : b_ = g17 := e'; have := ((hm235).kp hk283 (fun b_ hb e' => by have e'' : b_ = g46 := e'; have := (hm235).base_le hb; omega)).base_le hb; omega)).down (by omega)) (by subst hl206; unfold spec_l21Move; rw [if_neg h140, if_pos h150] <;> rfl)), hB293⟩
    · refine W.skip ?_
      refine W.seq ?_
      refine W.regA (Kp (fun b_ => b_ = g46) w135) (fun f' w' => ∃ (A342 : Option Addr), ∃ (c343 : Nat), ∃ (A332 : Option Addr), ∃ (n333 : Nat), ∃ (c334 : Nat), At f' [(2, .pointer (some ((⟨g1, 0, none⟩ : Addr)))), (4, .pointer (some ((⟨g17, 0, none⟩ : Addr)))), (5, .bool false), (6, .pointer (some ((⟨g46, 0, none⟩ : Addr))))] ∧ (Kp (fun b_ => b_ = g46) w135 w') ∧ (SlO w' w135.heap.size encI 1 3 A342 (n333 + (nx_Stack - (((idxF (eqI s.Value) x.Stack) + 1).toNat))) c343 ((x.Stack.take ((idxF (eqI s.Value) x.Stack).toNat)) ++ (x.Stack.drop (((idxF (eqI s.Value) x.Stack) + 1).toNat)))) ∧ (Blk w' g46 40 [.int .i64 x.State, .int .i64 x.Key, .slice A342 (n333 + (nx_Stack - (((idxF (eqI s.Value) x.Stack) + 1).toNat))) c343, .int .i64 x.Dust, .int .i64 x.Laid, .int .i64 x.Given]) ∧ (∀ b_, A342 = some ⟨b_, 0, none⟩ → ¬ A31 = some ⟨b_, 0, none⟩) ∧ (n333 = (x.Stack.take ((idxF (eqI s.Value) x.Stack).toNat)).length) ∧ ((n333 : Int) ≤ 9223372036854775807) ∧ ((x.Stack.take ((idxF (eqI s.Value) x.Stack).toNat)).length ≤ x.Stack.length)) mo ?_ ?_
      · intro w326 hk327
        have hz328 := hk327.size
        have hB329 := hB139.lo hk327
        refine AH.take 0 rfl (by kernel_rfl) trivial ((Kp.refl w135 : Kp (fun b_ => b_ = g46) w135 w135).lo hk327) (fun w' hw' => r_fa fa40_2 rfl) <| AH.take 1 rfl (by kernel_rfl) trivial ((Kp.refl w135 : Kp (fun b_ => b_ = g46) w135 w135).lo hk327) (fun w' hw' => r_ld (v := .slice Ax_Stack nx_Stack cx_Stack) sca38 rfl (((((((hb6).lo hk12).lo hk20).lo hR129).lo hk137).kp hw' (fun e' => by have e'' : g1 = g46 := e'; omega)).cell rfl)) <| AH.take 2 rfl (by kernel_rfl) trivial ((Kp.refl w135 : Kp (fun b_ => b_ = g46) w135 w135).lo hk327) (fun w' hw' => r_mv (v := .int .i64 _) rfl) <| AH.take 3 rfl (by kernel_rfl) trivial ((Kp.refl w135 : Kp (fun b_ => b_ = g46) w135 w135).lo hk327) (fun w' hw' => r_cuth (h := (idxF (eqI s.Value) x.Stack).toNat) tsl38 rfl rfl (by omega) (Nat.le_trans (by omega : (idxF (eqI s.Value) x.Stack).toNat ≤ nx_Stack) ((((((hx_Stack).lo hk4).lo hk12).lo hk20).lo hR129).lo hk137).cap)) <| AH.take 5 rfl (by kernel_rfl) trivial ((Kp.refl w135 : Kp (fun b_ => b_ = g46) w135 w135).lo hk327) (fun w' hw' => r_fa fa40_2 rfl) <| AH.take 6 rfl (by kernel_rfl) trivial ((Kp.refl w135 : Kp (fun b_ => b_ = g46) w135 w135).lo hk327) (fun w' hw' => r_ld (v := .slice Ax_Stack nx_Stack cx_Stack) sca38 rfl (((((((hb6).lo hk12).lo hk20).lo hR129).lo hk137).kp hw' (fun e' => by have e'' : g1 = g46 := e'; omega)).cell rfl)) <| AH.take 7 rfl (by kernel_rfl) trivial ((Kp.refl w135 : Kp (fun b_ => b_ = g46) w135 w135).lo hk327) (fun w' hw' => r_mv (v := .int .i64 _) rfl) <| AH.take 8 rfl (by kernel_rfl) trivial ((Kp.refl w135 : Kp (fun b_ => b_ = g46) w135 w135).lo hk327) (fun w' hw' => r_add rfl rfl (by omega)) <| AH.take 9 rfl (by kernel_rfl) trivial ((Kp.refl w135 : Kp (fun b_ => b_ = g46) w135 w135).lo hk327) (fun w' hw' => r_cutl (l := ((idxF (eqI s.Value) x.Stack) + 1).toNat) tsl38 rfl rfl (by omega) (by omega)) <| AH.br [4] (by kernel_rfl) rfl ⟨Br.mk' rfl trivial ?_, trivial⟩
        refine SR.call ent119 (c_spec_l1Own w326 (x.Stack.take ((idxF (eqI s.Value) x.Stack).toNat)) (((((((((hx_Stack).lo hk4).lo hk12).lo hk20).lo hR129).lo hk137).head (h := (idxF (eqI s.Value) x.Stack).toNat) (by omega)).lo hk327)) (by omega)) rfl ?_
        rintro e w330 ⟨A332, n333, c334, rfl, hO335, hk331⟩
        refine ⟨_, rfl, ?_⟩
        have hz336 := hk331.size
        have hB337 := hB329.lo hk331
        have hS338 := ((Kp.refl w135 : Kp (fun b_ => b_ = g46) w135 w135).lo hk327).lo hk331
        have hl339 := hO335.len
        have hl340 := hO335.rd.bound
        have hq341 := tk_le x.Stack ((idxF (eqI s.Value) x.Stack).toNat)
        refine SR.nil ⟨hS338, _, rfl, ?_⟩
        refine AH.br [10] (by kernel_rfl) rfl ⟨Br.mk' rfl trivial ?_, trivial⟩
        refine SR.app tel38 rfl rfl (hO335) (((((((((hx_Stack).lo hk4).lo hk12).lo hk20).lo hR129).lo hk137).cutl (l := ((idxF (eqI s.Value) x.Stack) + 1).toNat) (by omega)).lo hk327).lo hk331) (fun _ => rfl) (by omega) (by omega) ?_
        intro A342 c343 w344 hk345 hO346 hN347
        have hz348 := hk345.size
        have hB349 := hB337.step hk345 (fun i_ hi_ e' => by have := ((hO335)).base_le e'; first | omega | (exfalso; omega) | exact e' | exact .inl e' | exact .inr e')
        have hS350 := (hS338).step hk345 (fun i_ hi_ e' => by have := ((hO335)).base_le e'; exfalso; omega)
        refine SR.nil ⟨hS350, _, rfl, ?_⟩
        refine AH.take 11 rfl (by kernel_rfl) trivial (hS350) (fun w' hw' => r_fa fa40_2 rfl) <| AH.br [12] (by kernel_rfl) rfl ⟨Br.mk' rfl trivial ?_, trivial⟩
        refine SR.store (o := 2) (vs := [.slice A342 (n333 + (nx_Stack - (((idxF (eqI s.Value) x.Stack) + 1).toNat))) c343]) sca38.2 rfl rfl rfl rfl (((((hm64).lo hk137).lo hk327).lo hk331).kp hk345 (fun e' => by have := ((hO335)).base_le e'; omega)) (Nat.le_of_ble_eq_true rfl) rfl ?_
        intro w351 hk352 hs353 hb354
        have hz355 := hk352.size
        have hB356 := hB349.new hk352 (by omega)
        have hS357 := (hS350).step hk352 (fun _ _ e => e)
        refine SR.nil ⟨hS357, _, rfl, ?_⟩
        refine AH.done (by kernel_rfl) ?_
        exact ⟨A342, c343, A332, n333, c334, ⟨rfl, rfl, rfl, rfl, trivial⟩, hS357, (((hO346).kp hk352 (fun b_ hb e' => by have e'' : b_ = g46 := e'; have := (hO346).base_le hb; omega)).down (by omega)), (hb354), (fun b_ h h' => by have h1 := ((hO346).kp hk352 (fun b_ hb e' => by have e'' : b_ = g46 := e'; have := (hO346).base_le hb; omega)).base_le h; have h2 := (((hm63).lo hk137).lo hk327).base_le h'; omega), hl339, hl340, hq341⟩
      rintro f361 w362 ⟨A342, c343, A332, n333, c334, hat364, hR363, hm358, hm359, hd360, hl339, hl340, hq341⟩
      rw [← sets_of_at hat364]
      have hz365 := hR363.size
      have hB366 := hB139.new hR363 (by omega)
      refine W.seq ?_
      refine W.regS (SR.q' (r_fa fa40_5 rfl) <| SR.q' (r_ld (v := .int .i64 x.Given) sca3 rfl (((((((hb6).lo hk12).lo hk20).lo hR129).lo hk137).kp hR363 (fun e' => by have e'' : g1 = g46 := e'; omega)).cell rfl)) <| SR.q' (r_add rfl rfl (by omega)) <| SR.q' (r_fa fa40_5 rfl) <| SR.store (o := 5) (vs := [.int .i64 (x.Given + 1)]) sca3.2 rfl rfl rfl rfl (hm359) (Nat.le_of_ble_eq_true rfl) rfl ?_)
      intro w367 hk368 hs369 hb370
      have hz371 := hk368.size
      have hB372 := hB366.new hk368 (by omega)
      refine SR.nil ?_
      refine W.seq ?_
      refine W.regS (SR.q' (r_lda (l := [.int .i64 x.State, .int .i64 x.Key, .slice A342 (n333 + (nx_Stack - (((idxF (eqI s.Value) x.Stack) + 1).toNat))) c343, .int .i64 x.Dust, .int .i64 x.Laid, .int .i64 (x.Given + 1)]) agg40 rfl (fun _ _ hu => (hb370).cell hu) rfl) <| SR.store (o := 0) (vs := [.int .i64 x.State, .int .i64 x.Key, .slice A342 (n333 + (nx_Stack - (((idxF (eqI s.Value) x.Stack) + 1).toNat))) c343, .int .i64 x.Dust, .int .i64 x.Laid, .int .i64 (x.Given + 1)]) agg40.2 rfl rfl rfl rfl (((((hb22).lo hR129).lo hk137).kp hR363 (fun e' => by have e'' : g17 = g46 := e'; omega)).kp hk368 (fun e' => by have e'' : g17 = g46 := e'; omega)) (Nat.le_of_ble_eq_true rfl) rfl ?_)
      intro w373 hk374 hs375 hb376
      have hz377 := hk374.size
      have hB378 := hB372.new hk374 (by omega)
      refine SR.q' (r_as (v := .bool true) rfl) <| SR.nil ?_
      refine W.ret ?_
      refine retCT rfl rfl agg40 (hb376) rfl (v := .bool _) rfl ?_
      exact ⟨A342, n333 + (nx_Stack - (((idxF (eqI s.Value) x.Stack) + 1).toNat)), c343, eR (eT2 (eA (eC (eI (by subst hlex_Stack hl339; unfold spec_l21Move; rw [if_neg h140, if_neg h150] <;> rfl)) (eC (eI (by subst hlex_Stack hl339; unfold spec_l21Move; rw [if_neg h140, if_neg h150] <;> rfl)) (eC rfl (eC (eI (by subst hlex_Stack hl339; unfold spec_l21Move; rw [if_neg h140, if_neg h150] <;> rfl)) (eC (eI (by subst hlex_Stack hl339; unfold spec_l21Move; rw [if_neg h140, if_neg h150] <;> rfl)) (eC (eI (by subst hlex_Stack hl339; unfold spec_l21Move; rw [if_neg h140, if_neg h150] <;> rfl)) rfl))))))) (eB (by subst hlex_Stack hl339; unfold spec_l21Move; rw [if_neg h140, if_neg h150] <;> rfl))), (SlO.eqv ((((hm358).kp hk368 (fun b_ hb e' => by have e'' : b_ = g46 := e'; have := (hm358).base_le hb; omega)).kp hk374 (fun b_ hb e' => by have e'' : b_ = g17 := e'; have := ((hm358).kp hk368 (fun b_ hb e' => by have e'' : b_ = g46 := e'; have := (hm358).base_le hb; omega)).base_le hb; omega)).down (by omega)) (by subst hlex_Stack hl339; unfold spec_l21Move; rw [if_neg h140, if_neg h150] <;> rfl)), hB378⟩
end Go.Proofs.YtlpapeeaghmjpaaDoor
