/- Walks, printed by a program of this claim's author. -/
import Derived.Test.YtlpapeeaghmjpaaDoorChecked
import Derived.Test.YtlpapeeaghmjpaaDoorSa
import Derived.Test.YtlpapeeaghmjpaaDoorFu
import Derived.Test.YtlpapeeaghmjpaaDoorFs
import Derived.Test.YtlpapeeaghmjpaaDoorFq
import Derived.Test.YtlpapeeaghmjpaaDoorFo
import Derived.Test.YtlpapeeaghmjpaaDoorSb
import Derived.Test.YtlpapeeaghmjpaaDoorG29b
namespace Go.Proofs.YtlpapeeaghmjpaaDoor
open Go Go.RowKit Fw
set_option maxRecDepth 10000
set_option linter.unusedVariables false
theorem ent120 : Ent Tryd.prog 120 := ent_of Tryd.func120 (by decide +kernel) rfl
theorem ent121 : Ent Tryd.prog 121 := ent_of Tryd.func121 (by decide +kernel) rfl
theorem ent56 : Ent Tryd.prog 56 := ent_of Tryd.func56 (by decide +kernel) rfl
theorem ent62 : Ent Tryd.prog 62 := ent_of Tryd.func62 (by decide +kernel) rfl

open Classical in
noncomputable def impl_Chest_after (x : Chest) (s : ChestStep) : Chest :=
  if s.Kind = 1 then (⟨1, x.Key, x.Stack, x.Dust, x.Laid, x.Given⟩ : Chest) else if s.Kind = 2 then (⟨0, x.Key, x.Stack, x.Dust, x.Laid, x.Given⟩ : Chest) else if s.Kind = 3 then (⟨2, s.Value, x.Stack, x.Dust, x.Laid, x.Given⟩ : Chest) else if s.Kind = 4 then (⟨0, 0, x.Stack, x.Dust, x.Laid, x.Given⟩ : Chest) else if s.Kind = 5 then (⟨x.State, x.Key, x.Stack ++ ([s.Value] : List Int), x.Dust, x.Laid + 1, x.Given⟩ : Chest) else if s.Kind = 6 then (⟨x.State, x.Key, keep (fun u_ : Int => eqI s.Value u_) x.Stack, x.Dust, x.Laid, x.Given + 1⟩ : Chest) else if s.Value = 0 then (⟨x.State, x.Key, x.Stack, 0, x.Laid, x.Given⟩ : Chest) else (⟨x.State, x.Key, x.Stack, (impl_Chest_dusted x s.Value), x.Laid, x.Given⟩ : Chest)
theorem c__impl_Chest__after (w : World) (x : Chest) {Ax_Stack : Option Addr} {nx_Stack cx_Stack Bx_Stack : Nat} (hx_Stack : SlR w Bx_Stack encI 1 Ax_Stack nx_Stack cx_Stack x.Stack) (s : ChestStep) (hp0 : ChestOK x) (hp1 : 0 ≤ s.Value ∧ s.Value ≤ 9999) : Calls Tryd.prog 103 #[.agg (List.toArray [.int .i64 x.State, .int .i64 x.Key, .slice Ax_Stack nx_Stack cx_Stack, .int .i64 x.Dust, .int .i64 x.Laid, .int .i64 x.Given]), .agg (List.toArray (encChestStep s))] w fun e w' => ∃ (A1' : Option Addr) (n1' c1' : Nat), e = .returned (.agg (List.toArray [.int .i64 ((impl_Chest_after x s).State), .int .i64 ((impl_Chest_after x s).Key), .slice A1' n1' c1', .int .i64 ((impl_Chest_after x s).Dust), .int .i64 ((impl_Chest_after x s).Laid), .int .i64 ((impl_Chest_after x s).Given)])) ∧ SlO w' w.heap.size encI 1 3 A1' n1' c1' ((impl_Chest_after x s).Stack) ∧ Lo w w' := by
  refine calls_W 59 Tryd.func103 rfl rfl rfl ?_
  have hbdx_Stack := hx_Stack.bound
  have hlex_Stack := hx_Stack.len
  have hBbx_Stack := hx_Stack.bd
  have hbdx_Stack := hx_Stack.bound
  have hlex_Stack := hx_Stack.len
  have hBbx_Stack := hx_Stack.bd
  have hrg := chest_rng hp0
  refine W.seq ?_
  refine W.regS (SR.box (v := .agg (List.toArray _)) (l := [.int .i64 x.State, .int .i64 x.Key, .slice Ax_Stack nx_Stack cx_Stack, .int .i64 x.Dust, .int .i64 x.Laid, .int .i64 x.Given]) rfl rfl ?_)
  intro g1 w2 hg3 hk4 hs5 hb6
  have hz7 := hk4.size
  have hB8 := (Lo.refl w).lo hk4
  refine SR.box (v := .agg (List.toArray _)) (l := [.int .i64 s.Kind, .int .i64 s.Value]) rfl rfl ?_
  intro g9 w10 hg11 hk12 hs13 hb14
  have hz15 := hk12.size
  have hB16 := hB8.lo hk12
  refine SR.alloc (l := [.int .i64 0, .int .i64 0, .slice none 0 0, .int .i64 0, .int .i64 0, .int .i64 0]) tz40 rfl ?_
  intro g17 w18 hg19 hk20 hs21 hb22
  have hz23 := hk20.size
  have hB24 := hB16.lo hk20
  refine SR.nil ?_
  refine W.seq ?_
  refine W.regS (SR.q' (r_lda (l := [.int .i64 x.State, .int .i64 x.Key, .slice Ax_Stack nx_Stack cx_Stack, .int .i64 x.Dust, .int .i64 x.Laid, .int .i64 x.Given]) agg40 rfl (fun _ _ hu => (((hb6).lo hk12).lo hk20).cell hu) rfl) <| SR.call ent62 (c__impl_Chest__own w18 x (((((hx_Stack).lo hk4).lo hk12).lo hk20)) (by omega)) rfl ?_)
  rintro e w25 ⟨A27, n28, c29, rfl, hO30, hk26⟩
  refine ⟨_, rfl, ?_⟩
  have hz31 := hk26.size
  have hB32 := hB24.lo hk26
  have hl33 := hO30.len
  have hl34 := hO30.rd.bound
  refine SR.store (o := 0) (vs := [.int .i64 x.State, .int .i64 x.Key, .slice A27 n28 c29, .int .i64 x.Dust, .int .i64 x.Laid, .int .i64 x.Given]) agg40.2 rfl rfl rfl rfl ((((hb6).lo hk12).lo hk20).lo hk26) (Nat.le_of_ble_eq_true rfl) rfl ?_
  intro w35 hk36 hs37 hb38
  have hz39 := hk36.size
  have hB40 := hB32.new hk36 (by omega)
  refine SR.nil ?_
  refine W.seq ?_
  refine W.seq ?_
  refine W.regS (SR.q' (r_fa fa48_0 rfl) <| SR.q' (r_ld (v := .int .i64 s.Kind) sca3 rfl (((((hb14).lo hk20).lo hk26).kp hk36 (fun e' => by have e'' : g9 = g1 := e'; omega)).cell rfl)) <| SR.nil ?_)
  refine W.block ?_
  refine W.seq ?_
  refine W.regS (SR.q' (r_eq rfl rfl) <| SR.q' (r_as (v := .bool _) rfl) <| SR.nil ?_)
  refine W.cond_d rfl (fun h41 => ?_) (fun h41 => ?_)
  · refine W.regS (SR.q' (r_fa fa40_0 rfl) <| SR.store (o := 0) (vs := [.int .i64 1]) sca3.2 rfl rfl rfl rfl (hb38) (Nat.le_of_ble_eq_true rfl) rfl ?_)
    intro w42 hk43 hs44 hb45
    have hz46 := hk43.size
    have hB47 := hB40.new hk43 (by omega)
    refine SR.nil ?_
    refine W.seq ?_
    refine W.regS (SR.q' (r_lda (l := [.int .i64 1, .int .i64 x.Key, .slice A27 n28 c29, .int .i64 x.Dust, .int .i64 x.Laid, .int .i64 x.Given]) agg40 rfl (fun _ _ hu => (hb45).cell hu) rfl) <| SR.store (o := 0) (vs := [.int .i64 1, .int .i64 x.Key, .slice A27 n28 c29, .int .i64 x.Dust, .int .i64 x.Laid, .int .i64 x.Given]) agg40.2 rfl rfl rfl rfl ((((hb22).lo hk26).kp hk36 (fun e' => by have e'' : g17 = g1 := e'; omega)).kp hk43 (fun e' => by have e'' : g17 = g1 := e'; omega)) (Nat.le_of_ble_eq_true rfl) rfl ?_)
    intro w48 hk49 hs50 hb51
    have hz52 := hk49.size
    have hB53 := hB47.new hk49 (by omega)
    refine SR.nil ?_
    refine W.ret ?_
    refine retC rfl rfl agg40 (hb51) rfl ?_
    exact ⟨A27, n28, c29, eR (eA (eC (eI (by subst hl33; unfold impl_Chest_after; rw [if_pos h41] <;> rfl)) (eC (eI (by subst hl33; unfold impl_Chest_after; rw [if_pos h41] <;> rfl)) (eC rfl (eC (eI (by subst hl33; unfold impl_Chest_after; rw [if_pos h41] <;> rfl)) (eC (eI (by subst hl33; unfold impl_Chest_after; rw [if_pos h41] <;> rfl)) (eC (eI (by subst hl33; unfold impl_Chest_after; rw [if_pos h41] <;> rfl)) rfl))))))), (SlO.eqv (((((hO30).kp hk36 (fun b_ hb e' => by have e'' : b_ = g1 := e'; have := (hO30).base_le hb; omega)).kp hk43 (fun b_ hb e' => by have e'' : b_ = g1 := e'; have := ((hO30).kp hk36 (fun b_ hb e' => by have e'' : b_ = g1 := e'; have := (hO30).base_le hb; omega)).base_le hb; omega)).kp hk49 (fun b_ hb e' => by have e'' : b_ = g17 := e'; have := (((hO30).kp hk36 (fun b_ hb e' => by have e'' : b_ = g1 := e'; have := (hO30).base_le hb; omega)).kp hk43 (fun b_ hb e' => by have e'' : b_ = g1 := e'; have := ((hO30).kp hk36 (fun b_ hb e' => by have e'' : b_ = g1 := e'; have := (hO30).base_le hb; omega)).base_le hb; omega)).base_le hb; omega)).down (by omega)) (by subst hl33; unfold impl_Chest_after; rw [if_pos h41] <;> rfl)), hB53⟩
  · refine W.seq ?_
    refine W.regS (SR.q' (r_eq rfl rfl) <| SR.q' (r_as (v := .bool _) rfl) <| SR.nil ?_)
    refine W.cond_d rfl (fun h54 => ?_) (fun h54 => ?_)
    · refine W.regS (SR.q' (r_fa fa40_0 rfl) <| SR.store (o := 0) (vs := [.int .i64 0]) sca3.2 rfl rfl rfl rfl (hb38) (Nat.le_of_ble_eq_true rfl) rfl ?_)
      intro w55 hk56 hs57 hb58
      have hz59 := hk56.size
      have hB60 := hB40.new hk56 (by omega)
      refine SR.nil ?_
      refine W.seq ?_
      refine W.regS (SR.q' (r_lda (l := [.int .i64 0, .int .i64 x.Key, .slice A27 n28 c29, .int .i64 x.Dust, .int .i64 x.Laid, .int .i64 x.Given]) agg40 rfl (fun _ _ hu => (hb58).cell hu) rfl) <| SR.store (o := 0) (vs := [.int .i64 0, .int .i64 x.Key, .slice A27 n28 c29, .int .i64 x.Dust, .int .i64 x.Laid, .int .i64 x.Given]) agg40.2 rfl rfl rfl rfl ((((hb22).lo hk26).kp hk36 (fun e' => by have e'' : g17 = g1 := e'; omega)).kp hk56 (fun e' => by have e'' : g17 = g1 := e'; omega)) (Nat.le_of_ble_eq_true rfl) rfl ?_)
      intro w61 hk62 hs63 hb64
      have hz65 := hk62.size
      have hB66 := hB60.new hk62 (by omega)
      refine SR.nil ?_
      refine W.ret ?_
      refine retC rfl rfl agg40 (hb64) rfl ?_
      exact ⟨A27, n28, c29, eR (eA (eC (eI (by subst hl33; unfold impl_Chest_after; rw [if_neg h41, if_pos h54] <;> rfl)) (eC (eI (by subst hl33; unfold impl_Chest_after; rw [if_neg h41, if_pos h54] <;> rfl)) (eC rfl (eC (eI (by subst hl33; unfold impl_Chest_after; rw [if_neg h41, if_pos h54] <;> rfl)) (eC (eI (by subst hl33; unfold impl_Chest_after; rw [if_neg h41, if_pos h54] <;> rfl)) (eC (eI (by subst hl33; unfold impl_Chest_after; rw [if_neg h41, if_pos h54] <;> rfl)) rfl))))))), (SlO.eqv (((((hO30).kp hk36 (fun b_ hb e' => by have e'' : b_ = g1 := e'; have := (hO30).base_le hb; omega)).kp hk56 (fun b_ hb e' => by have e'' : b_ = g1 := e'; have := ((hO30).kp hk36 (fun b_ hb e' => by have e'' : b_ = g1 := e'; have := (hO30).base_le hb; omega)).base_le hb; omega)).kp hk62 (fun b_ hb e' => by have e'' : b_ = g17 := e'; have := (((hO30).kp hk36 (fun b_ hb e' => by have e'' : b_ = g1 := e'; have := (hO30).base_le hb; omega)).kp hk56 (fun b_ hb e' => by have e'' : b_ = g1 := e'; have := ((hO30).kp hk36 (fun b_ hb e' => by have e'' : b_ = g1 := e'; have := (hO30).base_le hb; omega)).base_le hb; omega)).base_le hb; omega)).down (by omega)) (by subst hl33; unfold impl_Chest_after; rw [if_neg h41, if_pos h54] <;> rfl)), hB66⟩
    · refine W.seq ?_
      refine W.regS (SR.q' (r_eq rfl rfl) <| SR.q' (r_as (v := .bool _) rfl) <| SR.nil ?_)
      refine W.cond_d rfl (fun h67 => ?_) (fun h67 => ?_)
      · refine W.regA (Kp (fun b_ => b_ = g1) w35) (fun f' w' => At f' [(2, .pointer (some ((⟨g1, 0, none⟩ : Addr)))), (4, .pointer (some ((⟨g17, 0, none⟩ : Addr))))] ∧ (Kp (fun b_ => b_ = g1) w35 w') ∧ (Blk w' g1 40 [.int .i64 2, .int .i64 s.Value, .slice A27 n28 c29, .int .i64 x.Dust, .int .i64 x.Laid, .int .i64 x.Given])) mo ?_ ?_
        · intro w79 hk80
          have hz81 := hk80.size
          have hB82 := hB40.lo hk80
          refine AH.take 0 rfl (by kernel_rfl) trivial ((Kp.refl w35 : Kp (fun b_ => b_ = g1) w35 w35).lo hk80) (fun w' hw' => r_fa fa48_1 rfl) <| AH.take 1 rfl (by kernel_rfl) trivial ((Kp.refl w35 : Kp (fun b_ => b_ = g1) w35 w35).lo hk80) (fun w' hw' => r_ld (v := .int .i64 s.Value) sca3 rfl ((((((hb14).lo hk20).lo hk26).kp hk36 (fun e' => by have e'' : g9 = g1 := e'; omega)).kp hw' (fun e' => by have e'' : g9 = g1 := e'; omega)).cell rfl)) <| AH.take 2 rfl (by kernel_rfl) trivial ((Kp.refl w35 : Kp (fun b_ => b_ = g1) w35 w35).lo hk80) (fun w' hw' => r_fa fa40_0 rfl) <| AH.br [3] (by kernel_rfl) rfl ⟨Br.mk' rfl trivial ?_, trivial⟩
          refine SR.store (o := 0) (vs := [.int .i64 2]) sca3.2 rfl rfl rfl rfl ((hb38).lo hk80) (Nat.le_of_ble_eq_true rfl) rfl ?_
          intro w83 hk84 hs85 hb86
          have hz87 := hk84.size
          have hB88 := hB82.new hk84 (by omega)
          have hS89 := ((Kp.refl w35 : Kp (fun b_ => b_ = g1) w35 w35).lo hk80).step hk84 (fun _ _ e => e)
          refine SR.nil ⟨hS89, _, rfl, ?_⟩
          refine AH.take 4 rfl (by kernel_rfl) trivial (hS89) (fun w' hw' => r_fa fa40_1 rfl) <| AH.br [5] (by kernel_rfl) rfl ⟨Br.mk' rfl trivial ?_, trivial⟩
          refine SR.store (o := 1) (vs := [.int .i64 s.Value]) sca3.2 rfl rfl rfl rfl (hb86) (Nat.le_of_ble_eq_true rfl) rfl ?_
          intro w90 hk91 hs92 hb93
          have hz94 := hk91.size
          have hB95 := hB88.new hk91 (by omega)
          have hS96 := (hS89).step hk91 (fun _ _ e => e)
          refine SR.nil ⟨hS96, _, rfl, ?_⟩
          refine AH.done (by kernel_rfl) ?_
          exact ⟨⟨rfl, rfl, trivial⟩, hS96, (hb93)⟩
        rintro f98 w99 ⟨hat101, hR100, hm97⟩
        rw [← sets_of_at hat101]
        have hz102 := hR100.size
        have hB103 := hB40.new hR100 (by omega)
        refine W.seq ?_
        refine W.regS (SR.q' (r_lda (l := [.int .i64 2, .int .i64 s.Value, .slice A27 n28 c29, .int .i64 x.Dust, .int .i64 x.Laid, .int .i64 x.Given]) agg40 rfl (fun _ _ hu => (hm97).cell hu) rfl) <| SR.store (o := 0) (vs := [.int .i64 2, .int .i64 s.Value, .slice A27 n28 c29, .int .i64 x.Dust, .int .i64 x.Laid, .int .i64 x.Given]) agg40.2 rfl rfl rfl rfl ((((hb22).lo hk26).kp hk36 (fun e' => by have e'' : g17 = g1 := e'; omega)).kp hR100 (fun e' => by have e'' : g17 = g1 := e'; omega)) (Nat.le_of_ble_eq_true rfl) rfl ?_)
        intro w104 hk105 hs106 hb107
        have hz108 := hk105.size
        have hB109 := hB103.new hk105 (by omega)
        refine SR.nil ?_
        refine W.ret ?_
        refine retC rfl rfl agg40 (hb107) rfl ?_
        exact ⟨A27, n28, c29, eR (eA (eC (eI (by subst hl33; unfold impl_Chest_after; rw [if_neg h41, if_neg h54, if_pos h67] <;> rfl)) (eC (eI (by subst hl33; unfold impl_Chest_after; rw [if_neg h41, if_neg h54, if_pos h67] <;> rfl)) (eC rfl (eC (eI (by subst hl33; unfold impl_Chest_after; rw [if_neg h41, if_neg h54, if_pos h67] <;> rfl)) (eC (eI (by subst hl33; unfold impl_Chest_after; rw [if_neg h41, if_neg h54, if_pos h67] <;> rfl)) (eC (eI (by subst hl33; unfold impl_Chest_after; rw [if_neg h41, if_neg h54, if_pos h67] <;> rfl)) rfl))))))), (SlO.eqv (((((hO30).kp hk36 (fun b_ hb e' => by have e'' : b_ = g1 := e'; have := (hO30).base_le hb; omega)).kp hR100 (fun b_ hb e' => by have e'' : b_ = g1 := e'; have := ((hO30).kp hk36 (fun b_ hb e' => by have e'' : b_ = g1 := e'; have := (hO30).base_le hb; omega)).base_le hb; omega)).kp hk105 (fun b_ hb e' => by have e'' : b_ = g17 := e'; have := (((hO30).kp hk36 (fun b_ hb e' => by have e'' : b_ = g1 := e'; have := (hO30).base_le hb; omega)).kp hR100 (fun b_ hb e' => by have e'' : b_ = g1 := e'; have := ((hO30).kp hk36 (fun b_ hb e' => by have e'' : b_ = g1 := e'; have := (hO30).base_le hb; omega)).base_le hb; omega)).base_le hb; omega)).down (by omega)) (by subst hl33; unfold impl_Chest_after; rw [if_neg h41, if_neg h54, if_pos h67] <;> rfl)), hB109⟩
      · refine W.seq ?_
        refine W.regS (SR.q' (r_eq rfl rfl) <| SR.q' (r_as (v := .bool _) rfl) <| SR.nil ?_)
        refine W.cond_d rfl (fun h110 => ?_) (fun h110 => ?_)
        · refine W.regS (SR.q' (r_fa fa40_0 rfl) <| SR.store (o := 0) (vs := [.int .i64 0]) sca3.2 rfl rfl rfl rfl (hb38) (Nat.le_of_ble_eq_true rfl) rfl ?_)
          intro w111 hk112 hs113 hb114
          have hz115 := hk112.size
          have hB116 := hB40.new hk112 (by omega)
          refine SR.q' (r_fa fa40_1 rfl) <| SR.store (o := 1) (vs := [.int .i64 0]) sca3.2 rfl rfl rfl rfl (hb114) (Nat.le_of_ble_eq_true rfl) rfl ?_
          intro w117 hk118 hs119 hb120
          have hz121 := hk118.size
          have hB122 := hB116.new hk118 (by omega)
          refine SR.nil ?_
          refine W.seq ?_
          refine W.regS (SR.q' (r_lda (l := [.int .i64 0, .int .i64 0, .slice A27 n28 c29, .int .i64 x.Dust, .int .i64 x.Laid, .int .i64 x.Given]) agg40 rfl (fun _ _ hu => (hb120).cell hu) rfl) <| SR.store (o := 0) (vs := [.int .i64 0, .int .i64 0, .slice A27 n28 c29, .int .i64 x.Dust, .int .i64 x.Laid, .int .i64 x.Given]) agg40.2 rfl rfl rfl rfl (((((hb22).lo hk26).kp hk36 (fun e' => by have e'' : g17 = g1 := e'; omega)).kp hk112 (fun e' => by have e'' : g17 = g1 := e'; omega)).kp hk118 (fun e' => by have e'' : g17 = g1 := e'; omega)) (Nat.le_of_ble_eq_true rfl) rfl ?_)
          intro w123 hk124 hs125 hb126
          have hz127 := hk124.size
          have hB128 := hB122.new hk124 (by omega)
          refine SR.nil ?_
          refine W.ret ?_
          refine retC rfl rfl agg40 (hb126) rfl ?_
          exact ⟨A27, n28, c29, eR (eA (eC (eI (by subst hl33; unfold impl_Chest_after; rw [if_neg h41, if_neg h54, if_neg h67, if_pos h110] <;> rfl)) (eC (eI (by subst hl33; unfold impl_Chest_after; rw [if_neg h41, if_neg h54, if_neg h67, if_pos h110] <;> rfl)) (eC rfl (eC (eI (by subst hl33; unfold impl_Chest_after; rw [if_neg h41, if_neg h54, if_neg h67, if_pos h110] <;> rfl)) (eC (eI (by subst hl33; unfold impl_Chest_after; rw [if_neg h41, if_neg h54, if_neg h67, if_pos h110] <;> rfl)) (eC (eI (by subst hl33; unfold impl_Chest_after; rw [if_neg h41, if_neg h54, if_neg h67, if_pos h110] <;> rfl)) rfl))))))), (SlO.eqv ((((((hO30).kp hk36 (fun b_ hb e' => by have e'' : b_ = g1 := e'; have := (hO30).base_le hb; omega)).kp hk112 (fun b_ hb e' => by have e'' : b_ = g1 := e'; have := ((hO30).kp hk36 (fun b_ hb e' => by have e'' : b_ = g1 := e'; have := (hO30).base_le hb; omega)).base_le hb; omega)).kp hk118 (fun b_ hb e' => by have e'' : b_ = g1 := e'; have := (((hO30).kp hk36 (fun b_ hb e' => by have e'' : b_ = g1 := e'; have := (hO30).base_le hb; omega)).kp hk112 (fun b_ hb e' => by have e'' : b_ = g1 := e'; have := ((hO30).kp hk36 (fun b_ hb e' => by have e'' : b_ = g1 := e'; have := (hO30).base_le hb; omega)).base_le hb; omega)).base_le hb; omega)).kp hk124 (fun b_ hb e' => by have e'' : b_ = g17 := e'; have := ((((hO30).kp hk36 (fun b_ hb e' => by have e'' : b_ = g1 := e'; have := (hO30).base_le hb; omega)).kp hk112 (fun b_ hb e' => by have e'' : b_ = g1 := e'; have := ((hO30).kp hk36 (fun b_ hb e' => by have e'' : b_ = g1 := e'; have := (hO30).base_le hb; omega)).base_le hb; omega)).kp hk118 (fun b_ hb e' => by have e'' : b_ = g1 := e'; have := (((hO30).kp hk36 (fun b_ hb e' => by have e'' : b_ = g1 := e'; have := (hO30).base_le hb; omega)).kp hk112 (fun b_ hb e' => by have e'' : b_ = g1 := e'; have := ((hO30).kp hk36 (fun b_ hb e' => by have e'' : b_ = g1 := e'; have := (hO30).base_le hb; omega)).base_le hb; omega)).base_le hb; omega)).base_le hb; omega)).down (by omega)) (by subst hl33; unfold impl_Chest_after; rw [if_neg h41, if_neg h54, if_neg h67, if_pos h110] <;> rfl)), hB128⟩
        · refine W.seq ?_
          refine W.regS (SR.q' (r_eq rfl rfl) <| SR.q' (r_as (v := .bool _) rfl) <| SR.nil ?_)
          refine W.cond_d rfl (fun h129 => ?_) (fun h129 => ?_)
          · refine W.seq ?_
            refine W.regS (SR.q' (r_fa fa40_2 rfl) <| SR.q' (r_ld (v := .slice A27 n28 c29) sca38 rfl ((hb38).cell rfl)) <| SR.q' (r_fa fa48_1 rfl) <| SR.q' (r_ld (v := .int .i64 s.Value) sca3 rfl (((((hb14).lo hk20).lo hk26).kp hk36 (fun e' => by have e'' : g9 = g1 := e'; omega)).cell rfl)) <| SR.lit (vs := [.int .i64 s.Value]) (L := ([s.Value] : List Int)) (enc := encI) tel38 (fun _ => rfl) rfl rfl rfl (by decide) ?_)
            intro g130 w131 hg132 hk133 hO134
            have hz135 := hk133.size
            have hB136 := hB40.lo hk133
            have hd137 : ¬ A27 = some ⟨g130, 0, none⟩ := fun e' => by have := ((hO30).kp hk36 (fun b_ hb e' => by have e'' : b_ = g1 := e'; have := (hO30).base_le hb; omega)).base_le e'; omega
            refine SR.app tel38 rfl rfl (((hO30).kp hk36 (fun b_ hb e' => by have e'' : b_ = g1 := e'; have := (hO30).base_le hb; omega)).lo hk133) ((hO134).rd) (fun _ => rfl) (by omega) (by omega) ?_
            intro A138 c139 w140 hk141 hO142 hN143
            have hz144 := hk141.size
            have hB145 := hB136.step hk141 (fun i_ hi_ e' => by have := ((((hO30).kp hk36 (fun b_ hb e' => by have e'' : b_ = g1 := e'; have := (hO30).base_le hb; omega)).lo hk133)).base_le e'; first | omega | (exfalso; omega) | exact e' | exact .inl e' | exact .inr e')
            refine SR.q' (r_fa fa40_2 rfl) <| SR.store (o := 2) (vs := [.slice A138 (n28 + 1) c139]) sca38.2 rfl rfl rfl rfl (((hb38).lo hk133).kp hk141 (fun e' => by have := ((((hO30).kp hk36 (fun b_ hb e' => by have e'' : b_ = g1 := e'; have := (hO30).base_le hb; omega)).lo hk133)).base_le e'; omega)) (Nat.le_of_ble_eq_true rfl) rfl ?_
            intro w146 hk147 hs148 hb149
            have hz150 := hk147.size
            have hB151 := hB145.new hk147 (by omega)
            refine SR.nil ?_
            refine W.regS (SR.q' (r_fa fa40_4 rfl) <| SR.q' (r_ld (v := .int .i64 x.Laid) sca3 rfl ((hb149).cell rfl)) <| SR.q' (r_add rfl rfl (by omega)) <| SR.q' (r_fa fa40_4 rfl) <| SR.store (o := 4) (vs := [.int .i64 (x.Laid + 1)]) sca3.2 rfl rfl rfl rfl (hb149) (Nat.le_of_ble_eq_true rfl) rfl ?_)
            intro w152 hk153 hs154 hb155
            have hz156 := hk153.size
            have hB157 := hB151.new hk153 (by omega)
            refine SR.nil ?_
            refine W.seq ?_
            refine W.regS (SR.q' (r_lda (l := [.int .i64 x.State, .int .i64 x.Key, .slice A138 (n28 + 1) c139, .int .i64 x.Dust, .int .i64 (x.Laid + 1), .int .i64 x.Given]) agg40 rfl (fun _ _ hu => (hb155).cell hu) rfl) <| SR.store (o := 0) (vs := [.int .i64 x.State, .int .i64 x.Key, .slice A138 (n28 + 1) c139, .int .i64 x.Dust, .int .i64 (x.Laid + 1), .int .i64 x.Given]) agg40.2 rfl rfl rfl rfl (((((((hb22).lo hk26).kp hk36 (fun e' => by have e'' : g17 = g1 := e'; omega)).lo hk133).kp hk141 (fun e' => by have := ((((hO30).kp hk36 (fun b_ hb e' => by have e'' : b_ = g1 := e'; have := (hO30).base_le hb; omega)).lo hk133)).base_le e'; omega)).kp hk147 (fun e' => by have e'' : g17 = g1 := e'; omega)).kp hk153 (fun e' => by have e'' : g17 = g1 := e'; omega)) (Nat.le_of_ble_eq_true rfl) rfl ?_)
            intro w158 hk159 hs160 hb161
            have hz162 := hk159.size
            have hB163 := hB157.new hk159 (by omega)
            refine SR.nil ?_
            refine W.ret ?_
            refine retC rfl rfl agg40 (hb161) rfl ?_
            exact ⟨A138, n28 + 1, c139, eR (eA (eC (eI (by subst hl33; unfold impl_Chest_after; rw [if_neg h41, if_neg h54, if_neg h67, if_neg h110, if_pos h129] <;> rfl)) (eC (eI (by subst hl33; unfold impl_Chest_after; rw [if_neg h41, if_neg h54, if_neg h67, if_neg h110, if_pos h129] <;> rfl)) (eC rfl (eC (eI (by subst hl33; unfold impl_Chest_after; rw [if_neg h41, if_neg h54, if_neg h67, if_neg h110, if_pos h129] <;> rfl)) (eC (eI (by subst hl33; unfold impl_Chest_after; rw [if_neg h41, if_neg h54, if_neg h67, if_neg h110, if_pos h129] <;> rfl)) (eC (eI (by subst hl33; unfold impl_Chest_after; rw [if_neg h41, if_neg h54, if_neg h67, if_neg h110, if_pos h129] <;> rfl)) rfl))))))), (SlO.eqv (((((hO142).kp hk147 (fun b_ hb e' => by have e'' : b_ = g1 := e'; have := (hO142).base_le hb; omega)).kp hk153 (fun b_ hb e' => by have e'' : b_ = g1 := e'; have := ((hO142).kp hk147 (fun b_ hb e' => by have e'' : b_ = g1 := e'; have := (hO142).base_le hb; omega)).base_le hb; omega)).kp hk159 (fun b_ hb e' => by have e'' : b_ = g17 := e'; have := (((hO142).kp hk147 (fun b_ hb e' => by have e'' : b_ = g1 := e'; have := (hO142).base_le hb; omega)).kp hk153 (fun b_ hb e' => by have e'' : b_ = g1 := e'; have := ((hO142).kp hk147 (fun b_ hb e' => by have e'' : b_ = g1 := e'; have := (hO142).base_le hb; omega)).base_le hb; omega)).base_le hb; omega)).down (by omega)) (by subst hl33; unfold impl_Chest_after; rw [if_neg h41, if_neg h54, if_neg h67, if_neg h110, if_pos h129] <;> rfl)), hB163⟩
          · refine W.seq ?_
            refine W.regS (SR.q' (r_eq rfl rfl) <| SR.q' (r_as (v := .bool _) rfl) <| SR.nil ?_)
            refine W.cond_d rfl (fun h164 => ?_) (fun h164 => ?_)
            · refine W.seq ?_
              refine W.regS (SR.q' (r_fa fa40_2 rfl) <| SR.q' (r_ld (v := .slice A27 n28 c29) sca38 rfl ((hb38).cell rfl)) <| SR.q' (r_mkf rfl rfl) <| SR.call ent120 (c_slices_DeleteFunc___int_int_ w35 x.Stack ((hO30).kp hk36 (fun b_ hb e' => by have e'' : b_ = g1 := e'; have := (hO30).base_le hb; omega)) (fun u_ : Int => eqI s.Value u_) ⟨ent121, fun w'' hw'' x => (c__impl_Chest__after_1 w'' x s ((((((hb14).lo hk20).lo hk26).kp hk36 (fun e' => by have e'' : g9 = g1 := e'; omega))).kp hw'' (fun e' => by have := (((hO30).kp hk36 (fun b_ hb e' => by have e'' : b_ = g1 := e'; have := (hO30).base_le hb; omega))).base_le e'; omega))).mono fun _ _ h => ⟨h.1, h.2⟩⟩) rfl ?_)
              rintro e w165 ⟨A167, n168, c169, rfl, hO170, hN171, hk166⟩
              refine ⟨_, rfl, ?_⟩
              have hz172 := hk166.size
              have hB173 := hB40.step hk166 (fun i_ hi_ e' => by have := (((hO30).kp hk36 (fun b_ hb e' => by have e'' : b_ = g1 := e'; have := (hO30).base_le hb; omega))).base_le e'; first | omega | (exfalso; omega) | exact e' | exact .inl e' | exact .inr e')
              have hd174 : ¬ A167 = some ⟨g1, 0, none⟩ := fun e' => (hN171 g1 e').elim (fun h => (by have := ((hO30).kp hk36 (fun b_ hb e' => by have e'' : b_ = g1 := e'; have := (hO30).base_le hb; omega)).base_le h; omega)) (fun h => by have := (hb38).lt; omega)
              have hd175 : ¬ A167 = some ⟨g9, 0, none⟩ := fun e' => (hN171 g9 e').elim (fun h => (by have := ((hO30).kp hk36 (fun b_ hb e' => by have e'' : b_ = g1 := e'; have := (hO30).base_le hb; omega)).base_le h; omega)) (fun h => by have := ((((hb14).lo hk20).lo hk26).kp hk36 (fun e' => by have e'' : g9 = g1 := e'; omega)).lt; omega)
              have hd176 : ¬ A167 = some ⟨g17, 0, none⟩ := fun e' => (hN171 g17 e').elim (fun h => (by have := ((hO30).kp hk36 (fun b_ hb e' => by have e'' : b_ = g1 := e'; have := (hO30).base_le hb; omega)).base_le h; omega)) (fun h => by have := (((hb22).lo hk26).kp hk36 (fun e' => by have e'' : g17 = g1 := e'; omega)).lt; omega)
              have hl177 := hO170.len
              have hl178 := hO170.rd.bound
              refine SR.q' (r_fa fa40_2 rfl) <| SR.store (o := 2) (vs := [.slice A167 n168 c169]) sca38.2 rfl rfl rfl rfl ((hb38).kp hk166 (fun e' => by have := (((hO30).kp hk36 (fun b_ hb e' => by have e'' : b_ = g1 := e'; have := (hO30).base_le hb; omega))).base_le e'; omega)) (Nat.le_of_ble_eq_true rfl) rfl ?_
              intro w179 hk180 hs181 hb182
              have hz183 := hk180.size
              have hB184 := hB173.new hk180 (by omega)
              refine SR.nil ?_
              refine W.regS (SR.q' (r_fa fa40_5 rfl) <| SR.q' (r_ld (v := .int .i64 x.Given) sca3 rfl ((hb182).cell rfl)) <| SR.q' (r_add rfl rfl (by omega)) <| SR.q' (r_fa fa40_5 rfl) <| SR.store (o := 5) (vs := [.int .i64 (x.Given + 1)]) sca3.2 rfl rfl rfl rfl (hb182) (Nat.le_of_ble_eq_true rfl) rfl ?_)
              intro w185 hk186 hs187 hb188
              have hz189 := hk186.size
              have hB190 := hB184.new hk186 (by omega)
              refine SR.nil ?_
              refine W.seq ?_
              refine W.regS (SR.q' (r_lda (l := [.int .i64 x.State, .int .i64 x.Key, .slice A167 n168 c169, .int .i64 x.Dust, .int .i64 x.Laid, .int .i64 (x.Given + 1)]) agg40 rfl (fun _ _ hu => (hb188).cell hu) rfl) <| SR.store (o := 0) (vs := [.int .i64 x.State, .int .i64 x.Key, .slice A167 n168 c169, .int .i64 x.Dust, .int .i64 x.Laid, .int .i64 (x.Given + 1)]) agg40.2 rfl rfl rfl rfl ((((((hb22).lo hk26).kp hk36 (fun e' => by have e'' : g17 = g1 := e'; omega)).kp hk166 (fun e' => by have := (((hO30).kp hk36 (fun b_ hb e' => by have e'' : b_ = g1 := e'; have := (hO30).base_le hb; omega))).base_le e'; omega)).kp hk180 (fun e' => by have e'' : g17 = g1 := e'; omega)).kp hk186 (fun e' => by have e'' : g17 = g1 := e'; omega)) (Nat.le_of_ble_eq_true rfl) rfl ?_)
              intro w191 hk192 hs193 hb194
              have hz195 := hk192.size
              have hB196 := hB190.new hk192 (by omega)
              refine SR.nil ?_
              refine W.ret ?_
              refine retC rfl rfl agg40 (hb194) rfl ?_
              exact ⟨A167, n168, c169, eR (eA (eC (eI (by subst hl177; unfold impl_Chest_after; rw [if_neg h41, if_neg h54, if_neg h67, if_neg h110, if_neg h129, if_pos h164] <;> rfl)) (eC (eI (by subst hl177; unfold impl_Chest_after; rw [if_neg h41, if_neg h54, if_neg h67, if_neg h110, if_neg h129, if_pos h164] <;> rfl)) (eC rfl (eC (eI (by subst hl177; unfold impl_Chest_after; rw [if_neg h41, if_neg h54, if_neg h67, if_neg h110, if_neg h129, if_pos h164] <;> rfl)) (eC (eI (by subst hl177; unfold impl_Chest_after; rw [if_neg h41, if_neg h54, if_neg h67, if_neg h110, if_neg h129, if_pos h164] <;> rfl)) (eC (eI (by subst hl177; unfold impl_Chest_after; rw [if_neg h41, if_neg h54, if_neg h67, if_neg h110, if_neg h129, if_pos h164] <;> rfl)) rfl))))))), (SlO.eqv (((((hO170).kp hk180 (fun b_ hb e' => hd174 (by have e'' : b_ = g1 := e'; rw [← e'']; exact hb))).kp hk186 (fun b_ hb e' => hd174 (by have e'' : b_ = g1 := e'; rw [← e'']; exact hb))).kp hk192 (fun b_ hb e' => hd176 (by have e'' : b_ = g17 := e'; rw [← e'']; exact hb))).down (by omega)) (by subst hl177; unfold impl_Chest_after; rw [if_neg h41, if_neg h54, if_neg h67, if_neg h110, if_neg h129, if_pos h164] <;> rfl)), hB196⟩
            · refine W.seq ?_
              refine W.regS (SR.q' (r_fa fa48_1 rfl) <| SR.q' (r_ld (v := .int .i64 s.Value) sca3 rfl (((((hb14).lo hk20).lo hk26).kp hk36 (fun e' => by have e'' : g9 = g1 := e'; omega)).cell rfl)) <| SR.q' (r_eq rfl rfl) <| SR.nil ?_)
              refine W.cond_d rfl (fun h197 => ?_) (fun h197 => ?_)
              · refine W.regS (SR.q' (r_fa fa40_3 rfl) <| SR.store (o := 3) (vs := [.int .i64 0]) sca3.2 rfl rfl rfl rfl (hb38) (Nat.le_of_ble_eq_true rfl) rfl ?_)
                intro w198 hk199 hs200 hb201
                have hz202 := hk199.size
                have hB203 := hB40.new hk199 (by omega)
                refine SR.nil ?_
                refine W.seq ?_
                refine W.regS (SR.q' (r_lda (l := [.int .i64 x.State, .int .i64 x.Key, .slice A27 n28 c29, .int .i64 0, .int .i64 x.Laid, .int .i64 x.Given]) agg40 rfl (fun _ _ hu => (hb201).cell hu) rfl) <| SR.store (o := 0) (vs := [.int .i64 x.State, .int .i64 x.Key, .slice A27 n28 c29, .int .i64 0, .int .i64 x.Laid, .int .i64 x.Given]) agg40.2 rfl rfl rfl rfl ((((hb22).lo hk26).kp hk36 (fun e' => by have e'' : g17 = g1 := e'; omega)).kp hk199 (fun e' => by have e'' : g17 = g1 := e'; omega)) (Nat.le_of_ble_eq_true rfl) rfl ?_)
                intro w204 hk205 hs206 hb207
                have hz208 := hk205.size
                have hB209 := hB203.new hk205 (by omega)
                refine SR.nil ?_
                refine W.ret ?_
                refine retC rfl rfl agg40 (hb207) rfl ?_
                exact ⟨A27, n28, c29, eR (eA (eC (eI (by subst hl33; unfold impl_Chest_after; rw [if_neg h41, if_neg h54, if_neg h67, if_neg h110, if_neg h129, if_neg h164, if_pos h197] <;> rfl)) (eC (eI (by subst hl33; unfold impl_Chest_after; rw [if_neg h41, if_neg h54, if_neg h67, if_neg h110, if_neg h129, if_neg h164, if_pos h197] <;> rfl)) (eC rfl (eC (eI (by subst hl33; unfold impl_Chest_after; rw [if_neg h41, if_neg h54, if_neg h67, if_neg h110, if_neg h129, if_neg h164, if_pos h197] <;> rfl)) (eC (eI (by subst hl33; unfold impl_Chest_after; rw [if_neg h41, if_neg h54, if_neg h67, if_neg h110, if_neg h129, if_neg h164, if_pos h197] <;> rfl)) (eC (eI (by subst hl33; unfold impl_Chest_after; rw [if_neg h41, if_neg h54, if_neg h67, if_neg h110, if_neg h129, if_neg h164, if_pos h197] <;> rfl)) rfl))))))), (SlO.eqv (((((hO30).kp hk36 (fun b_ hb e' => by have e'' : b_ = g1 := e'; have := (hO30).base_le hb; omega)).kp hk199 (fun b_ hb e' => by have e'' : b_ = g1 := e'; have := ((hO30).kp hk36 (fun b_ hb e' => by have e'' : b_ = g1 := e'; have := (hO30).base_le hb; omega)).base_le hb; omega)).kp hk205 (fun b_ hb e' => by have e'' : b_ = g17 := e'; have := (((hO30).kp hk36 (fun b_ hb e' => by have e'' : b_ = g1 := e'; have := (hO30).base_le hb; omega)).kp hk199 (fun b_ hb e' => by have e'' : b_ = g1 := e'; have := ((hO30).kp hk36 (fun b_ hb e' => by have e'' : b_ = g1 := e'; have := (hO30).base_le hb; omega)).base_le hb; omega)).base_le hb; omega)).down (by omega)) (by subst hl33; unfold impl_Chest_after; rw [if_neg h41, if_neg h54, if_neg h67, if_neg h110, if_neg h129, if_neg h164, if_pos h197] <;> rfl)), hB209⟩
              · refine W.regS (SR.q' (r_lda (l := [.int .i64 x.State, .int .i64 x.Key, .slice A27 n28 c29, .int .i64 x.Dust, .int .i64 x.Laid, .int .i64 x.Given]) agg40 rfl (fun _ _ hu => (hb38).cell hu) rfl) <| SR.q' (r_fa fa48_1 rfl) <| SR.q' (r_ld (v := .int .i64 s.Value) sca3 rfl (((((hb14).lo hk20).lo hk26).kp hk36 (fun e' => by have e'' : g9 = g1 := e'; omega)).cell rfl)) <| SR.call ent56 (c__impl_Chest__dusted w35 x ((((hO30).kp hk36 (fun b_ hb e' => by have e'' : b_ = g1 := e'; have := (hO30).base_le hb; omega)).rd)) s.Value (by omega) (by omega)) rfl ?_)
                rintro e w210 ⟨rfl, hk211⟩
                refine ⟨_, rfl, ?_⟩
                have hz212 := hk211.size
                have hB213 := hB40.lo hk211
                refine SR.q' (r_fa fa40_3 rfl) <| SR.store (o := 3) (vs := [.int .i64 (impl_Chest_dusted x s.Value)]) sca3.2 rfl rfl rfl rfl ((hb38).lo hk211) (Nat.le_of_ble_eq_true rfl) rfl ?_
                intro w214 hk215 hs216 hb217
                have hz218 := hk215.size
                have hB219 := hB213.new hk215 (by omega)
                refine SR.nil ?_
                refine W.seq ?_
                refine W.regS (SR.q' (r_lda (l := [.int .i64 x.State, .int .i64 x.Key, .slice A27 n28 c29, .int .i64 (impl_Chest_dusted x s.Value), .int .i64 x.Laid, .int .i64 x.Given]) agg40 rfl (fun _ _ hu => (hb217).cell hu) rfl) <| SR.store (o := 0) (vs := [.int .i64 x.State, .int .i64 x.Key, .slice A27 n28 c29, .int .i64 (impl_Chest_dusted x s.Value), .int .i64 x.Laid, .int .i64 x.Given]) agg40.2 rfl rfl rfl rfl (((((hb22).lo hk26).kp hk36 (fun e' => by have e'' : g17 = g1 := e'; omega)).lo hk211).kp hk215 (fun e' => by have e'' : g17 = g1 := e'; omega)) (Nat.le_of_ble_eq_true rfl) rfl ?_)
                intro w220 hk221 hs222 hb223
                have hz224 := hk221.size
                have hB225 := hB219.new hk221 (by omega)
                refine SR.nil ?_
                refine W.ret ?_
                refine retC rfl rfl agg40 (hb223) rfl ?_
                exact ⟨A27, n28, c29, eR (eA (eC (eI (by subst hl33; unfold impl_Chest_after; rw [if_neg h41, if_neg h54, if_neg h67, if_neg h110, if_neg h129, if_neg h164, if_neg h197] <;> rfl)) (eC (eI (by subst hl33; unfold impl_Chest_after; rw [if_neg h41, if_neg h54, if_neg h67, if_neg h110, if_neg h129, if_neg h164, if_neg h197] <;> rfl)) (eC rfl (eC (eI (by subst hl33; unfold impl_Chest_after; rw [if_neg h41, if_neg h54, if_neg h67, if_neg h110, if_neg h129, if_neg h164, if_neg h197] <;> rfl)) (eC (eI (by subst hl33; unfold impl_Chest_after; rw [if_neg h41, if_neg h54, if_neg h67, if_neg h110, if_neg h129, if_neg h164, if_neg h197] <;> rfl)) (eC (eI (by subst hl33; unfold impl_Chest_after; rw [if_neg h41, if_neg h54, if_neg h67, if_neg h110, if_neg h129, if_neg h164, if_neg h197] <;> rfl)) rfl))))))), (SlO.eqv ((((((hO30).kp hk36 (fun b_ hb e' => by have e'' : b_ = g1 := e'; have := (hO30).base_le hb; omega)).lo hk211).kp hk215 (fun b_ hb e' => by have e'' : b_ = g1 := e'; have := (((hO30).kp hk36 (fun b_ hb e' => by have e'' : b_ = g1 := e'; have := (hO30).base_le hb; omega)).lo hk211).base_le hb; omega)).kp hk221 (fun b_ hb e' => by have e'' : b_ = g17 := e'; have := ((((hO30).kp hk36 (fun b_ hb e' => by have e'' : b_ = g1 := e'; have := (hO30).base_le hb; omega)).lo hk211).kp hk215 (fun b_ hb e' => by have e'' : b_ = g1 := e'; have := (((hO30).kp hk36 (fun b_ hb e' => by have e'' : b_ = g1 := e'; have := (hO30).base_le hb; omega)).lo hk211).base_le hb; omega)).base_le hb; omega)).down (by omega)) (by subst hl33; unfold impl_Chest_after; rw [if_neg h41, if_neg h54, if_neg h67, if_neg h110, if_neg h129, if_neg h164, if_neg h197] <;> rfl)), hB225⟩
end Go.Proofs.YtlpapeeaghmjpaaDoor
