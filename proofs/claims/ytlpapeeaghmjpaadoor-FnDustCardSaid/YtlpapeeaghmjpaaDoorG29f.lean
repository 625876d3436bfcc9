/- Walks, printed by a program of this claim's author. -/
import Derived.Test.YtlpapeeaghmjpaaDoorChecked
import Derived.Test.YtlpapeeaghmjpaaDoorSa
import Derived.Test.YtlpapeeaghmjpaaDoorFu
import Derived.Test.YtlpapeeaghmjpaaDoorFs
import Derived.Test.YtlpapeeaghmjpaaDoorFq
import Derived.Test.YtlpapeeaghmjpaaDoorFo
import Derived.Test.YtlpapeeaghmjpaaDoorG29e
namespace Go.Proofs.YtlpapeeaghmjpaaDoor
open Go Go.RowKit Fw
set_option maxRecDepth 10000
set_option linter.unusedVariables false
theorem ent116 : Ent Tryd.prog 116 := ent_of Tryd.func116 (by decide +kernel) rfl
theorem ent117 : Ent Tryd.prog 117 := ent_of Tryd.func117 (by decide +kernel) rfl
theorem ent128 : Ent Tryd.prog 128 := ent_of Tryd.func128 (by decide +kernel) rfl
theorem ent57 : Ent Tryd.prog 57 := ent_of Tryd.func57 (by decide +kernel) rfl
theorem ent59 : Ent Tryd.prog 59 := ent_of Tryd.func59 (by decide +kernel) rfl

open Classical in
noncomputable def spec_l21Make (x : Chest) (s : ChestStep) : Chest × Bool :=
  if s.Kind = 1 then ((⟨1, x.Key, x.Stack, x.Dust, x.Laid, x.Given⟩ : Chest), decide ((x.State = 0) ∧ (ChestOK (⟨1, x.Key, x.Stack, x.Dust, x.Laid, x.Given⟩ : Chest)))) else if s.Kind = 2 then ((⟨0, x.Key, x.Stack, x.Dust, x.Laid, x.Given⟩ : Chest), decide ((x.State = 1) ∧ (ChestOK (⟨0, x.Key, x.Stack, x.Dust, x.Laid, x.Given⟩ : Chest)))) else if s.Kind = 3 then ((⟨2, s.Value, x.Stack, x.Dust, x.Laid, x.Given⟩ : Chest), decide ((x.State = 0) ∧ (ChestOK (⟨2, s.Value, x.Stack, x.Dust, x.Laid, x.Given⟩ : Chest)))) else if s.Kind = 4 then ((⟨0, 0, x.Stack, x.Dust, x.Laid, x.Given⟩ : Chest), decide (((x.State = 2) ∧ (x.Key = s.Value)) ∧ (ChestOK (⟨0, 0, x.Stack, x.Dust, x.Laid, x.Given⟩ : Chest)))) else if s.Kind = 7 then (((spec_l21Dusty x s.Value).1), decide ((((spec_l21Dusty x s.Value).2) = true) ∧ (ChestOK ((spec_l21Dusty x s.Value).1)))) else (((spec_l21Move x s).1), decide ((((spec_l21Move x s).2) = true) ∧ (ChestOK ((spec_l21Move x s).1))))
theorem c_spec_l21Make (w : World) (x : Chest) {Ax_Stack : Option Addr} {nx_Stack cx_Stack Bx_Stack : Nat} (hx_Stack : SlR w Bx_Stack encI 1 Ax_Stack nx_Stack cx_Stack x.Stack) (s : ChestStep) (hp0 : ChestOK x) (hp1 : 0 ≤ s.Value ∧ s.Value ≤ 9999) (hp2 : 1 ≤ s.Kind ∧ s.Kind ≤ 7) : Calls Tryd.prog 117 #[.agg (List.toArray [.int .i64 x.State, .int .i64 x.Key, .slice Ax_Stack nx_Stack cx_Stack, .int .i64 x.Dust, .int .i64 x.Laid, .int .i64 x.Given]), .agg (List.toArray (encChestStep s))] w fun e w' => ∃ (A1' : Option Addr) (n1' c1' : Nat), e = .returned (.tuple (List.toArray [.agg (List.toArray [.int .i64 (((spec_l21Make x s).1).State), .int .i64 (((spec_l21Make x s).1).Key), .slice A1' n1' c1', .int .i64 (((spec_l21Make x s).1).Dust), .int .i64 (((spec_l21Make x s).1).Laid), .int .i64 (((spec_l21Make x s).1).Given)]), .bool ((spec_l21Make x s).2)])) ∧ SlO w' w.heap.size encI 1 3 A1' n1' c1' (((spec_l21Make x s).1).Stack) ∧ Lo w w' := by
  refine calls_W 68 Tryd.func117 rfl rfl rfl ?_
  have hbdx_Stack := hx_Stack.bound
  have hlex_Stack := hx_Stack.len
  have hBbx_Stack := hx_Stack.bd
  have hbdx_Stack := hx_Stack.bound
  have hlex_Stack := hx_Stack.len
  have hBbx_Stack := hx_Stack.bd
  have hrg := chest_rng hp0
  refine W.seq ?_
  refine W.regS (SR.box (v := .agg (List.toArray _)) (l := [.int .i64 x.State, .int .i64 x.Key, .slice Ax_Stack nx_Stack cx_Stack, .int .i64 x.Dust, .int .i64 x.Laid, .int .i64 x.Given]) rfl rfl ?_)
  intro g1 w2 hg3 hk4 hs5 hb6
  have hz7 := hk4.size
  have hB8 := (Lo.refl w).lo hk4
  refine SR.box (v := .agg (List.toArray _)) (l := [.int .i64 s.Kind, .int .i64 s.Value]) rfl rfl ?_
  intro g9 w10 hg11 hk12 hs13 hb14
  have hz15 := hk12.size
  have hB16 := hB8.lo hk12
  refine SR.alloc (l := [.int .i64 0, .int .i64 0, .slice none 0 0, .int .i64 0, .int .i64 0, .int .i64 0]) tz40 rfl ?_
  intro g17 w18 hg19 hk20 hs21 hb22
  have hz23 := hk20.size
  have hB24 := hB16.lo hk20
  refine SR.q' (r_as (v := .bool false) rfl) <| SR.nil ?_
  refine W.seq ?_
  refine W.regS (SR.q' (r_lda (l := [.int .i64 x.State, .int .i64 x.Key, .slice Ax_Stack nx_Stack cx_Stack, .int .i64 x.Dust, .int .i64 x.Laid, .int .i64 x.Given]) agg40 rfl (fun _ _ hu => (((hb6).lo hk12).lo hk20).cell hu) rfl) <| SR.call ent99 (c_spec_l21Own w18 x (((((hx_Stack).lo hk4).lo hk12).lo hk20)) (by omega)) rfl ?_)
  rintro e w25 ⟨A27, n28, c29, rfl, hO30, hk26⟩
  refine ⟨_, rfl, ?_⟩
  have hz31 := hk26.size
  have hB32 := hB24.lo hk26
  have hl33 := hO30.len
  have hl34 := hO30.rd.bound
  refine SR.alloc (l := [.int .i64 0, .int .i64 0, .slice none 0 0, .int .i64 0, .int .i64 0, .int .i64 0]) tz40 rfl ?_
  intro g35 w36 hg37 hk38 hs39 hb40
  have hz41 := hk38.size
  have hB42 := hB32.lo hk38
  have hd43 : ¬ A27 = some ⟨g35, 0, none⟩ := fun e' => by have := (hO30).base_le e'; omega
  refine SR.store (o := 0) (vs := [.int .i64 x.State, .int .i64 x.Key, .slice A27 n28 c29, .int .i64 x.Dust, .int .i64 x.Laid, .int .i64 x.Given]) agg40.2 rfl rfl rfl rfl (hb40) (Nat.le_of_ble_eq_true rfl) rfl ?_
  intro w44 hk45 hs46 hb47
  have hz48 := hk45.size
  have hB49 := hB42.new hk45 (by omega)
  refine SR.q' (r_as (v := .bool false) rfl) <| SR.nil ?_
  refine W.seq ?_
  refine W.seq ?_
  refine W.regS (SR.q' (r_fa fa48_0 rfl) <| SR.q' (r_ld (v := .int .i64 s.Kind) sca3 rfl ((((((hb14).lo hk20).lo hk26).lo hk38).kp hk45 (fun e' => by have e'' : g9 = g35 := e'; omega)).cell rfl)) <| SR.nil ?_)
  refine W.block ?_
  refine W.seq ?_
  refine W.regS (SR.q' (r_eq rfl rfl) <| SR.q' (r_as (v := .bool _) rfl) <| SR.nil ?_)
  refine W.cond_d rfl (fun h50 => ?_) (fun h50 => ?_)
  · refine W.seq ?_
    refine W.regS (SR.q' (r_fa fa40_0 rfl) <| SR.store (o := 0) (vs := [.int .i64 1]) sca3.2 rfl rfl rfl rfl (hb47) (Nat.le_of_ble_eq_true rfl) rfl ?_)
    intro w51 hk52 hs53 hb54
    have hz55 := hk52.size
    have hB56 := hB49.new hk52 (by omega)
    refine SR.nil ?_
    refine W.regS (SR.q' (r_fa fa40_0 rfl) <| SR.q' (r_ld (v := .int .i64 x.State) sca3 rfl ((((((((hb6).lo hk12).lo hk20).lo hk26).lo hk38).kp hk45 (fun e' => by have e'' : g1 = g35 := e'; omega)).kp hk52 (fun e' => by have e'' : g1 = g35 := e'; omega)).cell rfl)) <| SR.q' (r_eq rfl rfl) <| SR.q' (r_as (v := .bool _) rfl) <| SR.nil ?_)
    refine W.seq ?_
    refine W.regA (Kp (fun b_ => b_ = g17) w51) (fun f' w' => At f' [(4, .pointer (some ((⟨g17, 0, none⟩ : Addr)))), (5, .bool (decide ((x.State = 0) ∧ (ChestOK (⟨1, x.Key, x.Stack, x.Dust, x.Laid, x.Given⟩ : Chest)))))] ∧ (Kp (fun b_ => b_ = g17) w51 w') ∧ (Blk w' g17 40 [.int .i64 1, .int .i64 x.Key, .slice A27 n28 c29, .int .i64 x.Dust, .int .i64 x.Laid, .int .i64 x.Given])) mo ?_ ?_
    · intro w72 hk73
      have hz74 := hk73.size
      have hB75 := hB56.lo hk73
      refine AH.take 0 rfl (by kernel_rfl) trivial ((Kp.refl w51 : Kp (fun b_ => b_ = g17) w51 w51).lo hk73) (fun w' hw' => r_lda (l := [.int .i64 1, .int .i64 x.Key, .slice A27 n28 c29, .int .i64 x.Dust, .int .i64 x.Laid, .int .i64 x.Given]) agg40 rfl (fun _ _ hu => ((hb54).kp hw' (fun e' => by have e'' : g35 = g17 := e'; omega)).cell hu) rfl) <| AH.take 1 rfl (by kernel_rfl) trivial ((Kp.refl w51 : Kp (fun b_ => b_ = g17) w51 w51).lo hk73) (fun w' hw' => r_mv (v := .bool _) rfl) <| AH.take 2 rfl (by kernel_rfl) trivial ((Kp.refl w51 : Kp (fun b_ => b_ = g17) w51 w51).lo hk73) (fun w' hw' => r_mv (v := .bool _) rfl) <| AH.splitD (fun h76 => ?_) (fun h76 => ?_)
      · refine AH.take 3 rfl (by kernel_rfl) rfl ((Kp.refl w51 : Kp (fun b_ => b_ = g17) w51 w51).lo hk73) (fun w' hw' => r_lda (l := [.int .i64 1, .int .i64 x.Key, .slice A27 n28 c29, .int .i64 x.Dust, .int .i64 x.Laid, .int .i64 x.Given]) agg40 rfl (fun _ _ hu => ((hb54).kp hw' (fun e' => by have e'' : g35 = g17 := e'; omega)).cell hu) rfl) <| AH.br [4] (by kernel_rfl) rfl ⟨Br.mk' rfl rfl ?_, trivial⟩
        refine SR.gcall rfl ent57 (c_spec_l21Good w72 (⟨1, x.Key, x.Stack, x.Dust, x.Laid, x.Given⟩ : Chest) (((((((hO30).lo hk38).kp hk45 (fun b_ hb e' => hd43 (by have e'' : b_ = g35 := e'; rw [← e'']; exact hb))).kp hk52 (fun b_ hb e' => hd43 (by have e'' : b_ = g35 := e'; rw [← e'']; exact hb))).lo hk73).rd))) rfl ?_
        rintro e w77 ⟨rfl, hk78⟩
        refine ⟨_, rfl, ?_⟩
        have hz79 := hk78.size
        have hB80 := hB75.lo hk78
        have hS81 := ((Kp.refl w51 : Kp (fun b_ => b_ = g17) w51 w51).lo hk73).lo hk78
        refine SR.nil ⟨hS81, _, rfl, ?_⟩
        refine AH.take 5 rfl (by kernel_rfl) trivial (hS81) (fun w' hw' => r_pick true rfl (v := .bool _) rfl) <| AH.br [6] (by kernel_rfl) rfl ⟨Br.mk' rfl trivial ?_, trivial⟩
        refine SR.store (o := 0) (vs := [.int .i64 1, .int .i64 x.Key, .slice A27 n28 c29, .int .i64 x.Dust, .int .i64 x.Laid, .int .i64 x.Given]) agg40.2 rfl rfl rfl rfl (((((((hb22).lo hk26).lo hk38).kp hk45 (fun e' => by have e'' : g17 = g35 := e'; omega)).kp hk52 (fun e' => by have e'' : g17 = g35 := e'; omega)).lo hk73).lo hk78) (Nat.le_of_ble_eq_true rfl) rfl ?_
        intro w82 hk83 hs84 hb85
        have hz86 := hk83.size
        have hB87 := hB80.new hk83 (by omega)
        have hS88 := (hS81).step hk83 (fun _ _ e => e)
        refine SR.nil ⟨hS88, _, rfl, ?_⟩
        refine AH.take 7 rfl (by kernel_rfl) trivial (hS88) (fun w' hw' => r_as (v := .bool _) rfl) <| AH.done (by kernel_rfl) ?_
        exact ⟨⟨rfl, (eDD (jat h76)), trivial⟩, hS88, (hb85)⟩
      · refine AH.s' 3 rfl (by kernel_rfl) rfl ((Kp.refl w51 : Kp (fun b_ => b_ = g17) w51 w51).lo hk73) <| AH.s' 4 rfl (by kernel_rfl) rfl ((Kp.refl w51 : Kp (fun b_ => b_ = g17) w51 w51).lo hk73) <| AH.take 5 rfl (by kernel_rfl) trivial ((Kp.refl w51 : Kp (fun b_ => b_ = g17) w51 w51).lo hk73) (fun w' hw' => r_pick false rfl (v := .bool false) rfl) <| AH.br [6] (by kernel_rfl) rfl ⟨Br.mk' rfl trivial ?_, trivial⟩
        refine SR.store (o := 0) (vs := [.int .i64 1, .int .i64 x.Key, .slice A27 n28 c29, .int .i64 x.Dust, .int .i64 x.Laid, .int .i64 x.Given]) agg40.2 rfl rfl rfl rfl ((((((hb22).lo hk26).lo hk38).kp hk45 (fun e' => by have e'' : g17 = g35 := e'; omega)).kp hk52 (fun e' => by have e'' : g17 = g35 := e'; omega)).lo hk73) (Nat.le_of_ble_eq_true rfl) rfl ?_
        intro w90 hk91 hs92 hb93
        have hz94 := hk91.size
        have hB95 := hB75.new hk91 (by omega)
        have hS96 := ((Kp.refl w51 : Kp (fun b_ => b_ = g17) w51 w51).lo hk73).step hk91 (fun _ _ e => e)
        refine SR.nil ⟨hS96, _, rfl, ?_⟩
        refine AH.take 7 rfl (by kernel_rfl) trivial (hS96) (fun w' hw' => r_as (v := .bool _) rfl) <| AH.done (by kernel_rfl) ?_
        exact ⟨⟨rfl, (eDF (jaf h76).2), trivial⟩, hS96, (hb93)⟩
    rintro f97 w98 ⟨hat100, hR99, hm89⟩
    rw [← sets_of_at hat100]
    have hz101 := hR99.size
    have hB102 := hB56.new hR99 (by omega)
    refine W.ret ?_
    refine retCT rfl rfl agg40 (hm89) rfl (v := .bool _) rfl ?_
    exact ⟨A27, n28, c29, eR (eT2 (eA (eC (eI (by subst hl33; unfold spec_l21Make; rw [if_pos h50] <;> rfl)) (eC (eI (by subst hl33; unfold spec_l21Make; rw [if_pos h50] <;> rfl)) (eC rfl (eC (eI (by subst hl33; unfold spec_l21Make; rw [if_pos h50] <;> rfl)) (eC (eI (by subst hl33; unfold spec_l21Make; rw [if_pos h50] <;> rfl)) (eC (eI (by subst hl33; unfold spec_l21Make; rw [if_pos h50] <;> rfl)) rfl))))))) (eB (by subst hl33; unfold spec_l21Make; rw [if_pos h50] <;> rfl))), (SlO.eqv ((((((hO30).lo hk38).kp hk45 (fun b_ hb e' => hd43 (by have e'' : b_ = g35 := e'; rw [← e'']; exact hb))).kp hk52 (fun b_ hb e' => hd43 (by have e'' : b_ = g35 := e'; rw [← e'']; exact hb))).kp hR99 (fun b_ hb e' => by have e'' : b_ = g17 := e'; have := ((((hO30).lo hk38).kp hk45 (fun b_ hb e' => hd43 (by have e'' : b_ = g35 := e'; rw [← e'']; exact hb))).kp hk52 (fun b_ hb e' => hd43 (by have e'' : b_ = g35 := e'; rw [← e'']; exact hb))).base_le hb; omega)).down (by omega)) (by subst hl33; unfold spec_l21Make; rw [if_pos h50] <;> rfl)), hB102⟩
  · refine W.seq ?_
    refine W.regS (SR.q' (r_eq rfl rfl) <| SR.q' (r_as (v := .bool _) rfl) <| SR.nil ?_)
    refine W.cond_d rfl (fun h103 => ?_) (fun h103 => ?_)
    · refine W.seq ?_
      refine W.regS (SR.q' (r_fa fa40_0 rfl) <| SR.store (o := 0) (vs := [.int .i64 0]) sca3.2 rfl rfl rfl rfl (hb47) (Nat.le_of_ble_eq_true rfl) rfl ?_)
      intro w104 hk105 hs106 hb107
      have hz108 := hk105.size
      have hB109 := hB49.new hk105 (by omega)
      refine SR.nil ?_
      refine W.regS (SR.q' (r_fa fa40_0 rfl) <| SR.q' (r_ld (v := .int .i64 x.State) sca3 rfl ((((((((hb6).lo hk12).lo hk20).lo hk26).lo hk38).kp hk45 (fun e' => by have e'' : g1 = g35 := e'; omega)).kp hk105 (fun e' => by have e'' : g1 = g35 := e'; omega)).cell rfl)) <| SR.q' (r_eq rfl rfl) <| SR.q' (r_as (v := .bool _) rfl) <| SR.nil ?_)
      refine W.seq ?_
      refine W.regA (Kp (fun b_ => b_ = g17) w104) (fun f' w' => At f' [(4, .pointer (some ((⟨g17, 0, none⟩ : Addr)))), (5, .bool (decide ((x.State = 1) ∧ (ChestOK (⟨0, x.Key, x.Stack, x.Dust, x.Laid, x.Given⟩ : Chest)))))] ∧ (Kp (fun b_ => b_ = g17) w104 w') ∧ (Blk w' g17 40 [.int .i64 0, .int .i64 x.Key, .slice A27 n28 c29, .int .i64 x.Dust, .int .i64 x.Laid, .int .i64 x.Given])) mo ?_ ?_
      · intro w125 hk126
        have hz127 := hk126.size
        have hB128 := hB109.lo hk126
        refine AH.take 0 rfl (by kernel_rfl) trivial ((Kp.refl w104 : Kp (fun b_ => b_ = g17) w104 w104).lo hk126) (fun w' hw' => r_lda (l := [.int .i64 0, .int .i64 x.Key, .slice A27 n28 c29, .int .i64 x.Dust, .int .i64 x.Laid, .int .i64 x.Given]) agg40 rfl (fun _ _ hu => ((hb107).kp hw' (fun e' => by have e'' : g35 = g17 := e'; omega)).cell hu) rfl) <| AH.take 1 rfl (by kernel_rfl) trivial ((Kp.refl w104 : Kp (fun b_ => b_ = g17) w104 w104).lo hk126) (fun w' hw' => r_mv (v := .bool _) rfl) <| AH.take 2 rfl (by kernel_rfl) trivial ((Kp.refl w104 : Kp (fun b_ => b_ = g17) w104 w104).lo hk126) (fun w' hw' => r_mv (v := .bool _) rfl) <| AH.splitD (fun h129 => ?_) (fun h129 => ?_)
        · refine AH.take 3 rfl (by kernel_rfl) rfl ((Kp.refl w104 : Kp (fun b_ => b_ = g17) w104 w104).lo hk126) (fun w' hw' => r_lda (l := [.int .i64 0, .int .i64 x.Key, .slice A27 n28 c29, .int .i64 x.Dust, .int .i64 x.Laid, .int .i64 x.Given]) agg40 rfl (fun _ _ hu => ((hb107).kp hw' (fun e' => by have e'' : g35 = g17 := e'; omega)).cell hu) rfl) <| AH.br [4] (by kernel_rfl) rfl ⟨Br.mk' rfl rfl ?_, trivial⟩
          refine SR.gcall rfl ent57 (c_spec_l21Good w125 (⟨0, x.Key, x.Stack, x.Dust, x.Laid, x.Given⟩ : Chest) (((((((hO30).lo hk38).kp hk45 (fun b_ hb e' => hd43 (by have e'' : b_ = g35 := e'; rw [← e'']; exact hb))).kp hk105 (fun b_ hb e' => hd43 (by have e'' : b_ = g35 := e'; rw [← e'']; exact hb))).lo hk126).rd))) rfl ?_
          rintro e w130 ⟨rfl, hk131⟩
          refine ⟨_, rfl, ?_⟩
          have hz132 := hk131.size
          have hB133 := hB128.lo hk131
          have hS134 := ((Kp.refl w104 : Kp (fun b_ => b_ = g17) w104 w104).lo hk126).lo hk131
          refine SR.nil ⟨hS134, _, rfl, ?_⟩
          refine AH.take 5 rfl (by kernel_rfl) trivial (hS134) (fun w' hw' => r_pick true rfl (v := .bool _) rfl) <| AH.br [6] (by kernel_rfl) rfl ⟨Br.mk' rfl trivial ?_, trivial⟩
          refine SR.store (o := 0) (vs := [.int .i64 0, .int .i64 x.Key, .slice A27 n28 c29, .int .i64 x.Dust, .int .i64 x.Laid, .int .i64 x.Given]) agg40.2 rfl rfl rfl rfl (((((((hb22).lo hk26).lo hk38).kp hk45 (fun e' => by have e'' : g17 = g35 := e'; omega)).kp hk105 (fun e' => by have e'' : g17 = g35 := e'; omega)).lo hk126).lo hk131) (Nat.le_of_ble_eq_true rfl) rfl ?_
          intro w135 hk136 hs137 hb138
          have hz139 := hk136.size
          have hB140 := hB133.new hk136 (by omega)
          have hS141 := (hS134).step hk136 (fun _ _ e => e)
          refine SR.nil ⟨hS141, _, rfl, ?_⟩
          refine AH.take 7 rfl (by kernel_rfl) trivial (hS141) (fun w' hw' => r_as (v := .bool _) rfl) <| AH.done (by kernel_rfl) ?_
          exact ⟨⟨rfl, (eDD (jat h129)), trivial⟩, hS141, (hb138)⟩
        · refine AH.s' 3 rfl (by kernel_rfl) rfl ((Kp.refl w104 : Kp (fun b_ => b_ = g17) w104 w104).lo hk126) <| AH.s' 4 rfl (by kernel_rfl) rfl ((Kp.refl w104 : Kp (fun b_ => b_ = g17) w104 w104).lo hk126) <| AH.take 5 rfl (by kernel_rfl) trivial ((Kp.refl w104 : Kp (fun b_ => b_ = g17) w104 w104).lo hk126) (fun w' hw' => r_pick false rfl (v := .bool false) rfl) <| AH.br [6] (by kernel_rfl) rfl ⟨Br.mk' rfl trivial ?_, trivial⟩
          refine SR.store (o := 0) (vs := [.int .i64 0, .int .i64 x.Key, .slice A27 n28 c29, .int .i64 x.Dust, .int .i64 x.Laid, .int .i64 x.Given]) agg40.2 rfl rfl rfl rfl ((((((hb22).lo hk26).lo hk38).kp hk45 (fun e' => by have e'' : g17 = g35 := e'; omega)).kp hk105 (fun e' => by have e'' : g17 = g35 := e'; omega)).lo hk126) (Nat.le_of_ble_eq_true rfl) rfl ?_
          intro w143 hk144 hs145 hb146
          have hz147 := hk144.size
          have hB148 := hB128.new hk144 (by omega)
          have hS149 := ((Kp.refl w104 : Kp (fun b_ => b_ = g17) w104 w104).lo hk126).step hk144 (fun _ _ e => e)
          refine SR.nil ⟨hS149, _, rfl, ?_⟩
          refine AH.take 7 rfl (by kernel_rfl) trivial (hS149) (fun w' hw' => r_as (v := .bool _) rfl) <| AH.done (by kernel_rfl) ?_
          exact ⟨⟨rfl, (eDF (jaf h129).2), trivial⟩, hS149, (hb146)⟩
      rintro f150 w151 ⟨hat153, hR152, hm142⟩
      rw [← sets_of_at hat153]
      have hz154 := hR152.size
      have hB155 := hB109.new hR152 (by omega)
      refine W.ret ?_
      refine retCT rfl rfl agg40 (hm142) rfl (v := .bool _) rfl ?_
      exact ⟨A27, n28, c29, eR (eT2 (eA (eC (eI (by subst hl33; unfold spec_l21Make; rw [if_neg h50, if_pos h103] <;> rfl)) (eC (eI (by subst hl33; unfold spec_l21Make; rw [if_neg h50, if_pos h103] <;> rfl)) (eC rfl (eC (eI (by subst hl33; unfold spec_l21Make; rw [if_neg h50, if_pos h103] <;> rfl)) (eC (eI (by subst hl33; unfold spec_l21Make; rw [if_neg h50, if_pos h103] <;> rfl)) (eC (eI (by subst hl33; unfold spec_l21Make; rw [if_neg h50, if_pos h103] <;> rfl)) rfl))))))) (eB (by subst hl33; unfold spec_l21Make; rw [if_neg h50, if_pos h103] <;> rfl))), (SlO.eqv ((((((hO30).lo hk38).kp hk45 (fun b_ hb e' => hd43 (by have e'' : b_ = g35 := e'; rw [← e'']; exact hb))).kp hk105 (fun b_ hb e' => hd43 (by have e'' : b_ = g35 := e'; rw [← e'']; exact hb))).kp hR152 (fun b_ hb e' => by have e'' : b_ = g17 := e'; have := ((((hO30).lo hk38).kp hk45 (fun b_ hb e' => hd43 (by have e'' : b_ = g35 := e'; rw [← e'']; exact hb))).kp hk105 (fun b_ hb e' => hd43 (by have e'' : b_ = g35 := e'; rw [← e'']; exact hb))).base_le hb; omega)).down (by omega)) (by subst hl33; unfold spec_l21Make; rw [if_neg h50, if_pos h103] <;> rfl)), hB155⟩
    · refine W.seq ?_
      refine W.regS (SR.q' (r_eq rfl rfl) <| SR.q' (r_as (v := .bool _) rfl) <| SR.nil ?_)
      refine W.cond_d rfl (fun h156 => ?_) (fun h156 => ?_)
      · refine W.seq ?_
        refine W.regS (SR.q' (r_fa fa40_0 rfl) <| SR.store (o := 0) (vs := [.int .i64 2]) sca3.2 rfl rfl rfl rfl (hb47) (Nat.le_of_ble_eq_true rfl) rfl ?_)
        intro w157 hk158 hs159 hb160
        have hz161 := hk158.size
        have hB162 := hB49.new hk158 (by omega)
        refine SR.nil ?_
        refine W.seq ?_
        refine W.regS (SR.q' (r_fa fa48_1 rfl) <| SR.q' (r_ld (v := .int .i64 s.Value) sca3 rfl (((((((hb14).lo hk20).lo hk26).lo hk38).kp hk45 (fun e' => by have e'' : g9 = g35 := e'; omega)).kp hk158 (fun e' => by have e'' : g9 = g35 := e'; omega)).cell rfl)) <| SR.q' (r_fa fa40_1 rfl) <| SR.store (o := 1) (vs := [.int .i64 s.Value]) sca3.2 rfl rfl rfl rfl (hb160) (Nat.le_of_ble_eq_true rfl) rfl ?_)
        intro w163 hk164 hs165 hb166
        have hz167 := hk164.size
        have hB168 := hB162.new hk164 (by omega)
        refine SR.nil ?_
        refine W.regS (SR.q' (r_fa fa40_0 rfl) <| SR.q' (r_ld (v := .int .i64 x.State) sca3 rfl (((((((((hb6).lo hk12).lo hk20).lo hk26).lo hk38).kp hk45 (fun e' => by have e'' : g1 = g35 := e'; omega)).kp hk158 (fun e' => by have e'' : g1 = g35 := e'; omega)).kp hk164 (fun e' => by have e'' : g1 = g35 := e'; omega)).cell rfl)) <| SR.q' (r_eq rfl rfl) <| SR.q' (r_as (v := .bool _) rfl) <| SR.nil ?_)
        refine W.seq ?_
        refine W.regA (Kp (fun b_ => b_ = g17) w163) (fun f' w' => At f' [(4, .pointer (some ((⟨g17, 0, none⟩ : Addr)))), (5, .bool (decide ((x.State = 0) ∧ (ChestOK (⟨2, s.Value, x.Stack, x.Dust, x.Laid, x.Given⟩ : Chest)))))] ∧ (Kp (fun b_ => b_ = g17) w163 w') ∧ (Blk w' g17 40 [.int .i64 2, .int .i64 s.Value, .slice A27 n28 c29, .int .i64 x.Dust, .int .i64 x.Laid, .int .i64 x.Given])) mo ?_ ?_
        · intro w184 hk185
          have hz186 := hk185.size
          have hB187 := hB168.lo hk185
          refine AH.take 0 rfl (by kernel_rfl) trivial ((Kp.refl w163 : Kp (fun b_ => b_ = g17) w163 w163).lo hk185) (fun w' hw' => r_lda (l := [.int .i64 2, .int .i64 s.Value, .slice A27 n28 c29, .int .i64 x.Dust, .int .i64 x.Laid, .int .i64 x.Given]) agg40 rfl (fun _ _ hu => ((hb166).kp hw' (fun e' => by have e'' : g35 = g17 := e'; omega)).cell hu) rfl) <| AH.take 1 rfl (by kernel_rfl) trivial ((Kp.refl w163 : Kp (fun b_ => b_ = g17) w163 w163).lo hk185) (fun w' hw' => r_mv (v := .bool _) rfl) <| AH.take 2 rfl (by kernel_rfl) trivial ((Kp.refl w163 : Kp (fun b_ => b_ = g17) w163 w163).lo hk185) (fun w' hw' => r_mv (v := .bool _) rfl) <| AH.splitD (fun h188 => ?_) (fun h188 => ?_)
          · refine AH.take 3 rfl (by kernel_rfl) rfl ((Kp.refl w163 : Kp (fun b_ => b_ = g17) w163 w163).lo hk185) (fun w' hw' => r_lda (l := [.int .i64 2, .int .i64 s.Value, .slice A27 n28 c29, .int .i64 x.Dust, .int .i64 x.Laid, .int .i64 x.Given]) agg40 rfl (fun _ _ hu => ((hb166).kp hw' (fun e' => by have e'' : g35 = g17 := e'; omega)).cell hu) rfl) <| AH.br [4] (by kernel_rfl) rfl ⟨Br.mk' rfl rfl ?_, trivial⟩
            refine SR.gcall rfl ent57 (c_spec_l21Good w184 (⟨2, s.Value, x.Stack, x.Dust, x.Laid, x.Given⟩ : Chest) ((((((((hO30).lo hk38).kp hk45 (fun b_ hb e' => hd43 (by have e'' : b_ = g35 := e'; rw [← e'']; exact hb))).kp hk158 (fun b_ hb e' => hd43 (by have e'' : b_ = g35 := e'; rw [← e'']; exact hb))).kp hk164 (fun b_ hb e' => hd43 (by have e'' : b_ = g35 := e'; rw [← e'']; exact hb))).lo hk185).rd))) rfl ?_
            rintro e w189 ⟨rfl, hk190⟩
            refine ⟨_, rfl, ?_⟩
            have hz191 := hk190.size
            have hB192 := hB187.lo hk190
            have hS193 := ((Kp.refl w163 : Kp (fun b_ => b_ = g17) w163 w163).lo hk185).lo hk190
            refine SR.nil ⟨hS193, _, rfl, ?_⟩
            refine AH.take 5 rfl (by kernel_rfl) trivial (hS193) (fun w' hw' => r_pick true rfl (v := .bool _) rfl) <| AH.br [6] (by kernel_rfl) rfl ⟨Br.mk' rfl trivial ?_, trivial⟩
            refine SR.store (o := 0) (vs := [.int .i64 2, .int .i64 s.Value, .slice A27 n28 c29, .int .i64 x.Dust, .int .i64 x.Laid, .int .i64 x.Given]) agg40.2 rfl rfl rfl rfl ((((((((hb22).lo hk26).lo hk38).kp hk45 (fun e' => by have e'' : g17 = g35 := e'; omega)).kp hk158 (fun e' => by have e'' : g17 = g35 := e'; omega)).kp hk164 (fun e' => by have e'' : g17 = g35 := e'; omega)).lo hk185).lo hk190) (Nat.le_of_ble_eq_true rfl) rfl ?_
            intro w194 hk195 hs196 hb197
            have hz198 := hk195.size
            have hB199 := hB192.new hk195 (by omega)
            have hS200 := (hS193).step hk195 (fun _ _ e => e)
            refine SR.nil ⟨hS200, _, rfl, ?_⟩
            refine AH.take 7 rfl (by kernel_rfl) trivial (hS200) (fun w' hw' => r_as (v := .bool _) rfl) <| AH.done (by kernel_rfl) ?_
            exact ⟨⟨rfl, (eDD (jat h188)), trivial⟩, hS200, (hb197)⟩
          · refine AH.s' 3 rfl (by kernel_rfl) rfl ((Kp.refl w163 : Kp (fun b_ => b_ = g17) w163 w163).lo hk185) <| AH.s' 4 rfl (by kernel_rfl) rfl ((Kp.refl w163 : Kp (fun b_ => b_ = g17) w163 w163).lo hk185) <| AH.take 5 rfl (by kernel_rfl) trivial ((Kp.refl w163 : Kp (fun b_ => b_ = g17) w163 w163).lo hk185) (fun w' hw' => r_pick false rfl (v := .bool false) rfl) <| AH.br [6] (by kernel_rfl) rfl ⟨Br.mk' rfl trivial ?_, trivial⟩
            refine SR.store (o := 0) (vs := [.int .i64 2, .int .i64 s.Value, .slice A27 n28 c29, .int .i64 x.Dust, .int .i64 x.Laid, .int .i64 x.Given]) agg40.2 rfl rfl rfl rfl (((((((hb22).lo hk26).lo hk38).kp hk45 (fun e' => by have e'' : g17 = g35 := e'; omega)).kp hk158 (fun e' => by have e'' : g17 = g35 := e'; omega)).kp hk164 (fun e' => by have e'' : g17 = g35 := e'; omega)).lo hk185) (Nat.le_of_ble_eq_true rfl) rfl ?_
            intro w202 hk203 hs204 hb205
            have hz206 := hk203.size
            have hB207 := hB187.new hk203 (by omega)
            have hS208 := ((Kp.refl w163 : Kp (fun b_ => b_ = g17) w163 w163).lo hk185).step hk203 (fun _ _ e => e)
            refine SR.nil ⟨hS208, _, rfl, ?_⟩
            refine AH.take 7 rfl (by kernel_rfl) trivial (hS208) (fun w' hw' => r_as (v := .bool _) rfl) <| AH.done (by kernel_rfl) ?_
            exact ⟨⟨rfl, (eDF (jaf h188).2), trivial⟩, hS208, (hb205)⟩
        rintro f209 w210 ⟨hat212, hR211, hm201⟩
        rw [← sets_of_at hat212]
        have hz213 := hR211.size
        have hB214 := hB168.new hR211 (by omega)
        refine W.ret ?_
        refine retCT rfl rfl agg40 (hm201) rfl (v := .bool _) rfl ?_
        exact ⟨A27, n28, c29, eR (eT2 (eA (eC (eI (by subst hl33; unfold spec_l21Make; rw [if_neg h50, if_neg h103, if_pos h156] <;> rfl)) (eC (eI (by subst hl33; unfold spec_l21Make; rw [if_neg h50, if_neg h103, if_pos h156] <;> rfl)) (eC rfl (eC (eI (by subst hl33; unfold spec_l21Make; rw [if_neg h50, if_neg h103, if_pos h156] <;> rfl)) (eC (eI (by subst hl33; unfold spec_l21Make; rw [if_neg h50, if_neg h103, if_pos h156] <;> rfl)) (eC (eI (by subst hl33; unfold spec_l21Make; rw [if_neg h50, if_neg h103, if_pos h156] <;> rfl)) rfl))))))) (eB (by subst hl33; unfold spec_l21Make; rw [if_neg h50, if_neg h103, if_pos h156] <;> rfl))), (SlO.eqv (((((((hO30).lo hk38).kp hk45 (fun b_ hb e' => hd43 (by have e'' : b_ = g35 := e'; rw [← e'']; exact hb))).kp hk158 (fun b_ hb e' => hd43 (by have e'' : b_ = g35 := e'; rw [← e'']; exact hb))).kp hk164 (fun b_ hb e' => hd43 (by have e'' : b_ = g35 := e'; rw [← e'']; exact hb))).kp hR211 (fun b_ hb e' => by have e'' : b_ = g17 := e'; have := (((((hO30).lo hk38).kp hk45 (fun b_ hb e' => hd43 (by have e'' : b_ = g35 := e'; rw [← e'']; exact hb))).kp hk158 (fun b_ hb e' => hd43 (by have e'' : b_ = g35 := e'; rw [← e'']; exact hb))).kp hk164 (fun b_ hb e' => hd43 (by have e'' : b_ = g35 := e'; rw [← e'']; exact hb))).base_le hb; omega)).down (by omega)) (by subst hl33; unfold spec_l21Make; rw [if_neg h50, if_neg h103, if_pos h156] <;> rfl)), hB214⟩
      · refine W.seq ?_
        refine W.regS (SR.q' (r_eq rfl rfl) <| SR.q' (r_as (v := .bool _) rfl) <| SR.nil ?_)
        refine W.cond_d rfl (fun h215 => ?_) (fun h215 => ?_)
        · refine W.seq ?_
          refine W.regS (SR.q' (r_fa fa40_0 rfl) <| SR.store (o := 0) (vs := [.int .i64 0]) sca3.2 rfl rfl rfl rfl (hb47) (Nat.le_of_ble_eq_true rfl) rfl ?_)
          intro w216 hk217 hs218 hb219
          have hz220 := hk217.size
          have hB221 := hB49.new hk217 (by omega)
          refine SR.nil ?_
          refine W.seq ?_
          refine W.regS (SR.q' (r_fa fa40_1 rfl) <| SR.store (o := 1) (vs := [.int .i64 0]) sca3.2 rfl rfl rfl rfl (hb219) (Nat.le_of_ble_eq_true rfl) rfl ?_)
          intro w222 hk223 hs224 hb225
          have hz226 := hk223.size
          have hB227 := hB221.new hk223 (by omega)
          refine SR.nil ?_
          refine W.regJS (fun f' w' => At f' [(4, .pointer (some ((⟨g17, 0, none⟩ : Addr)))), (5, .bool false), (6, .pointer (some ((⟨g35, 0, none⟩ : Addr)))), (7, .bool (decide ((x.State = 2) ∧ (x.Key = s.Value))))] ∧ Lo w222 w') ?_ ?_
          · refine SR.q' (r_fa fa40_0 rfl) <| SR.q' (r_ld (v := .int .i64 x.State) sca3 rfl (((((((((hb6).lo hk12).lo hk20).lo hk26).lo hk38).kp hk45 (fun e' => by have e'' : g1 = g35 := e'; omega)).kp hk217 (fun e' => by have e'' : g1 = g35 := e'; omega)).kp hk223 (fun e' => by have e'' : g1 = g35 := e'; omega)).cell rfl)) <| SR.q' (r_eq rfl rfl) <| SR.q' (r_mv (v := .bool _) rfl) <| SR.splitD (fun h228 => ?_) (fun h228 => ?_)
            · refine SR.g' rfl (r_fa fa40_1 rfl) <| SR.g' rfl (r_ld (v := .int .i64 x.Key) sca3 rfl (((((((((hb6).lo hk12).lo hk20).lo hk26).lo hk38).kp hk45 (fun e' => by have e'' : g1 = g35 := e'; omega)).kp hk217 (fun e' => by have e'' : g1 = g35 := e'; omega)).kp hk223 (fun e' => by have e'' : g1 = g35 := e'; omega)).cell rfl)) <| SR.g' rfl (r_fa fa48_1 rfl) <| SR.g' rfl (r_ld (v := .int .i64 s.Value) sca3 rfl ((((((((hb14).lo hk20).lo hk26).lo hk38).kp hk45 (fun e' => by have e'' : g9 = g35 := e'; omega)).kp hk217 (fun e' => by have e'' : g9 = g35 := e'; omega)).kp hk223 (fun e' => by have e'' : g9 = g35 := e'; omega)).cell rfl)) <| SR.g' rfl (r_eq rfl rfl) <| SR.q' (r_pick true rfl (v := .bool _) rfl) <| SR.q' (r_as (v := .bool _) rfl) <| SR.nil ?_
              exact ⟨_, rfl, ⟨⟨rfl, rfl, rfl, (eDD (jat h228)), trivial⟩, (Lo.refl _)⟩⟩
            · refine SR.s' rfl <| SR.s' rfl <| SR.s' rfl <| SR.s' rfl <| SR.s' rfl <| SR.q' (r_pick false rfl (v := .bool false) rfl) <| SR.q' (r_as (v := .bool _) rfl) <| SR.nil ?_
              exact ⟨_, rfl, ⟨⟨rfl, rfl, rfl, (eDF (jaf h228).2), trivial⟩, (Lo.refl _)⟩⟩
          rintro f229 w230 ⟨hat231, hk232⟩
          rw [← sets_of_at hat231]
          have hz233 := hk232.size
          have hB234 := hB227.lo hk232
          refine W.seq ?_
          refine W.regA (Kp (fun b_ => b_ = g17) w230) (fun f' w' => At f' [(4, .pointer (some ((⟨g17, 0, none⟩ : Addr)))), (5, .bool (decide (((x.State = 2) ∧ (x.Key = s.Value)) ∧ (ChestOK (⟨0, 0, x.Stack, x.Dust, x.Laid, x.Given⟩ : Chest)))))] ∧ (Kp (fun b_ => b_ = g17) w230 w') ∧ (Blk w' g17 40 [.int .i64 0, .int .i64 0, .slice A27 n28 c29, .int .i64 x.Dust, .int .i64 x.Laid, .int .i64 x.Given])) mo ?_ ?_
          · intro w252 hk253
            have hz254 := hk253.size
            have hB255 := hB234.lo hk253
            refine AH.take 0 rfl (by kernel_rfl) trivial ((Kp.refl w230 : Kp (fun b_ => b_ = g17) w230 w230).lo hk253) (fun w' hw' => r_lda (l := [.int .i64 0, .int .i64 0, .slice A27 n28 c29, .int .i64 x.Dust, .int .i64 x.Laid, .int .i64 x.Given]) agg40 rfl (fun _ _ hu => (((hb225).lo hk232).kp hw' (fun e' => by have e'' : g35 = g17 := e'; omega)).cell hu) rfl) <| AH.take 1 rfl (by kernel_rfl) trivial ((Kp.refl w230 : Kp (fun b_ => b_ = g17) w230 w230).lo hk253) (fun w' hw' => r_mv (v := .bool _) rfl) <| AH.take 2 rfl (by kernel_rfl) trivial ((Kp.refl w230 : Kp (fun b_ => b_ = g17) w230 w230).lo hk253) (fun w' hw' => r_mv (v := .bool _) rfl) <| AH.splitD (fun h256 => ?_) (fun h256 => ?_)
            · have hq257 : x.State = 2 := h256.1
              have hq258 : x.Key = s.Value := h256.2
              refine AH.take 3 rfl (by kernel_rfl) rfl ((Kp.refl w230 : Kp (fun b_ => b_ = g17) w230 w230).lo hk253) (fun w' hw' => r_lda (l := [.int .i64 0, .int .i64 0, .slice A27 n28 c29, .int .i64 x.Dust, .int .i64 x.Laid, .int .i64 x.Given]) agg40 rfl (fun _ _ hu => (((hb225).lo hk232).kp hw' (fun e' => by have e'' : g35 = g17 := e'; omega)).cell hu) rfl) <| AH.br [4] (by kernel_rfl) rfl ⟨Br.mk' rfl rfl ?_, trivial⟩
              refine SR.gcall rfl ent57 (c_spec_l21Good w252 (⟨0, 0, x.Stack, x.Dust, x.Laid, x.Given⟩ : Chest) (((((((((hO30).lo hk38).kp hk45 (fun b_ hb e' => hd43 (by have e'' : b_ = g35 := e'; rw [← e'']; exact hb))).kp hk217 (fun b_ hb e' => hd43 (by have e'' : b_ = g35 := e'; rw [← e'']; exact hb))).kp hk223 (fun b_ hb e' => hd43 (by have e'' : b_ = g35 := e'; rw [← e'']; exact hb))).lo hk232).lo hk253).rd))) rfl ?_
              rintro e w259 ⟨rfl, hk260⟩
              refine ⟨_, rfl, ?_⟩
              have hz261 := hk260.size
              have hB262 := hB255.lo hk260
              have hS263 := ((Kp.refl w230 : Kp (fun b_ => b_ = g17) w230 w230).lo hk253).lo hk260
              refine SR.nil ⟨hS263, _, rfl, ?_⟩
              refine AH.take 5 rfl (by kernel_rfl) trivial (hS263) (fun w' hw' => r_pick true rfl (v := .bool _) rfl) <| AH.br [6] (by kernel_rfl) rfl ⟨Br.mk' rfl trivial ?_, trivial⟩
              refine SR.store (o := 0) (vs := [.int .i64 0, .int .i64 0, .slice A27 n28 c29, .int .i64 x.Dust, .int .i64 x.Laid, .int .i64 x.Given]) agg40.2 rfl rfl rfl rfl (((((((((hb22).lo hk26).lo hk38).kp hk45 (fun e' => by have e'' : g17 = g35 := e'; omega)).kp hk217 (fun e' => by have e'' : g17 = g35 := e'; omega)).kp hk223 (fun e' => by have e'' : g17 = g35 := e'; omega)).lo hk232).lo hk253).lo hk260) (Nat.le_of_ble_eq_true rfl) rfl ?_
              intro w264 hk265 hs266 hb267
              have hz268 := hk265.size
              have hB269 := hB262.new hk265 (by omega)
              have hS270 := (hS263).step hk265 (fun _ _ e => e)
              refine SR.nil ⟨hS270, _, rfl, ?_⟩
              refine AH.take 7 rfl (by kernel_rfl) trivial (hS270) (fun w' hw' => r_as (v := .bool _) rfl) <| AH.done (by kernel_rfl) ?_
              exact ⟨⟨rfl, (eDD (jat h256)), trivial⟩, hS270, (hb267)⟩
            · refine AH.s' 3 rfl (by kernel_rfl) rfl ((Kp.refl w230 : Kp (fun b_ => b_ = g17) w230 w230).lo hk253) <| AH.s' 4 rfl (by kernel_rfl) rfl ((Kp.refl w230 : Kp (fun b_ => b_ = g17) w230 w230).lo hk253) <| AH.take 5 rfl (by kernel_rfl) trivial ((Kp.refl w230 : Kp (fun b_ => b_ = g17) w230 w230).lo hk253) (fun w' hw' => r_pick false rfl (v := .bool false) rfl) <| AH.br [6] (by kernel_rfl) rfl ⟨Br.mk' rfl trivial ?_, trivial⟩
              refine SR.store (o := 0) (vs := [.int .i64 0, .int .i64 0, .slice A27 n28 c29, .int .i64 x.Dust, .int .i64 x.Laid, .int .i64 x.Given]) agg40.2 rfl rfl rfl rfl ((((((((hb22).lo hk26).lo hk38).kp hk45 (fun e' => by have e'' : g17 = g35 := e'; omega)).kp hk217 (fun e' => by have e'' : g17 = g35 := e'; omega)).kp hk223 (fun e' => by have e'' : g17 = g35 := e'; omega)).lo hk232).lo hk253) (Nat.le_of_ble_eq_true rfl) rfl ?_
              intro w272 hk273 hs274 hb275
              have hz276 := hk273.size
              have hB277 := hB255.new hk273 (by omega)
              have hS278 := ((Kp.refl w230 : Kp (fun b_ => b_ = g17) w230 w230).lo hk253).step hk273 (fun _ _ e => e)
              refine SR.nil ⟨hS278, _, rfl, ?_⟩
              refine AH.take 7 rfl (by kernel_rfl) trivial (hS278) (fun w' hw' => r_as (v := .bool _) rfl) <| AH.done (by kernel_rfl) ?_
              exact ⟨⟨rfl, (eDF (jaf h256).2), trivial⟩, hS278, (hb275)⟩
          rintro f279 w280 ⟨hat282, hR281, hm271⟩
          rw [← sets_of_at hat282]
          have hz283 := hR281.size
          have hB284 := hB234.new hR281 (by omega)
          refine W.ret ?_
          refine retCT rfl rfl agg40 (hm271) rfl (v := .bool _) rfl ?_
          exact ⟨A27, n28, c29, eR (eT2 (eA (eC (eI (by subst hl33; unfold spec_l21Make; rw [if_neg h50, if_neg h103, if_neg h156, if_pos h215] <;> rfl)) (eC (eI (by subst hl33; unfold spec_l21Make; rw [if_neg h50, if_neg h103, if_neg h156, if_pos h215] <;> rfl)) (eC rfl (eC (eI (by subst hl33; unfold spec_l21Make; rw [if_neg h50, if_neg h103, if_neg h156, if_pos h215] <;> rfl)) (eC (eI (by subst hl33; unfold spec_l21Make; rw [if_neg h50, if_neg h103, if_neg h156, if_pos h215] <;> rfl)) (eC (eI (by subst hl33; unfold spec_l21Make; rw [if_neg h50, if_neg h103, if_neg h156, if_pos h215] <;> rfl)) rfl))))))) (eB (by subst hl33; unfold spec_l21Make; rw [if_neg h50, if_neg h103, if_neg h156, if_pos h215] <;> rfl))), (SlO.eqv ((((((((hO30).lo hk38).kp hk45 (fun b_ hb e' => hd43 (by have e'' : b_ = g35 := e'; rw [← e'']; exact hb))).kp hk217 (fun b_ hb e' => hd43 (by have e'' : b_ = g35 := e'; rw [← e'']; exact hb))).kp hk223 (fun b_ hb e' => hd43 (by have e'' : b_ = g35 := e'; rw [← e'']; exact hb))).lo hk232).kp hR281 (fun b_ hb e' => by have e'' : b_ = g17 := e'; have := ((((((hO30).lo hk38).kp hk45 (fun b_ hb e' => hd43 (by have e'' : b_ = g35 := e'; rw [← e'']; exact hb))).kp hk217 (fun b_ hb e' => hd43 (by have e'' : b_ = g35 := e'; rw [← e'']; exact hb))).kp hk223 (fun b_ hb e' => hd43 (by have e'' : b_ = g35 := e'; rw [← e'']; exact hb))).lo hk232).base_le hb; omega)).down (by omega)) (by subst hl33; unfold spec_l21Make; rw [if_neg h50, if_neg h103, if_neg h156, if_pos h215] <;> rfl)), hB284⟩
        · refine W.seq ?_
          refine W.regS (SR.q' (r_eq rfl rfl) <| SR.q' (r_as (v := .bool _) rfl) <| SR.nil ?_)
          refine W.cond_d rfl (fun h285 => ?_) (fun h285 => ?_)
          · refine W.regS (SR.q' (r_lda (l := [.int .i64 x.State, .int .i64 x.Key, .slice Ax_Stack nx_Stack cx_Stack, .int .i64 x.Dust, .int .i64 x.Laid, .int .i64 x.Given]) agg40 rfl (fun _ _ hu => ((((((hb6).lo hk12).lo hk20).lo hk26).lo hk38).kp hk45 (fun e' => by have e'' : g1 = g35 := e'; omega)).cell hu) rfl) <| SR.q' (r_fa fa48_1 rfl) <| SR.q' (r_ld (v := .int .i64 s.Value) sca3 rfl ((((((hb14).lo hk20).lo hk26).lo hk38).kp hk45 (fun e' => by have e'' : g9 = g35 := e'; omega)).cell rfl)) <| SR.call ent59 (c_spec_l21Dusty w44 x ((((((((hx_Stack).lo hk4).lo hk12).lo hk20).lo hk26).lo hk38).kp hk45 (fun b_ hb e' => by have e'' : b_ = g35 := e'; omega))) s.Value (by assumption) (by omega)) rfl ?_)
            rintro e w286 ⟨A288, n289, c290, rfl, hO291, hk287⟩
            refine ⟨_, rfl, ?_⟩
            have hz292 := hk287.size
            have hB293 := hB49.lo hk287
            have hl294 := hO291.len
            have hl295 := hO291.rd.bound
            refine SR.q' (r_mv (v := .tuple (List.toArray _)) rfl) <| SR.q' (r_ext (v := .agg (List.toArray _)) rfl rfl) <| SR.q' (r_ext (v := .bool _) rfl rfl) <| SR.store (o := 0) (vs := [.int .i64 (((spec_l21Dusty x s.Value).1).State), .int .i64 (((spec_l21Dusty x s.Value).1).Key), .slice A288 n289 c290, .int .i64 (((spec_l21Dusty x s.Value).1).Dust), .int .i64 (((spec_l21Dusty x s.Value).1).Laid), .int .i64 (((spec_l21Dusty x s.Value).1).Given)]) agg40.2 rfl rfl rfl rfl ((hb47).lo hk287) (Nat.le_of_ble_eq_true rfl) rfl ?_
            intro w296 hk297 hs298 hb299
            have hz300 := hk297.size
            have hB301 := hB293.new hk297 (by omega)
            refine SR.q' (r_as (v := .bool _) rfl) <| SR.nil ?_
            refine W.seq ?_
            refine W.regA (Kp (fun b_ => b_ = g17) w296) (fun f' w' => At f' [(4, .pointer (some ((⟨g17, 0, none⟩ : Addr)))), (5, .bool (decide ((((spec_l21Dusty x s.Value).2) = true) ∧ (ChestOK ((spec_l21Dusty x s.Value).1)))))] ∧ (Kp (fun b_ => b_ = g17) w296 w') ∧ (Blk w' g17 40 [.int .i64 (((spec_l21Dusty x s.Value).1).State), .int .i64 (((spec_l21Dusty x s.Value).1).Key), .slice A288 n289 c290, .int .i64 (((spec_l21Dusty x s.Value).1).Dust), .int .i64 (((spec_l21Dusty x s.Value).1).Laid), .int .i64 (((spec_l21Dusty x s.Value).1).Given)])) mo ?_ ?_
            · intro w317 hk318
              have hz319 := hk318.size
              have hB320 := hB301.lo hk318
              refine AH.take 0 rfl (by kernel_rfl) trivial ((Kp.refl w296 : Kp (fun b_ => b_ = g17) w296 w296).lo hk318) (fun w' hw' => r_lda (l := [.int .i64 (((spec_l21Dusty x s.Value).1).State), .int .i64 (((spec_l21Dusty x s.Value).1).Key), .slice A288 n289 c290, .int .i64 (((spec_l21Dusty x s.Value).1).Dust), .int .i64 (((spec_l21Dusty x s.Value).1).Laid), .int .i64 (((spec_l21Dusty x s.Value).1).Given)]) agg40 rfl (fun _ _ hu => ((hb299).kp hw' (fun e' => by have e'' : g35 = g17 := e'; omega)).cell hu) rfl) <| AH.take 1 rfl (by kernel_rfl) trivial ((Kp.refl w296 : Kp (fun b_ => b_ = g17) w296 w296).lo hk318) (fun w' hw' => r_mv (v := .bool _) rfl) <| AH.take 2 rfl (by kernel_rfl) trivial ((Kp.refl w296 : Kp (fun b_ => b_ = g17) w296 w296).lo hk318) (fun w' hw' => r_mv (v := .bool _) rfl) <| AH.split (fun h321 => ?_) (fun h321 => ?_)
              · refine AH.take 3 rfl (by kernel_rfl) rfl ((Kp.refl w296 : Kp (fun b_ => b_ = g17) w296 w296).lo hk318) (fun w' hw' => r_lda (l := [.int .i64 (((spec_l21Dusty x s.Value).1).State), .int .i64 (((spec_l21Dusty x s.Value).1).Key), .slice A288 n289 c290, .int .i64 (((spec_l21Dusty x s.Value).1).Dust), .int .i64 (((spec_l21Dusty x s.Value).1).Laid), .int .i64 (((spec_l21Dusty x s.Value).1).Given)]) agg40 rfl (fun _ _ hu => ((hb299).kp hw' (fun e' => by have e'' : g35 = g17 := e'; omega)).cell hu) rfl) <| AH.br [4] (by kernel_rfl) rfl ⟨Br.mk' rfl rfl ?_, trivial⟩
                refine SR.gcall rfl ent57 (c_spec_l21Good w317 ((spec_l21Dusty x s.Value).1) (((((hO291).kp hk297 (fun b_ hb e' => by have e'' : b_ = g35 := e'; have := (hO291).base_le hb; omega)).lo hk318).rd))) rfl ?_
                rintro e w322 ⟨rfl, hk323⟩
                refine ⟨_, rfl, ?_⟩
                have hz324 := hk323.size
                have hB325 := hB320.lo hk323
                have hS326 := ((Kp.refl w296 : Kp (fun b_ => b_ = g17) w296 w296).lo hk318).lo hk323
                refine SR.nil ⟨hS326, _, rfl, ?_⟩
                refine AH.take 5 rfl (by kernel_rfl) trivial (hS326) (fun w' hw' => r_pick true rfl (v := .bool _) rfl) <| AH.br [6] (by kernel_rfl) rfl ⟨Br.mk' rfl trivial ?_, trivial⟩
                refine SR.store (o := 0) (vs := [.int .i64 (((spec_l21Dusty x s.Value).1).State), .int .i64 (((spec_l21Dusty x s.Value).1).Key), .slice A288 n289 c290, .int .i64 (((spec_l21Dusty x s.Value).1).Dust), .int .i64 (((spec_l21Dusty x s.Value).1).Laid), .int .i64 (((spec_l21Dusty x s.Value).1).Given)]) agg40.2 rfl rfl rfl rfl ((((((((hb22).lo hk26).lo hk38).kp hk45 (fun e' => by have e'' : g17 = g35 := e'; omega)).lo hk287).kp hk297 (fun e' => by have e'' : g17 = g35 := e'; omega)).lo hk318).lo hk323) (Nat.le_of_ble_eq_true rfl) rfl ?_
                intro w327 hk328 hs329 hb330
                have hz331 := hk328.size
                have hB332 := hB325.new hk328 (by omega)
                have hS333 := (hS326).step hk328 (fun _ _ e => e)
                refine SR.nil ⟨hS333, _, rfl, ?_⟩
                refine AH.take 7 rfl (by kernel_rfl) trivial (hS333) (fun w' hw' => r_as (v := .bool _) rfl) <| AH.done (by kernel_rfl) ?_
                exact ⟨⟨rfl, (eDD (jat h321)), trivial⟩, hS333, (hb330)⟩
              · refine AH.s' 3 rfl (by kernel_rfl) rfl ((Kp.refl w296 : Kp (fun b_ => b_ = g17) w296 w296).lo hk318) <| AH.s' 4 rfl (by kernel_rfl) rfl ((Kp.refl w296 : Kp (fun b_ => b_ = g17) w296 w296).lo hk318) <| AH.take 5 rfl (by kernel_rfl) trivial ((Kp.refl w296 : Kp (fun b_ => b_ = g17) w296 w296).lo hk318) (fun w' hw' => r_pick false rfl (v := .bool false) rfl) <| AH.br [6] (by kernel_rfl) rfl ⟨Br.mk' rfl trivial ?_, trivial⟩
                refine SR.store (o := 0) (vs := [.int .i64 (((spec_l21Dusty x s.Value).1).State), .int .i64 (((spec_l21Dusty x s.Value).1).Key), .slice A288 n289 c290, .int .i64 (((spec_l21Dusty x s.Value).1).Dust), .int .i64 (((spec_l21Dusty x s.Value).1).Laid), .int .i64 (((spec_l21Dusty x s.Value).1).Given)]) agg40.2 rfl rfl rfl rfl (((((((hb22).lo hk26).lo hk38).kp hk45 (fun e' => by have e'' : g17 = g35 := e'; omega)).lo hk287).kp hk297 (fun e' => by have e'' : g17 = g35 := e'; omega)).lo hk318) (Nat.le_of_ble_eq_true rfl) rfl ?_
                intro w335 hk336 hs337 hb338
                have hz339 := hk336.size
                have hB340 := hB320.new hk336 (by omega)
                have hS341 := ((Kp.refl w296 : Kp (fun b_ => b_ = g17) w296 w296).lo hk318).step hk336 (fun _ _ e => e)
                refine SR.nil ⟨hS341, _, rfl, ?_⟩
                refine AH.take 7 rfl (by kernel_rfl) trivial (hS341) (fun w' hw' => r_as (v := .bool _) rfl) <| AH.done (by kernel_rfl) ?_
                exact ⟨⟨rfl, (eDF (jaf (ne_true_of_eq_false h321)).2), trivial⟩, hS341, (hb338)⟩
            rintro f342 w343 ⟨hat345, hR344, hm334⟩
            rw [← sets_of_at hat345]
            have hz346 := hR344.size
            have hB347 := hB301.new hR344 (by omega)
            refine W.ret ?_
            refine retCT rfl rfl agg40 (hm334) rfl (v := .bool _) rfl ?_
            exact ⟨A288, n289, c290, eR (eT2 (eA (eC (eI (by subst hl294; unfold spec_l21Make; rw [if_neg h50, if_neg h103, if_neg h156, if_neg h215, if_pos h285] <;> rfl)) (eC (eI (by subst hl294; unfold spec_l21Make; rw [if_neg h50, if_neg h103, if_neg h156, if_neg h215, if_pos h285] <;> rfl)) (eC rfl (eC (eI (by subst hl294; unfold spec_l21Make; rw [if_neg h50, if_neg h103, if_neg h156, if_neg h215, if_pos h285] <;> rfl)) (eC (eI (by subst hl294; unfold spec_l21Make; rw [if_neg h50, if_neg h103, if_neg h156, if_neg h215, if_pos h285] <;> rfl)) (eC (eI (by subst hl294; unfold spec_l21Make; rw [if_neg h50, if_neg h103, if_neg h156, if_neg h215, if_pos h285] <;> rfl)) rfl))))))) (eB (by subst hl294; unfold spec_l21Make; rw [if_neg h50, if_neg h103, if_neg h156, if_neg h215, if_pos h285] <;> rfl))), (SlO.eqv ((((hO291).kp hk297 (fun b_ hb e' => by have e'' : b_ = g35 := e'; have := (hO291).base_le hb; omega)).kp hR344 (fun b_ hb e' => by have e'' : b_ = g17 := e'; have := ((hO291).kp hk297 (fun b_ hb e' => by have e'' : b_ = g35 := e'; have := (hO291).base_le hb; omega)).base_le hb; omega)).down (by omega)) (by subst hl294; unfold spec_l21Make; rw [if_neg h50, if_neg h103, if_neg h156, if_neg h215, if_pos h285] <;> rfl)), hB347⟩
          · refine W.regS (SR.q' (r_lda (l := [.int .i64 x.State, .int .i64 x.Key, .slice Ax_Stack nx_Stack cx_Stack, .int .i64 x.Dust, .int .i64 x.Laid, .int .i64 x.Given]) agg40 rfl (fun _ _ hu => ((((((hb6).lo hk12).lo hk20).lo hk26).lo hk38).kp hk45 (fun e' => by have e'' : g1 = g35 := e'; omega)).cell hu) rfl) <| SR.q' (r_lda (l := [.int .i64 s.Kind, .int .i64 s.Value]) agg48 rfl (fun _ _ hu => (((((hb14).lo hk20).lo hk26).lo hk38).kp hk45 (fun e' => by have e'' : g9 = g35 := e'; omega)).cell hu) rfl) <| SR.call ent128 (c_spec_l21Move w44 x ((((((((hx_Stack).lo hk4).lo hk12).lo hk20).lo hk26).lo hk38).kp hk45 (fun b_ hb e' => by have e'' : b_ = g35 := e'; omega))) s (by assumption) (by omega)) rfl ?_)
            rintro e w348 ⟨A350, n351, c352, rfl, hO353, hk349⟩
            refine ⟨_, rfl, ?_⟩
            have hz354 := hk349.size
            have hB355 := hB49.lo hk349
            have hl356 := hO353.len
            have hl357 := hO353.rd.bound
            refine SR.q' (r_mv (v := .tuple (List.toArray _)) rfl) <| SR.q' (r_ext (v := .agg (List.toArray _)) rfl rfl) <| SR.q' (r_ext (v := .bool _) rfl rfl) <| SR.store (o := 0) (vs := [.int .i64 (((spec_l21Move x s).1).State), .int .i64 (((spec_l21Move x s).1).Key), .slice A350 n351 c352, .int .i64 (((spec_l21Move x s).1).Dust), .int .i64 (((spec_l21Move x s).1).Laid), .int .i64 (((spec_l21Move x s).1).Given)]) agg40.2 rfl rfl rfl rfl ((hb47).lo hk349) (Nat.le_of_ble_eq_true rfl) rfl ?_
            intro w358 hk359 hs360 hb361
            have hz362 := hk359.size
            have hB363 := hB355.new hk359 (by omega)
            refine SR.q' (r_as (v := .bool _) rfl) <| SR.nil ?_
            refine W.seq ?_
            refine W.regA (Kp (fun b_ => b_ = g17) w358) (fun f' w' => At f' [(4, .pointer (some ((⟨g17, 0, none⟩ : Addr)))), (5, .bool (decide ((((spec_l21Move x s).2) = true) ∧ (ChestOK ((spec_l21Move x s).1)))))] ∧ (Kp (fun b_ => b_ = g17) w358 w') ∧ (Blk w' g17 40 [.int .i64 (((spec_l21Move x s).1).State), .int .i64 (((spec_l21Move x s).1).Key), .slice A350 n351 c352, .int .i64 (((spec_l21Move x s).1).Dust), .int .i64 (((spec_l21Move x s).1).Laid), .int .i64 (((spec_l21Move x s).1).Given)])) mo ?_ ?_
            · intro w379 hk380
              have hz381 := hk380.size
              have hB382 := hB363.lo hk380
              refine AH.take 0 rfl (by kernel_rfl) trivial ((Kp.refl w358 : Kp (fun b_ => b_ = g17) w358 w358).lo hk380) (fun w' hw' => r_lda (l := [.int .i64 (((spec_l21Move x s).1).State), .int .i64 (((spec_l21Move x s).1).Key), .slice A350 n351 c352, .int .i64 (((spec_l21Move x s).1).Dust), .int .i64 (((spec_l21Move x s).1).Laid), .int .i64 (((spec_l21Move x s).1).Given)]) agg40 rfl (fun _ _ hu => ((hb361).kp hw' (fun e' => by have e'' : g35 = g17 := e'; omega)).cell hu) rfl) <| AH.take 1 rfl (by kernel_rfl) trivial ((Kp.refl w358 : Kp (fun b_ => b_ = g17) w358 w358).lo hk380) (fun w' hw' => r_mv (v := .bool _) rfl) <| AH.take 2 rfl (by kernel_rfl) trivial ((Kp.refl w358 : Kp (fun b_ => b_ = g17) w358 w358).lo hk380) (fun w' hw' => r_mv (v := .bool _) rfl) <| AH.split (fun h383 => ?_) (fun h383 => ?_)
              · refine AH.take 3 rfl (by kernel_rfl) rfl ((Kp.refl w358 : Kp (fun b_ => b_ = g17) w358 w358).lo hk380) (fun w' hw' => r_lda (l := [.int .i64 (((spec_l21Move x s).1).State), .int .i64 (((spec_l21Move x s).1).Key), .slice A350 n351 c352, .int .i64 (((spec_l21Move x s).1).Dust), .int .i64 (((spec_l21Move x s).1).Laid), .int .i64 (((spec_l21Move x s).1).Given)]) agg40 rfl (fun _ _ hu => ((hb361).kp hw' (fun e' => by have e'' : g35 = g17 := e'; omega)).cell hu) rfl) <| AH.br [4] (by kernel_rfl) rfl ⟨Br.mk' rfl rfl ?_, trivial⟩
                refine SR.gcall rfl ent57 (c_spec_l21Good w379 ((spec_l21Move x s).1) (((((hO353).kp hk359 (fun b_ hb e' => by have e'' : b_ = g35 := e'; have := (hO353).base_le hb; omega)).lo hk380).rd))) rfl ?_
                rintro e w384 ⟨rfl, hk385⟩
                refine ⟨_, rfl, ?_⟩
                have hz386 := hk385.size
                have hB387 := hB382.lo hk385
                have hS388 := ((Kp.refl w358 : Kp (fun b_ => b_ = g17) w358 w358).lo hk380).lo hk385
                refine SR.nil ⟨hS388, _, rfl, ?_⟩
                refine AH.take 5 rfl (by kernel_rfl) trivial (hS388) (fun w' hw' => r_pick true rfl (v := .bool _) rfl) <| AH.br [6] (by kernel_rfl) rfl ⟨Br.mk' rfl trivial ?_, trivial⟩
                refine SR.store (o := 0) (vs := [.int .i64 (((spec_l21Move x s).1).State), .int .i64 (((spec_l21Move x s).1).Key), .slice A350 n351 c352, .int .i64 (((spec_l21Move x s).1).Dust), .int .i64 (((spec_l21Move x s).1).Laid), .int .i64 (((spec_l21Move x s).1).Given)]) agg40.2 rfl rfl rfl rfl ((((((((hb22).lo hk26).lo hk38).kp hk45 (fun e' => by have e'' : g17 = g35 := e'; omega)).lo hk349).kp hk359 (fun e' => by have e'' : g17 = g35 := e'; omega)).lo hk380).lo hk385) (Nat.le_of_ble_eq_true rfl) rfl ?_
                intro w389 hk390 hs391 hb392
                have hz393 := hk390.size
                have hB394 := hB387.new hk390 (by omega)
                have hS395 := (hS388).step hk390 (fun _ _ e => e)
                refine SR.nil ⟨hS395, _, rfl, ?_⟩
                refine AH.take 7 rfl (by kernel_rfl) trivial (hS395) (fun w' hw' => r_as (v := .bool _) rfl) <| AH.done (by kernel_rfl) ?_
                exact ⟨⟨rfl, (eDD (jat h383)), trivial⟩, hS395, (hb392)⟩
              · refine AH.s' 3 rfl (by kernel_rfl) rfl ((Kp.refl w358 : Kp (fun b_ => b_ = g17) w358 w358).lo hk380) <| AH.s' 4 rfl (by kernel_rfl) rfl ((Kp.refl w358 : Kp (fun b_ => b_ = g17) w358 w358).lo hk380) <| AH.take 5 rfl (by kernel_rfl) trivial ((Kp.refl w358 : Kp (fun b_ => b_ = g17) w358 w358).lo hk380) (fun w' hw' => r_pick false rfl (v := .bool false) rfl) <| AH.br [6] (by kernel_rfl) rfl ⟨Br.mk' rfl trivial ?_, trivial⟩
                refine SR.store (o := 0) (vs := [.int .i64 (((spec_l21Move x s).1).State), .int .i64 (((spec_l21Move x s).1).Key), .slice A350 n351 c352, .int .i64 (((spec_l21Move x s).1).Dust), .int .i64 (((spec_l21Move x s).1).Laid), .int .i64 (((spec_l21Move x s).1).Given)]) agg40.2 rfl rfl rfl rfl (((((((hb22).lo hk26).lo hk38).kp hk45 (fun e' => by have e'' : g17 = g35 := e'; omega)).lo hk349).kp hk359 (fun e' => by have e'' : g17 = g35 := e'; omega)).lo hk380) (Nat.le_of_ble_eq_true rfl) rfl ?_
                intro w397 hk398 hs399 hb400
                have hz401 := hk398.size
                have hB402 := hB382.new hk398 (by omega)
                have hS403 := ((Kp.refl w358 : Kp (fun b_ => b_ = g17) w358 w358).lo hk380).step hk398 (fun _ _ e => e)
                refine SR.nil ⟨hS403, _, rfl, ?_⟩
                refine AH.take 7 rfl (by kernel_rfl) trivial (hS403) (fun w' hw' => r_as (v := .bool _) rfl) <| AH.done (by kernel_rfl) ?_
                exact ⟨⟨rfl, (eDF (jaf (ne_true_of_eq_false h383)).2), trivial⟩, hS403, (hb400)⟩
            rintro f404 w405 ⟨hat407, hR406, hm396⟩
            rw [← sets_of_at hat407]
            have hz408 := hR406.size
            have hB409 := hB363.new hR406 (by omega)
            refine W.ret ?_
            refine retCT rfl rfl agg40 (hm396) rfl (v := .bool _) rfl ?_
            exact ⟨A350, n351, c352, eR (eT2 (eA (eC (eI (by subst hl356; unfold spec_l21Make; rw [if_neg h50, if_neg h103, if_neg h156, if_neg h215, if_neg h285] <;> rfl)) (eC (eI (by subst hl356; unfold spec_l21Make; rw [if_neg h50, if_neg h103, if_neg h156, if_neg h215, if_neg h285] <;> rfl)) (eC rfl (eC (eI (by subst hl356; unfold spec_l21Make; rw [if_neg h50, if_neg h103, if_neg h156, if_neg h215, if_neg h285] <;> rfl)) (eC (eI (by subst hl356; unfold spec_l21Make; rw [if_neg h50, if_neg h103, if_neg h156, if_neg h215, if_neg h285] <;> rfl)) (eC (eI (by subst hl356; unfold spec_l21Make; rw [if_neg h50, if_neg h103, if_neg h156, if_neg h215, if_neg h285] <;> rfl)) rfl))))))) (eB (by subst hl356; unfold spec_l21Make; rw [if_neg h50, if_neg h103, if_neg h156, if_neg h215, if_neg h285] <;> rfl))), (SlO.eqv ((((hO353).kp hk359 (fun b_ hb e' => by have e'' : b_ = g35 := e'; have := (hO353).base_le hb; omega)).kp hR406 (fun b_ hb e' => by have e'' : b_ = g17 := e'; have := ((hO353).kp hk359 (fun b_ hb e' => by have e'' : b_ = g35 := e'; have := (hO353).base_le hb; omega)).base_le hb; omega)).down (by omega)) (by subst hl356; unfold spec_l21Make; rw [if_neg h50, if_neg h103, if_neg h156, if_neg h215, if_neg h285] <;> rfl)), hB409⟩

open Classical in
noncomputable def spec_StepChest (x : Chest) (s : ChestStep) : Chest × Bool :=
  if (¬ (ChestOK x)) ∨ ((!(spec_l21Step s)) = true) then ((⟨0, 0, ([] : List Int), 0, 0, 0⟩ : Chest), false) else if (!((spec_l21Make x s).2)) = true then ((⟨0, 0, ([] : List Int), 0, 0, 0⟩ : Chest), false) else (((spec_l21Make x s).1), true)
theorem c_spec_StepChest (w : World) (x : Chest) {Ax_Stack : Option Addr} {nx_Stack cx_Stack Bx_Stack : Nat} (hx_Stack : SlR w Bx_Stack encI 1 Ax_Stack nx_Stack cx_Stack x.Stack) (s : ChestStep) : Calls Tryd.prog 96 #[.agg (List.toArray [.int .i64 x.State, .int .i64 x.Key, .slice Ax_Stack nx_Stack cx_Stack, .int .i64 x.Dust, .int .i64 x.Laid, .int .i64 x.Given]), .agg (List.toArray (encChestStep s))] w fun e w' => ∃ (A1' : Option Addr) (n1' c1' : Nat), e = .returned (.tuple (List.toArray [.agg (List.toArray [.int .i64 (((spec_StepChest x s).1).State), .int .i64 (((spec_StepChest x s).1).Key), .slice A1' n1' c1', .int .i64 (((spec_StepChest x s).1).Dust), .int .i64 (((spec_StepChest x s).1).Laid), .int .i64 (((spec_StepChest x s).1).Given)]), .bool ((spec_StepChest x s).2)])) ∧ SlO w' w.heap.size encI 1 3 A1' n1' c1' (((spec_StepChest x s).1).Stack) ∧ Lo w w' := by
  refine calls_W 27 Tryd.func96 rfl rfl rfl ?_
  have hbdx_Stack := hx_Stack.bound
  have hlex_Stack := hx_Stack.len
  have hBbx_Stack := hx_Stack.bd
  have hbdx_Stack := hx_Stack.bound
  have hlex_Stack := hx_Stack.len
  have hBbx_Stack := hx_Stack.bd
  refine W.seq ?_
  refine W.regS (SR.box (v := .agg (List.toArray _)) (l := [.int .i64 x.State, .int .i64 x.Key, .slice Ax_Stack nx_Stack cx_Stack, .int .i64 x.Dust, .int .i64 x.Laid, .int .i64 x.Given]) rfl rfl ?_)
  intro g1 w2 hg3 hk4 hs5 hb6
  have hz7 := hk4.size
  have hB8 := (Lo.refl w).lo hk4
  refine SR.box (v := .agg (List.toArray _)) (l := [.int .i64 s.Kind, .int .i64 s.Value]) rfl rfl ?_
  intro g9 w10 hg11 hk12 hs13 hb14
  have hz15 := hk12.size
  have hB16 := hB8.lo hk12
  refine SR.alloc (l := [.int .i64 0, .int .i64 0, .slice none 0 0, .int .i64 0, .int .i64 0, .int .i64 0]) tz40 rfl ?_
  intro g17 w18 hg19 hk20 hs21 hb22
  have hz23 := hk20.size
  have hB24 := hB16.lo hk20
  refine SR.q' (r_as (v := .bool false) rfl) <| SR.nil ?_
  refine W.seq ?_
  refine W.seq ?_
  refine W.regJS (fun f' w' => At f' [(2, .pointer (some ((⟨g1, 0, none⟩ : Addr)))), (3, .pointer (some ((⟨g9, 0, none⟩ : Addr)))), (4, .pointer (some ((⟨g17, 0, none⟩ : Addr)))), (5, .bool false), (15, .bool (decide ((¬ (ChestOK x)) ∨ ((!(spec_l21Step s)) = true))))] ∧ Lo w18 w') ?_ ?_
  · refine SR.q' (r_lda (l := [.int .i64 x.State, .int .i64 x.Key, .slice Ax_Stack nx_Stack cx_Stack, .int .i64 x.Dust, .int .i64 x.Laid, .int .i64 x.Given]) agg40 rfl (fun _ _ hu => (((hb6).lo hk12).lo hk20).cell hu) rfl) <| SR.call ent57 (c_spec_l21Good w18 x (((((hx_Stack).lo hk4).lo hk12).lo hk20))) rfl ?_
    rintro e w25 ⟨rfl, hk26⟩
    refine ⟨_, rfl, ?_⟩
    have hz27 := hk26.size
    have hB28 := hB24.lo hk26
    refine SR.q' (r_not rfl) <| SR.q' (r_mv (v := .bool _) rfl) <| SR.splitN (fun h29 => ?_) (fun h29 => ?_)
    · refine SR.s' rfl <| SR.s' rfl <| SR.s' rfl <| SR.q' (r_pick true rfl (v := .bool true) rfl) <| SR.nil ?_
      exact ⟨_, rfl, ⟨⟨rfl, rfl, rfl, rfl, (eDT ((jmf h29).1 trivial)), trivial⟩, (hk26)⟩⟩
    · have hq30 := chest_len h29
      have hq31 := chest_rng h29
      refine SR.g' rfl (r_lda (l := [.int .i64 s.Kind, .int .i64 s.Value]) agg48 rfl (fun _ _ hu => (((hb14).lo hk20).lo hk26).cell hu) rfl) <| SR.gcall rfl ent116 (c_spec_l21Step w25 s) rfl ?_
      rintro e w32 ⟨rfl, hk33⟩
      refine ⟨_, rfl, ?_⟩
      have hz34 := hk33.size
      have hB35 := hB28.lo hk33
      refine SR.g' rfl (r_not rfl) <| SR.q' (r_pick false rfl (v := .bool _) rfl) <| SR.nil ?_
      exact ⟨_, rfl, ⟨⟨rfl, rfl, rfl, rfl, (eBD (jmt h29)), trivial⟩, ((hk26).trans hk33)⟩⟩
  rintro f36 w37 ⟨hat38, hk39⟩
  rw [← sets_of_at hat38]
  have hz40 := hk39.size
  have hB41 := hB24.lo hk39
  refine W.cond_d rfl (fun h42 => ?_) (fun h42 => ?_)
  · refine W.seq ?_
    refine W.regS (SR.q' (r_build (vs := []) rfl (bld40_)) <| SR.store (o := 0) (vs := [.int .i64 0, .int .i64 0, .slice none 0 0, .int .i64 0, .int .i64 0, .int .i64 0]) agg40.2 rfl rfl rfl rfl ((hb22).lo hk39) (Nat.le_of_ble_eq_true rfl) rfl ?_)
    intro w43 hk44 hs45 hb46
    have hz47 := hk44.size
    have hB48 := hB41.new hk44 (by omega)
    refine SR.q' (r_as (v := .bool false) rfl) <| SR.nil ?_
    refine W.ret ?_
    refine retCT rfl rfl agg40 (hb46) rfl (v := .bool _) rfl ?_
    exact ⟨none, 0, 0, eR (eT2 (eA (eC (eI (by unfold spec_StepChest; rw [if_pos h42] <;> rfl)) (eC (eI (by unfold spec_StepChest; rw [if_pos h42] <;> rfl)) (eC rfl (eC (eI (by unfold spec_StepChest; rw [if_pos h42] <;> rfl)) (eC (eI (by unfold spec_StepChest; rw [if_pos h42] <;> rfl)) (eC (eI (by unfold spec_StepChest; rw [if_pos h42] <;> rfl)) rfl))))))) (eB (by unfold spec_StepChest; rw [if_pos h42] <;> rfl))), (SlO.eqv (SlO.nil (e := 3) (enc := encI) (fun _ => rfl) (by omega)) (by unfold spec_StepChest; rw [if_pos h42] <;> rfl)), hB48⟩
  · have hq49 : ChestOK x := (Classical.not_not.1 (not_or.1 h42).1)
    have hq50 : ¬ ((!(spec_l21Step s)) = true) := (not_or.1 h42).2
    have hq51 := chest_len hq49
    have hq52 := chest_rng hq49
    have hq53 := bnot_n hq50
    have hq54 := cstep_rng' hq53
    refine W.skip ?_
    refine W.seq ?_
    refine W.regS (SR.q' (r_lda (l := [.int .i64 x.State, .int .i64 x.Key, .slice Ax_Stack nx_Stack cx_Stack, .int .i64 x.Dust, .int .i64 x.Laid, .int .i64 x.Given]) agg40 rfl (fun _ _ hu => ((((hb6).lo hk12).lo hk20).lo hk39).cell hu) rfl) <| SR.q' (r_lda (l := [.int .i64 s.Kind, .int .i64 s.Value]) agg48 rfl (fun _ _ hu => (((hb14).lo hk20).lo hk39).cell hu) rfl) <| SR.call ent117 (c_spec_l21Make w37 x ((((((hx_Stack).lo hk4).lo hk12).lo hk20).lo hk39)) s (by assumption) (by omega) (by omega)) rfl ?_)
    rintro e w55 ⟨A57, n58, c59, rfl, hO60, hk56⟩
    refine ⟨_, rfl, ?_⟩
    have hz61 := hk56.size
    have hB62 := hB41.lo hk56
    have hl63 := hO60.len
    have hl64 := hO60.rd.bound
    refine SR.q' (r_mv (v := .tuple (List.toArray _)) rfl) <| SR.q' (r_ext (v := .agg (List.toArray _)) rfl rfl) <| SR.q' (r_ext (v := .bool _) rfl rfl) <| SR.alloc (l := [.int .i64 0, .int .i64 0, .slice none 0 0, .int .i64 0, .int .i64 0, .int .i64 0]) tz40 rfl ?_
    intro g65 w66 hg67 hk68 hs69 hb70
    have hz71 := hk68.size
    have hB72 := hB62.lo hk68
    have hd73 : ¬ A57 = some ⟨g65, 0, none⟩ := fun e' => by have := (hO60).base_le e'; omega
    refine SR.store (o := 0) (vs := [.int .i64 (((spec_l21Make x s).1).State), .int .i64 (((spec_l21Make x s).1).Key), .slice A57 n58 c59, .int .i64 (((spec_l21Make x s).1).Dust), .int .i64 (((spec_l21Make x s).1).Laid), .int .i64 (((spec_l21Make x s).1).Given)]) agg40.2 rfl rfl rfl rfl (hb70) (Nat.le_of_ble_eq_true rfl) rfl ?_
    intro w74 hk75 hs76 hb77
    have hz78 := hk75.size
    have hB79 := hB72.new hk75 (by omega)
    refine SR.q' (r_as (v := .bool _) rfl) <| SR.nil ?_
    refine W.seq ?_
    refine W.seq ?_
    refine W.regS (SR.q' (r_mv (v := .bool _) rfl) <| SR.q' (r_not rfl) <| SR.nil ?_)
    refine W.cond_b rfl (fun h80 => ?_) (fun h80 => ?_)
    · have hq81 := bnot_t h80
      refine W.seq ?_
      refine W.regS (SR.q' (r_build (vs := []) rfl (bld40_)) <| SR.store (o := 0) (vs := [.int .i64 0, .int .i64 0, .slice none 0 0, .int .i64 0, .int .i64 0, .int .i64 0]) agg40.2 rfl rfl rfl rfl (((((hb22).lo hk39).lo hk56).lo hk68).kp hk75 (fun e' => by have e'' : g17 = g65 := e'; omega)) (Nat.le_of_ble_eq_true rfl) rfl ?_)
      intro w82 hk83 hs84 hb85
      have hz86 := hk83.size
      have hB87 := hB79.new hk83 (by omega)
      refine SR.q' (r_as (v := .bool false) rfl) <| SR.nil ?_
      refine W.ret ?_
      refine retCT rfl rfl agg40 (hb85) rfl (v := .bool _) rfl ?_
      exact ⟨none, 0, 0, eR (eT2 (eA (eC (eI (by unfold spec_StepChest; rw [if_neg h42, if_pos h80] <;> rfl)) (eC (eI (by unfold spec_StepChest; rw [if_neg h42, if_pos h80] <;> rfl)) (eC rfl (eC (eI (by unfold spec_StepChest; rw [if_neg h42, if_pos h80] <;> rfl)) (eC (eI (by unfold spec_StepChest; rw [if_neg h42, if_pos h80] <;> rfl)) (eC (eI (by unfold spec_StepChest; rw [if_neg h42, if_pos h80] <;> rfl)) rfl))))))) (eB (by unfold spec_StepChest; rw [if_neg h42, if_pos h80] <;> rfl))), (SlO.eqv (SlO.nil (e := 3) (enc := encI) (fun _ => rfl) (by omega)) (by unfold spec_StepChest; rw [if_neg h42, if_pos h80] <;> rfl)), hB87⟩
    · have hq88 := bnot_f h80
      refine W.skip ?_
      refine W.seq ?_
      refine W.regS (SR.q' (r_lda (l := [.int .i64 (((spec_l21Make x s).1).State), .int .i64 (((spec_l21Make x s).1).Key), .slice A57 n58 c59, .int .i64 (((spec_l21Make x s).1).Dust), .int .i64 (((spec_l21Make x s).1).Laid), .int .i64 (((spec_l21Make x s).1).Given)]) agg40 rfl (fun _ _ hu => (hb77).cell hu) rfl) <| SR.store (o := 0) (vs := [.int .i64 (((spec_l21Make x s).1).State), .int .i64 (((spec_l21Make x s).1).Key), .slice A57 n58 c59, .int .i64 (((spec_l21Make x s).1).Dust), .int .i64 (((spec_l21Make x s).1).Laid), .int .i64 (((spec_l21Make x s).1).Given)]) agg40.2 rfl rfl rfl rfl (((((hb22).lo hk39).lo hk56).lo hk68).kp hk75 (fun e' => by have e'' : g17 = g65 := e'; omega)) (Nat.le_of_ble_eq_true rfl) rfl ?_)
      intro w89 hk90 hs91 hb92
      have hz93 := hk90.size
      have hB94 := hB79.new hk90 (by omega)
      refine SR.q' (r_as (v := .bool true) rfl) <| SR.nil ?_
      refine W.ret ?_
      refine retCT rfl rfl agg40 (hb92) rfl (v := .bool _) rfl ?_
      exact ⟨A57, n58, c59, eR (eT2 (eA (eC (eI (by subst hl63; unfold spec_StepChest; rw [if_neg h42, if_neg (ne_true_of_eq_false h80)] <;> rfl)) (eC (eI (by subst hl63; unfold spec_StepChest; rw [if_neg h42, if_neg (ne_true_of_eq_false h80)] <;> rfl)) (eC rfl (eC (eI (by subst hl63; unfold spec_StepChest; rw [if_neg h42, if_neg (ne_true_of_eq_false h80)] <;> rfl)) (eC (eI (by subst hl63; unfold spec_StepChest; rw [if_neg h42, if_neg (ne_true_of_eq_false h80)] <;> rfl)) (eC (eI (by subst hl63; unfold spec_StepChest; rw [if_neg h42, if_neg (ne_true_of_eq_false h80)] <;> rfl)) rfl))))))) (eB (by subst hl63; unfold spec_StepChest; rw [if_neg h42, if_neg (ne_true_of_eq_false h80)] <;> rfl))), (SlO.eqv (((((hO60).lo hk68).kp hk75 (fun b_ hb e' => hd73 (by have e'' : b_ = g65 := e'; rw [← e'']; exact hb))).kp hk90 (fun b_ hb e' => by have e'' : b_ = g17 := e'; have := (((hO60).lo hk68).kp hk75 (fun b_ hb e' => hd73 (by have e'' : b_ = g65 := e'; rw [← e'']; exact hb))).base_le hb; omega)).down (by omega)) (by subst hl63; unfold spec_StepChest; rw [if_neg h42, if_neg (ne_true_of_eq_false h80)] <;> rfl)), hB94⟩
end Go.Proofs.YtlpapeeaghmjpaaDoor
