/- Walks, printed by a program of this claim's author. -/
import Derived.Test.YtlpapeeaghmjpaaDoorChecked
import Derived.Test.YtlpapeeaghmjpaaDoorSd
import Derived.Test.YtlpapeeaghmjpaaDoorFu
import Derived.Test.YtlpapeeaghmjpaaDoorFs
import Derived.Test.YtlpapeeaghmjpaaDoorFq
import Derived.Test.YtlpapeeaghmjpaaDoorFo
import Derived.Test.YtlpapeeaghmjpaaDoorSe
import Derived.Test.YtlpapeeaghmjpaaDoorG29m
namespace Go.Proofs.YtlpapeeaghmjpaaDoor
open Go Go.RowKit Fw
set_option maxRecDepth 10000
set_option linter.unusedVariables false
theorem agg60 : TAgg Tryd.prog 60 2 := ⟨fun _ => by kernel_rfl, fun _ => by kernel_rfl⟩
theorem bld57_ : Tryd.prog.built 57 [] = some (List.toArray [.int .i64 0, .slice none 0 0, .int .i64 0, .int .i64 0, .int .i64 0]) := by kernel_rfl
theorem ent107 : Ent Tryd.prog 107 := ent_of Tryd.func107 (by decide +kernel) rfl
theorem ent108 : Ent Tryd.prog 108 := ent_of Tryd.func108 (by decide +kernel) rfl
theorem ent109 : Ent Tryd.prog 109 := ent_of Tryd.func109 (by decide +kernel) rfl
theorem ent126 : Ent Tryd.prog 126 := ent_of Tryd.func126 (by decide +kernel) rfl
theorem ent39 : Ent Tryd.prog 39 := ent_of Tryd.func39 (by decide +kernel) rfl
theorem ent70 : Ent Tryd.prog 70 := ent_of Tryd.func70 (by decide +kernel) rfl

open Classical in
noncomputable def impl_ScanJob_after (x : ScanJob) (s : ScanStep) : ScanJob :=
  if s.Kind = 1 then (⟨1, x.Tiles, x.Next, x.Fails, x.Size⟩ : ScanJob) else if s.Kind = 2 then (⟨x.State, x.Tiles.set x.Next.toNat s.Value, x.Next + 1, 0, x.Size + (10 * s.Value)⟩ : ScanJob) else if s.Kind = 3 then (if (x.Fails + 1) = 3 then (⟨2, x.Tiles, x.Next, x.Fails + 1, x.Size⟩ : ScanJob) else (⟨x.State, x.Tiles, x.Next, x.Fails + 1, x.Size⟩ : ScanJob)) else if s.Kind = 4 then (⟨2, x.Tiles, x.Next, x.Fails, x.Size⟩ : ScanJob) else if s.Kind = 5 then (goN x s.Value) else (⟨3, x.Tiles, x.Next, x.Fails, x.Size⟩ : ScanJob)
theorem c__impl_ScanJob__after (w : World) (x : ScanJob) {Ax_Tiles : Option Addr} {nx_Tiles cx_Tiles Bx_Tiles : Nat} (hx_Tiles : SlR w Bx_Tiles encI 1 Ax_Tiles nx_Tiles cx_Tiles x.Tiles) (s : ScanStep) (hp0 : JobOK x) (hp1 : impl_ScanJob_isReady x s = true) (hp2 : 0 ≤ s.Value ∧ s.Value ≤ 100) : Calls Tryd.prog 109 #[.agg (List.toArray [.int .i64 x.State, .slice Ax_Tiles nx_Tiles cx_Tiles, .int .i64 x.Next, .int .i64 x.Fails, .int .i64 x.Size]), .agg (List.toArray (encScanStep s))] w fun e w' => ∃ (A1' : Option Addr) (n1' c1' : Nat), e = .returned (.agg (List.toArray [.int .i64 ((impl_ScanJob_after x s).State), .slice A1' n1' c1', .int .i64 ((impl_ScanJob_after x s).Next), .int .i64 ((impl_ScanJob_after x s).Fails), .int .i64 ((impl_ScanJob_after x s).Size)])) ∧ SlO w' w.heap.size encI 1 3 A1' n1' c1' ((impl_ScanJob_after x s).Tiles) ∧ Lo w w' := by
  refine calls_W 54 Tryd.func109 rfl rfl rfl ?_
  have hbdx_Tiles := hx_Tiles.bound
  have hlex_Tiles := hx_Tiles.len
  have hBbx_Tiles := hx_Tiles.bd
  have hbdx_Tiles := hx_Tiles.bound
  have hlex_Tiles := hx_Tiles.len
  have hBbx_Tiles := hx_Tiles.bd
  have hrg := job_rng hp0
  have hrd := ready_rng hp1
  refine W.seq ?_
  refine W.regS (SR.box (v := .agg (List.toArray _)) (l := [.int .i64 x.State, .slice Ax_Tiles nx_Tiles cx_Tiles, .int .i64 x.Next, .int .i64 x.Fails, .int .i64 x.Size]) rfl rfl ?_)
  intro g1 w2 hg3 hk4 hs5 hb6
  have hz7 := hk4.size
  have hB8 := (Lo.refl w).lo hk4
  refine SR.box (v := .agg (List.toArray _)) (l := [.int .i64 s.Kind, .int .i64 s.Value]) rfl rfl ?_
  intro g9 w10 hg11 hk12 hs13 hb14
  have hz15 := hk12.size
  have hB16 := hB8.lo hk12
  refine SR.alloc (l := [.int .i64 0, .slice none 0 0, .int .i64 0, .int .i64 0, .int .i64 0]) tz57 rfl ?_
  intro g17 w18 hg19 hk20 hs21 hb22
  have hz23 := hk20.size
  have hB24 := hB16.lo hk20
  refine SR.nil ?_
  refine W.seq ?_
  refine W.regS (SR.q' (r_lda (l := [.int .i64 x.State, .slice Ax_Tiles nx_Tiles cx_Tiles, .int .i64 x.Next, .int .i64 x.Fails, .int .i64 x.Size]) agg57 rfl (fun _ _ hu => (((hb6).lo hk12).lo hk20).cell hu) rfl) <| SR.call ent70 (c__impl_ScanJob__own w18 x (((((hx_Tiles).lo hk4).lo hk12).lo hk20)) (by omega)) rfl ?_)
  rintro e w25 ⟨A27, n28, c29, rfl, hO30, hk26⟩
  refine ⟨_, rfl, ?_⟩
  have hz31 := hk26.size
  have hB32 := hB24.lo hk26
  have hl33 := hO30.len
  have hl34 := hO30.rd.bound
  refine SR.store (o := 0) (vs := [.int .i64 x.State, .slice A27 n28 c29, .int .i64 x.Next, .int .i64 x.Fails, .int .i64 x.Size]) agg57.2 rfl rfl rfl rfl ((((hb6).lo hk12).lo hk20).lo hk26) (Nat.le_of_ble_eq_true rfl) rfl ?_
  intro w35 hk36 hs37 hb38
  have hz39 := hk36.size
  have hB40 := hB32.new hk36 (by omega)
  refine SR.nil ?_
  refine W.seq ?_
  refine W.seq ?_
  refine W.regS (SR.q' (r_fa fa60_0 rfl) <| SR.q' (r_ld (v := .int .i64 s.Kind) sca3 rfl (((((hb14).lo hk20).lo hk26).kp hk36 (fun e' => by have e'' : g9 = g1 := e'; omega)).cell rfl)) <| SR.nil ?_)
  refine W.block ?_
  refine W.seq ?_
  refine W.regS (SR.q' (r_eq rfl rfl) <| SR.q' (r_as (v := .bool _) rfl) <| SR.nil ?_)
  refine W.cond_d rfl (fun h41 => ?_) (fun h41 => ?_)
  · refine W.regS (SR.q' (r_fa fa57_0 rfl) <| SR.store (o := 0) (vs := [.int .i64 1]) sca3.2 rfl rfl rfl rfl (hb38) (Nat.le_of_ble_eq_true rfl) rfl ?_)
    intro w42 hk43 hs44 hb45
    have hz46 := hk43.size
    have hB47 := hB40.new hk43 (by omega)
    refine SR.nil ?_
    refine W.seq ?_
    refine W.regS (SR.q' (r_lda (l := [.int .i64 1, .slice A27 n28 c29, .int .i64 x.Next, .int .i64 x.Fails, .int .i64 x.Size]) agg57 rfl (fun _ _ hu => (hb45).cell hu) rfl) <| SR.store (o := 0) (vs := [.int .i64 1, .slice A27 n28 c29, .int .i64 x.Next, .int .i64 x.Fails, .int .i64 x.Size]) agg57.2 rfl rfl rfl rfl ((((hb22).lo hk26).kp hk36 (fun e' => by have e'' : g17 = g1 := e'; omega)).kp hk43 (fun e' => by have e'' : g17 = g1 := e'; omega)) (Nat.le_of_ble_eq_true rfl) rfl ?_)
    intro w48 hk49 hs50 hb51
    have hz52 := hk49.size
    have hB53 := hB47.new hk49 (by omega)
    refine SR.nil ?_
    refine W.ret ?_
    refine retC rfl rfl agg57 (hb51) rfl ?_
    exact ⟨A27, n28, c29, eR (eA (eC (eI (by subst hl33; unfold impl_ScanJob_after; rw [if_pos h41] <;> rfl)) (eC rfl (eC (eI (by subst hl33; unfold impl_ScanJob_after; rw [if_pos h41] <;> rfl)) (eC (eI (by subst hl33; unfold impl_ScanJob_after; rw [if_pos h41] <;> rfl)) (eC (eI (by subst hl33; unfold impl_ScanJob_after; rw [if_pos h41] <;> rfl)) rfl)))))), (SlO.eqv (((((hO30).kp hk36 (fun b_ hb e' => by have e'' : b_ = g1 := e'; have := (hO30).base_le hb; omega)).kp hk43 (fun b_ hb e' => by have e'' : b_ = g1 := e'; have := ((hO30).kp hk36 (fun b_ hb e' => by have e'' : b_ = g1 := e'; have := (hO30).base_le hb; omega)).base_le hb; omega)).kp hk49 (fun b_ hb e' => by have e'' : b_ = g17 := e'; have := (((hO30).kp hk36 (fun b_ hb e' => by have e'' : b_ = g1 := e'; have := (hO30).base_le hb; omega)).kp hk43 (fun b_ hb e' => by have e'' : b_ = g1 := e'; have := ((hO30).kp hk36 (fun b_ hb e' => by have e'' : b_ = g1 := e'; have := (hO30).base_le hb; omega)).base_le hb; omega)).base_le hb; omega)).down (by omega)) (by subst hl33; unfold impl_ScanJob_after; rw [if_pos h41] <;> rfl)), hB53⟩
  · refine W.seq ?_
    refine W.regS (SR.q' (r_eq rfl rfl) <| SR.q' (r_as (v := .bool _) rfl) <| SR.nil ?_)
    refine W.cond_d rfl (fun h54 => ?_) (fun h54 => ?_)
    · refine W.seq ?_
      refine W.regS (SR.q' (r_fa fa57_1 rfl) <| SR.q' (r_ld (v := .slice A27 n28 c29) sca38 rfl ((hb38).cell rfl)) <| SR.q' (r_fa fa57_2 rfl) <| SR.q' (r_ld (v := .int .i64 x.Next) sca3 rfl ((hb38).cell rfl)) <| SR.q' (r_fa fa60_1 rfl) <| SR.q' (r_ld (v := .int .i64 s.Value) sca3 rfl (((((hb14).lo hk20).lo hk26).kp hk36 (fun e' => by have e'' : g9 = g1 := e'; omega)).cell rfl)) <| ?_)
      have hx56 := (((hO30).kp hk36 (fun b_ hb e' => by have e'' : b_ = g1 := e'; have := (hO30).base_le hb; omega)).rd).elem (i := x.Next.toNat) (by omega)
      refine SR.q' (r_ixR tsl38 (((hO30).kp hk36 (fun b_ hb e' => by have e'' : b_ = g1 := e'; have := (hO30).base_le hb; omega)).rd) rfl rfl (by omega)) <| SR.storeO (o := 0) (vs := [.int .i64 s.Value]) (x1 := s.Value) sca3.2 rfl rfl rfl rfl ((hO30).kp hk36 (fun b_ hb e' => by have e'' : b_ = g1 := e'; have := (hO30).base_le hb; omega)) hx56 rfl (Nat.le_of_ble_eq_true rfl) rfl ?_
      intro w57 hk58 hs59 hO60
      have hz61 := hk58.size
      have hB62 := hB40.step hk58 (fun i_ hi_ e' => by have := (((hO30).kp hk36 (fun b_ hb e' => by have e'' : b_ = g1 := e'; have := (hO30).base_le hb; omega))).base_le e'; first | omega | (exfalso; omega) | exact e' | exact .inl e' | exact .inr e')
      have hx63 : (x.Tiles.set x.Next.toNat s.Value)[x.Next.toNat]? = some (s.Value) := List.getElem?_set_self (List.getElem?_eq_some_iff.1 hx56).1
      refine SR.nil ?_
      refine W.seq ?_
      refine W.regS (SR.q' (r_fa fa57_2 rfl) <| SR.q' (r_ld (v := .int .i64 x.Next) sca3 rfl (((hb38).kp hk58 (fun e' => by have := (((hO30).kp hk36 (fun b_ hb e' => by have e'' : b_ = g1 := e'; have := (hO30).base_le hb; omega))).base_le e'; omega)).cell rfl)) <| SR.q' (r_add rfl rfl (by omega)) <| SR.q' (r_fa fa57_2 rfl) <| SR.store (o := 2) (vs := [.int .i64 (x.Next + 1)]) sca3.2 rfl rfl rfl rfl ((hb38).kp hk58 (fun e' => by have := (((hO30).kp hk36 (fun b_ hb e' => by have e'' : b_ = g1 := e'; have := (hO30).base_le hb; omega))).base_le e'; omega)) (Nat.le_of_ble_eq_true rfl) rfl ?_)
      intro w64 hk65 hs66 hb67
      have hz68 := hk65.size
      have hB69 := hB62.new hk65 (by omega)
      refine SR.nil ?_
      refine W.seq ?_
      refine W.regS (SR.q' (r_fa fa57_4 rfl) <| SR.q' (r_ld (v := .int .i64 x.Size) sca3 rfl ((hb67).cell rfl)) <| SR.q' (r_fa fa60_1 rfl) <| SR.q' (r_ld (v := .int .i64 s.Value) sca3 rfl (((((((hb14).lo hk20).lo hk26).kp hk36 (fun e' => by have e'' : g9 = g1 := e'; omega)).kp hk58 (fun e' => by have := (((hO30).kp hk36 (fun b_ hb e' => by have e'' : b_ = g1 := e'; have := (hO30).base_le hb; omega))).base_le e'; omega)).kp hk65 (fun e' => by have e'' : g9 = g1 := e'; omega)).cell rfl)) <| SR.q' (r_mul rfl rfl (by omega)) <| SR.q' (r_add rfl rfl (by omega)) <| SR.q' (r_fa fa57_4 rfl) <| SR.store (o := 4) (vs := [.int .i64 (x.Size + (10 * s.Value))]) sca3.2 rfl rfl rfl rfl (hb67) (Nat.le_of_ble_eq_true rfl) rfl ?_)
      intro w70 hk71 hs72 hb73
      have hz74 := hk71.size
      have hB75 := hB69.new hk71 (by omega)
      refine SR.nil ?_
      refine W.regS (SR.q' (r_fa fa57_3 rfl) <| SR.store (o := 3) (vs := [.int .i64 0]) sca3.2 rfl rfl rfl rfl (hb73) (Nat.le_of_ble_eq_true rfl) rfl ?_)
      intro w76 hk77 hs78 hb79
      have hz80 := hk77.size
      have hB81 := hB75.new hk77 (by omega)
      refine SR.nil ?_
      refine W.seq ?_
      refine W.regS (SR.q' (r_lda (l := [.int .i64 x.State, .slice A27 n28 c29, .int .i64 (x.Next + 1), .int .i64 0, .int .i64 (x.Size + (10 * s.Value))]) agg57 rfl (fun _ _ hu => (hb79).cell hu) rfl) <| SR.store (o := 0) (vs := [.int .i64 x.State, .slice A27 n28 c29, .int .i64 (x.Next + 1), .int .i64 0, .int .i64 (x.Size + (10 * s.Value))]) agg57.2 rfl rfl rfl rfl (((((((hb22).lo hk26).kp hk36 (fun e' => by have e'' : g17 = g1 := e'; omega)).kp hk58 (fun e' => by have := (((hO30).kp hk36 (fun b_ hb e' => by have e'' : b_ = g1 := e'; have := (hO30).base_le hb; omega))).base_le e'; omega)).kp hk65 (fun e' => by have e'' : g17 = g1 := e'; omega)).kp hk71 (fun e' => by have e'' : g17 = g1 := e'; omega)).kp hk77 (fun e' => by have e'' : g17 = g1 := e'; omega)) (Nat.le_of_ble_eq_true rfl) rfl ?_)
      intro w82 hk83 hs84 hb85
      have hz86 := hk83.size
      have hB87 := hB81.new hk83 (by omega)
      refine SR.nil ?_
      refine W.ret ?_
      refine retC rfl rfl agg57 (hb85) rfl ?_
      exact ⟨A27, n28, c29, eR (eA (eC (eI (by subst hl33; unfold impl_ScanJob_after; rw [if_neg h41, if_pos h54] <;> rfl)) (eC rfl (eC (eI (by subst hl33; unfold impl_ScanJob_after; rw [if_neg h41, if_pos h54] <;> rfl)) (eC (eI (by subst hl33; unfold impl_ScanJob_after; rw [if_neg h41, if_pos h54] <;> rfl)) (eC (eI (by subst hl33; unfold impl_ScanJob_after; rw [if_neg h41, if_pos h54] <;> rfl)) rfl)))))), (SlO.eqv ((((((hO60).kp hk65 (fun b_ hb e' => by have e'' : b_ = g1 := e'; have := (hO60).base_le hb; omega)).kp hk71 (fun b_ hb e' => by have e'' : b_ = g1 := e'; have := ((hO60).kp hk65 (fun b_ hb e' => by have e'' : b_ = g1 := e'; have := (hO60).base_le hb; omega)).base_le hb; omega)).kp hk77 (fun b_ hb e' => by have e'' : b_ = g1 := e'; have := (((hO60).kp hk65 (fun b_ hb e' => by have e'' : b_ = g1 := e'; have := (hO60).base_le hb; omega)).kp hk71 (fun b_ hb e' => by have e'' : b_ = g1 := e'; have := ((hO60).kp hk65 (fun b_ hb e' => by have e'' : b_ = g1 := e'; have := (hO60).base_le hb; omega)).base_le hb; omega)).base_le hb; omega)).kp hk83 (fun b_ hb e' => by have e'' : b_ = g17 := e'; have := ((((hO60).kp hk65 (fun b_ hb e' => by have e'' : b_ = g1 := e'; have := (hO60).base_le hb; omega)).kp hk71 (fun b_ hb e' => by have e'' : b_ = g1 := e'; have := ((hO60).kp hk65 (fun b_ hb e' => by have e'' : b_ = g1 := e'; have := (hO60).base_le hb; omega)).base_le hb; omega)).kp hk77 (fun b_ hb e' => by have e'' : b_ = g1 := e'; have := (((hO60).kp hk65 (fun b_ hb e' => by have e'' : b_ = g1 := e'; have := (hO60).base_le hb; omega)).kp hk71 (fun b_ hb e' => by have e'' : b_ = g1 := e'; have := ((hO60).kp hk65 (fun b_ hb e' => by have e'' : b_ = g1 := e'; have := (hO60).base_le hb; omega)).base_le hb; omega)).base_le hb; omega)).base_le hb; omega)).down (by omega)) (by subst hl33; unfold impl_ScanJob_after; rw [if_neg h41, if_pos h54] <;> rfl)), hB87⟩
    · refine W.seq ?_
      refine W.regS (SR.q' (r_eq rfl rfl) <| SR.q' (r_as (v := .bool _) rfl) <| SR.nil ?_)
      refine W.cond_d rfl (fun h88 => ?_) (fun h88 => ?_)
      · refine W.seq ?_
        refine W.regS (SR.q' (r_fa fa57_3 rfl) <| SR.q' (r_ld (v := .int .i64 x.Fails) sca3 rfl ((hb38).cell rfl)) <| SR.q' (r_add rfl rfl (by omega)) <| SR.q' (r_fa fa57_3 rfl) <| SR.store (o := 3) (vs := [.int .i64 (x.Fails + 1)]) sca3.2 rfl rfl rfl rfl (hb38) (Nat.le_of_ble_eq_true rfl) rfl ?_)
        intro w89 hk90 hs91 hb92
        have hz93 := hk90.size
        have hB94 := hB40.new hk90 (by omega)
        refine SR.nil ?_
        refine W.seq ?_
        refine W.regS (SR.q' (r_fa fa57_3 rfl) <| SR.q' (r_ld (v := .int .i64 (x.Fails + 1)) sca3 rfl ((hb92).cell rfl)) <| SR.q' (r_eq rfl rfl) <| SR.nil ?_)
        refine W.cond_d rfl (fun h95 => ?_) (fun h95 => ?_)
        · refine W.regS (SR.q' (r_fa fa57_0 rfl) <| SR.store (o := 0) (vs := [.int .i64 2]) sca3.2 rfl rfl rfl rfl (hb92) (Nat.le_of_ble_eq_true rfl) rfl ?_)
          intro w96 hk97 hs98 hb99
          have hz100 := hk97.size
          have hB101 := hB94.new hk97 (by omega)
          refine SR.nil ?_
          refine W.seq ?_
          refine W.regS (SR.q' (r_lda (l := [.int .i64 2, .slice A27 n28 c29, .int .i64 x.Next, .int .i64 (x.Fails + 1), .int .i64 x.Size]) agg57 rfl (fun _ _ hu => (hb99).cell hu) rfl) <| SR.store (o := 0) (vs := [.int .i64 2, .slice A27 n28 c29, .int .i64 x.Next, .int .i64 (x.Fails + 1), .int .i64 x.Size]) agg57.2 rfl rfl rfl rfl (((((hb22).lo hk26).kp hk36 (fun e' => by have e'' : g17 = g1 := e'; omega)).kp hk90 (fun e' => by have e'' : g17 = g1 := e'; omega)).kp hk97 (fun e' => by have e'' : g17 = g1 := e'; omega)) (Nat.le_of_ble_eq_true rfl) rfl ?_)
          intro w102 hk103 hs104 hb105
          have hz106 := hk103.size
          have hB107 := hB101.new hk103 (by omega)
          refine SR.nil ?_
          refine W.ret ?_
          refine retC rfl rfl agg57 (hb105) rfl ?_
          exact ⟨A27, n28, c29, eR (eA (eC (eI (by subst hl33; unfold impl_ScanJob_after; rw [if_neg h41, if_neg h54, if_pos h88, if_pos h95] <;> rfl)) (eC rfl (eC (eI (by subst hl33; unfold impl_ScanJob_after; rw [if_neg h41, if_neg h54, if_pos h88, if_pos h95] <;> rfl)) (eC (eI (by subst hl33; unfold impl_ScanJob_after; rw [if_neg h41, if_neg h54, if_pos h88, if_pos h95] <;> rfl)) (eC (eI (by subst hl33; unfold impl_ScanJob_after; rw [if_neg h41, if_neg h54, if_pos h88, if_pos h95] <;> rfl)) rfl)))))), (SlO.eqv ((((((hO30).kp hk36 (fun b_ hb e' => by have e'' : b_ = g1 := e'; have := (hO30).base_le hb; omega)).kp hk90 (fun b_ hb e' => by have e'' : b_ = g1 := e'; have := ((hO30).kp hk36 (fun b_ hb e' => by have e'' : b_ = g1 := e'; have := (hO30).base_le hb; omega)).base_le hb; omega)).kp hk97 (fun b_ hb e' => by have e'' : b_ = g1 := e'; have := (((hO30).kp hk36 (fun b_ hb e' => by have e'' : b_ = g1 := e'; have := (hO30).base_le hb; omega)).kp hk90 (fun b_ hb e' => by have e'' : b_ = g1 := e'; have := ((hO30).kp hk36 (fun b_ hb e' => by have e'' : b_ = g1 := e'; have := (hO30).base_le hb; omega)).base_le hb; omega)).base_le hb; omega)).kp hk103 (fun b_ hb e' => by have e'' : b_ = g17 := e'; have := ((((hO30).kp hk36 (fun b_ hb e' => by have e'' : b_ = g1 := e'; have := (hO30).base_le hb; omega)).kp hk90 (fun b_ hb e' => by have e'' : b_ = g1 := e'; have := ((hO30).kp hk36 (fun b_ hb e' => by have e'' : b_ = g1 := e'; have := (hO30).base_le hb; omega)).base_le hb; omega)).kp hk97 (fun b_ hb e' => by have e'' : b_ = g1 := e'; have := (((hO30).kp hk36 (fun b_ hb e' => by have e'' : b_ = g1 := e'; have := (hO30).base_le hb; omega)).kp hk90 (fun b_ hb e' => by have e'' : b_ = g1 := e'; have := ((hO30).kp hk36 (fun b_ hb e' => by have e'' : b_ = g1 := e'; have := (hO30).base_le hb; omega)).base_le hb; omega)).base_le hb; omega)).base_le hb; omega)).down (by omega)) (by subst hl33; unfold impl_ScanJob_after; rw [if_neg h41, if_neg h54, if_pos h88, if_pos h95] <;> rfl)), hB107⟩
        · refine W.skip ?_
          refine W.seq ?_
          refine W.regS (SR.q' (r_lda (l := [.int .i64 x.State, .slice A27 n28 c29, .int .i64 x.Next, .int .i64 (x.Fails + 1), .int .i64 x.Size]) agg57 rfl (fun _ _ hu => (hb92).cell hu) rfl) <| SR.store (o := 0) (vs := [.int .i64 x.State, .slice A27 n28 c29, .int .i64 x.Next, .int .i64 (x.Fails + 1), .int .i64 x.Size]) agg57.2 rfl rfl rfl rfl ((((hb22).lo hk26).kp hk36 (fun e' => by have e'' : g17 = g1 := e'; omega)).kp hk90 (fun e' => by have e'' : g17 = g1 := e'; omega)) (Nat.le_of_ble_eq_true rfl) rfl ?_)
          intro w108 hk109 hs110 hb111
          have hz112 := hk109.size
          have hB113 := hB94.new hk109 (by omega)
          refine SR.nil ?_
          refine W.ret ?_
          refine retC rfl rfl agg57 (hb111) rfl ?_
          exact ⟨A27, n28, c29, eR (eA (eC (eI (by subst hl33; unfold impl_ScanJob_after; rw [if_neg h41, if_neg h54, if_pos h88, if_neg h95] <;> rfl)) (eC rfl (eC (eI (by subst hl33; unfold impl_ScanJob_after; rw [if_neg h41, if_neg h54, if_pos h88, if_neg h95] <;> rfl)) (eC (eI (by subst hl33; unfold impl_ScanJob_after; rw [if_neg h41, if_neg h54, if_pos h88, if_neg h95] <;> rfl)) (eC (eI (by subst hl33; unfold impl_ScanJob_after; rw [if_neg h41, if_neg h54, if_pos h88, if_neg h95] <;> rfl)) rfl)))))), (SlO.eqv (((((hO30).kp hk36 (fun b_ hb e' => by have e'' : b_ = g1 := e'; have := (hO30).base_le hb; omega)).kp hk90 (fun b_ hb e' => by have e'' : b_ = g1 := e'; have := ((hO30).kp hk36 (fun b_ hb e' => by have e'' : b_ = g1 := e'; have := (hO30).base_le hb; omega)).base_le hb; omega)).kp hk109 (fun b_ hb e' => by have e'' : b_ = g17 := e'; have := (((hO30).kp hk36 (fun b_ hb e' => by have e'' : b_ = g1 := e'; have := (hO30).base_le hb; omega)).kp hk90 (fun b_ hb e' => by have e'' : b_ = g1 := e'; have := ((hO30).kp hk36 (fun b_ hb e' => by have e'' : b_ = g1 := e'; have := (hO30).base_le hb; omega)).base_le hb; omega)).base_le hb; omega)).down (by omega)) (by subst hl33; unfold impl_ScanJob_after; rw [if_neg h41, if_neg h54, if_pos h88, if_neg h95] <;> rfl)), hB113⟩
      · refine W.seq ?_
        refine W.regS (SR.q' (r_eq rfl rfl) <| SR.q' (r_as (v := .bool _) rfl) <| SR.nil ?_)
        refine W.cond_d rfl (fun h114 => ?_) (fun h114 => ?_)
        · refine W.regS (SR.q' (r_fa fa57_0 rfl) <| SR.store (o := 0) (vs := [.int .i64 2]) sca3.2 rfl rfl rfl rfl (hb38) (Nat.le_of_ble_eq_true rfl) rfl ?_)
          intro w115 hk116 hs117 hb118
          have hz119 := hk116.size
          have hB120 := hB40.new hk116 (by omega)
          refine SR.nil ?_
          refine W.seq ?_
          refine W.regS (SR.q' (r_lda (l := [.int .i64 2, .slice A27 n28 c29, .int .i64 x.Next, .int .i64 x.Fails, .int .i64 x.Size]) agg57 rfl (fun _ _ hu => (hb118).cell hu) rfl) <| SR.store (o := 0) (vs := [.int .i64 2, .slice A27 n28 c29, .int .i64 x.Next, .int .i64 x.Fails, .int .i64 x.Size]) agg57.2 rfl rfl rfl rfl ((((hb22).lo hk26).kp hk36 (fun e' => by have e'' : g17 = g1 := e'; omega)).kp hk116 (fun e' => by have e'' : g17 = g1 := e'; omega)) (Nat.le_of_ble_eq_true rfl) rfl ?_)
          intro w121 hk122 hs123 hb124
          have hz125 := hk122.size
          have hB126 := hB120.new hk122 (by omega)
          refine SR.nil ?_
          refine W.ret ?_
          refine retC rfl rfl agg57 (hb124) rfl ?_
          exact ⟨A27, n28, c29, eR (eA (eC (eI (by subst hl33; unfold impl_ScanJob_after; rw [if_neg h41, if_neg h54, if_neg h88, if_pos h114] <;> rfl)) (eC rfl (eC (eI (by subst hl33; unfold impl_ScanJob_after; rw [if_neg h41, if_neg h54, if_neg h88, if_pos h114] <;> rfl)) (eC (eI (by subst hl33; unfold impl_ScanJob_after; rw [if_neg h41, if_neg h54, if_neg h88, if_pos h114] <;> rfl)) (eC (eI (by subst hl33; unfold impl_ScanJob_after; rw [if_neg h41, if_neg h54, if_neg h88, if_pos h114] <;> rfl)) rfl)))))), (SlO.eqv (((((hO30).kp hk36 (fun b_ hb e' => by have e'' : b_ = g1 := e'; have := (hO30).base_le hb; omega)).kp hk116 (fun b_ hb e' => by have e'' : b_ = g1 := e'; have := ((hO30).kp hk36 (fun b_ hb e' => by have e'' : b_ = g1 := e'; have := (hO30).base_le hb; omega)).base_le hb; omega)).kp hk122 (fun b_ hb e' => by have e'' : b_ = g17 := e'; have := (((hO30).kp hk36 (fun b_ hb e' => by have e'' : b_ = g1 := e'; have := (hO30).base_le hb; omega)).kp hk116 (fun b_ hb e' => by have e'' : b_ = g1 := e'; have := ((hO30).kp hk36 (fun b_ hb e' => by have e'' : b_ = g1 := e'; have := (hO30).base_le hb; omega)).base_le hb; omega)).base_le hb; omega)).down (by omega)) (by subst hl33; unfold impl_ScanJob_after; rw [if_neg h41, if_neg h54, if_neg h88, if_pos h114] <;> rfl)), hB126⟩
        · refine W.seq ?_
          refine W.regS (SR.q' (r_eq rfl rfl) <| SR.q' (r_as (v := .bool _) rfl) <| SR.nil ?_)
          refine W.cond_d rfl (fun h127 => ?_) (fun h127 => ?_)
          · refine W.seq ?_
            refine W.regS (SR.q' (r_lda (l := [.int .i64 x.State, .slice A27 n28 c29, .int .i64 x.Next, .int .i64 x.Fails, .int .i64 x.Size]) agg57 rfl (fun _ _ hu => (hb38).cell hu) rfl) <| SR.q' (r_fa fa60_1 rfl) <| SR.q' (r_ld (v := .int .i64 s.Value) sca3 rfl (((((hb14).lo hk20).lo hk26).kp hk36 (fun e' => by have e'' : g9 = g1 := e'; omega)).cell rfl)) <| SR.call ent126 (c__impl_ScanJob__goOn w35 x ((hO30).kp hk36 (fun b_ hb e' => by have e'' : b_ = g1 := e'; have := (hO30).base_le hb; omega)) s.Value (by assumption) (by first | assumption | omega)) rfl ?_)
            rintro e w128 ⟨A130, n131, c132, rfl, hO133, hN134, hk129⟩
            refine ⟨_, rfl, ?_⟩
            have hz135 := hk129.size
            have hB136 := hB40.step hk129 (fun i_ hi_ e' => by have := (((hO30).kp hk36 (fun b_ hb e' => by have e'' : b_ = g1 := e'; have := (hO30).base_le hb; omega))).base_le e'; first | omega | (exfalso; omega) | exact e' | exact .inl e' | exact .inr e')
            have hd137 : ¬ A130 = some ⟨g1, 0, none⟩ := fun e' => (hN134 g1 e').elim (fun h => (by have := ((hO30).kp hk36 (fun b_ hb e' => by have e'' : b_ = g1 := e'; have := (hO30).base_le hb; omega)).base_le h; omega)) (fun h => by have := (hb38).lt; omega)
            have hd138 : ¬ A130 = some ⟨g9, 0, none⟩ := fun e' => (hN134 g9 e').elim (fun h => (by have := ((hO30).kp hk36 (fun b_ hb e' => by have e'' : b_ = g1 := e'; have := (hO30).base_le hb; omega)).base_le h; omega)) (fun h => by have := ((((hb14).lo hk20).lo hk26).kp hk36 (fun e' => by have e'' : g9 = g1 := e'; omega)).lt; omega)
            have hd139 : ¬ A130 = some ⟨g17, 0, none⟩ := fun e' => (hN134 g17 e').elim (fun h => (by have := ((hO30).kp hk36 (fun b_ hb e' => by have e'' : b_ = g1 := e'; have := (hO30).base_le hb; omega)).base_le h; omega)) (fun h => by have := (((hb22).lo hk26).kp hk36 (fun e' => by have e'' : g17 = g1 := e'; omega)).lt; omega)
            have hl140 := hO133.len
            have hl141 := hO133.rd.bound
            refine SR.store (o := 0) (vs := [.int .i64 ((goN x s.Value).State), .slice A130 n131 c132, .int .i64 ((goN x s.Value).Next), .int .i64 ((goN x s.Value).Fails), .int .i64 ((goN x s.Value).Size)]) agg57.2 rfl rfl rfl rfl ((((hb22).lo hk26).kp hk36 (fun e' => by have e'' : g17 = g1 := e'; omega)).kp hk129 (fun e' => by have := (((hO30).kp hk36 (fun b_ hb e' => by have e'' : b_ = g1 := e'; have := (hO30).base_le hb; omega))).base_le e'; omega)) (Nat.le_of_ble_eq_true rfl) rfl ?_
            intro w142 hk143 hs144 hb145
            have hz146 := hk143.size
            have hB147 := hB136.new hk143 (by omega)
            refine SR.nil ?_
            refine W.ret ?_
            refine retC rfl rfl agg57 (hb145) rfl ?_
            exact ⟨A130, n131, c132, eR (eA (eC (eI (by subst hl140; unfold impl_ScanJob_after; rw [if_neg h41, if_neg h54, if_neg h88, if_neg h114, if_pos h127] <;> rfl)) (eC rfl (eC (eI (by subst hl140; unfold impl_ScanJob_after; rw [if_neg h41, if_neg h54, if_neg h88, if_neg h114, if_pos h127] <;> rfl)) (eC (eI (by subst hl140; unfold impl_ScanJob_after; rw [if_neg h41, if_neg h54, if_neg h88, if_neg h114, if_pos h127] <;> rfl)) (eC (eI (by subst hl140; unfold impl_ScanJob_after; rw [if_neg h41, if_neg h54, if_neg h88, if_neg h114, if_pos h127] <;> rfl)) rfl)))))), (SlO.eqv (((hO133).kp hk143 (fun b_ hb e' => hd139 (by have e'' : b_ = g17 := e'; rw [← e'']; exact hb))).down (by omega)) (by subst hl140; unfold impl_ScanJob_after; rw [if_neg h41, if_neg h54, if_neg h88, if_neg h114, if_pos h127] <;> rfl)), hB147⟩
          · refine W.regS (SR.q' (r_fa fa57_0 rfl) <| SR.store (o := 0) (vs := [.int .i64 3]) sca3.2 rfl rfl rfl rfl (hb38) (Nat.le_of_ble_eq_true rfl) rfl ?_)
            intro w148 hk149 hs150 hb151
            have hz152 := hk149.size
            have hB153 := hB40.new hk149 (by omega)
            refine SR.nil ?_
            refine W.seq ?_
            refine W.regS (SR.q' (r_lda (l := [.int .i64 3, .slice A27 n28 c29, .int .i64 x.Next, .int .i64 x.Fails, .int .i64 x.Size]) agg57 rfl (fun _ _ hu => (hb151).cell hu) rfl) <| SR.store (o := 0) (vs := [.int .i64 3, .slice A27 n28 c29, .int .i64 x.Next, .int .i64 x.Fails, .int .i64 x.Size]) agg57.2 rfl rfl rfl rfl ((((hb22).lo hk26).kp hk36 (fun e' => by have e'' : g17 = g1 := e'; omega)).kp hk149 (fun e' => by have e'' : g17 = g1 := e'; omega)) (Nat.le_of_ble_eq_true rfl) rfl ?_)
            intro w154 hk155 hs156 hb157
            have hz158 := hk155.size
            have hB159 := hB153.new hk155 (by omega)
            refine SR.nil ?_
            refine W.ret ?_
            refine retC rfl rfl agg57 (hb157) rfl ?_
            exact ⟨A27, n28, c29, eR (eA (eC (eI (by subst hl33; unfold impl_ScanJob_after; rw [if_neg h41, if_neg h54, if_neg h88, if_neg h114, if_neg h127] <;> rfl)) (eC rfl (eC (eI (by subst hl33; unfold impl_ScanJob_after; rw [if_neg h41, if_neg h54, if_neg h88, if_neg h114, if_neg h127] <;> rfl)) (eC (eI (by subst hl33; unfold impl_ScanJob_after; rw [if_neg h41, if_neg h54, if_neg h88, if_neg h114, if_neg h127] <;> rfl)) (eC (eI (by subst hl33; unfold impl_ScanJob_after; rw [if_neg h41, if_neg h54, if_neg h88, if_neg h114, if_neg h127] <;> rfl)) rfl)))))), (SlO.eqv (((((hO30).kp hk36 (fun b_ hb e' => by have e'' : b_ = g1 := e'; have := (hO30).base_le hb; omega)).kp hk149 (fun b_ hb e' => by have e'' : b_ = g1 := e'; have := ((hO30).kp hk36 (fun b_ hb e' => by have e'' : b_ = g1 := e'; have := (hO30).base_le hb; omega)).base_le hb; omega)).kp hk155 (fun b_ hb e' => by have e'' : b_ = g17 := e'; have := (((hO30).kp hk36 (fun b_ hb e' => by have e'' : b_ = g1 := e'; have := (hO30).base_le hb; omega)).kp hk149 (fun b_ hb e' => by have e'' : b_ = g1 := e'; have := ((hO30).kp hk36 (fun b_ hb e' => by have e'' : b_ = g1 := e'; have := (hO30).base_le hb; omega)).base_le hb; omega)).base_le hb; omega)).down (by omega)) (by subst hl33; unfold impl_ScanJob_after; rw [if_neg h41, if_neg h54, if_neg h88, if_neg h114, if_neg h127] <;> rfl)), hB159⟩

open Classical in
noncomputable def impl_ScanJob_stepped (x : ScanJob) (s : ScanStep) : ScanJob × Bool :=
  if (!(impl_isScanStep s)) = true then ((⟨0, ([] : List Int), 0, 0, 0⟩ : ScanJob), false) else if (!(impl_ScanJob_isReady x s)) = true then ((⟨0, ([] : List Int), 0, 0, 0⟩ : ScanJob), false) else if JobOK (impl_ScanJob_after x s) then ((impl_ScanJob_after x s), true) else ((⟨0, ([] : List Int), 0, 0, 0⟩ : ScanJob), false)
theorem c__impl_ScanJob__stepped (w : World) (x : ScanJob) {Ax_Tiles : Option Addr} {nx_Tiles cx_Tiles Bx_Tiles : Nat} (hx_Tiles : SlR w Bx_Tiles encI 1 Ax_Tiles nx_Tiles cx_Tiles x.Tiles) (s : ScanStep) (hp0 : JobOK x) : Calls Tryd.prog 71 #[.agg (List.toArray [.int .i64 x.State, .slice Ax_Tiles nx_Tiles cx_Tiles, .int .i64 x.Next, .int .i64 x.Fails, .int .i64 x.Size]), .agg (List.toArray (encScanStep s))] w fun e w' => ∃ (A1' : Option Addr) (n1' c1' : Nat), e = .returned (.tuple (List.toArray [.agg (List.toArray [.int .i64 (((impl_ScanJob_stepped x s).1).State), .slice A1' n1' c1', .int .i64 (((impl_ScanJob_stepped x s).1).Next), .int .i64 (((impl_ScanJob_stepped x s).1).Fails), .int .i64 (((impl_ScanJob_stepped x s).1).Size)]), .bool ((impl_ScanJob_stepped x s).2)])) ∧ SlO w' w.heap.size encI 1 3 A1' n1' c1' (((impl_ScanJob_stepped x s).1).Tiles) ∧ Lo w w' := by
  refine calls_W 26 Tryd.func71 rfl rfl rfl ?_
  have hbdx_Tiles := hx_Tiles.bound
  have hlex_Tiles := hx_Tiles.len
  have hBbx_Tiles := hx_Tiles.bd
  have hbdx_Tiles := hx_Tiles.bound
  have hlex_Tiles := hx_Tiles.len
  have hBbx_Tiles := hx_Tiles.bd
  have hrg := job_rng hp0
  refine W.seq ?_
  refine W.regS (SR.box (v := .agg (List.toArray _)) (l := [.int .i64 x.State, .slice Ax_Tiles nx_Tiles cx_Tiles, .int .i64 x.Next, .int .i64 x.Fails, .int .i64 x.Size]) rfl rfl ?_)
  intro g1 w2 hg3 hk4 hs5 hb6
  have hz7 := hk4.size
  have hB8 := (Lo.refl w).lo hk4
  refine SR.box (v := .agg (List.toArray _)) (l := [.int .i64 s.Kind, .int .i64 s.Value]) rfl rfl ?_
  intro g9 w10 hg11 hk12 hs13 hb14
  have hz15 := hk12.size
  have hB16 := hB8.lo hk12
  refine SR.alloc (l := [.int .i64 0, .slice none 0 0, .int .i64 0, .int .i64 0, .int .i64 0]) tz57 rfl ?_
  intro g17 w18 hg19 hk20 hs21 hb22
  have hz23 := hk20.size
  have hB24 := hB16.lo hk20
  refine SR.q' (r_as (v := .bool false) rfl) <| SR.nil ?_
  refine W.seq ?_
  refine W.seq ?_
  refine W.regS (SR.q' (r_lda (l := [.int .i64 s.Kind, .int .i64 s.Value]) agg60 rfl (fun _ _ hu => ((hb14).lo hk20).cell hu) rfl) <| SR.call ent107 (c_impl_isScanStep w18 s) rfl ?_)
  rintro e w25 ⟨rfl, hk26⟩
  refine ⟨_, rfl, ?_⟩
  have hz27 := hk26.size
  have hB28 := hB24.lo hk26
  refine SR.q' (r_not rfl) <| SR.q' (r_mv (v := .bool _) rfl) <| SR.split (fun h29 => ?_) (fun h29 => ?_)
  · have hq30 := bnot_t h29
    refine SR.s' rfl <| SR.s' rfl <| SR.s' rfl <| SR.s' rfl <| SR.q' (r_pick true rfl (v := .bool true) rfl) <| SR.q' (r_mv (v := .bool _) rfl) <| SR.s' rfl <| SR.s' rfl <| SR.s' rfl <| SR.s' rfl <| SR.s' rfl <| SR.q' (r_pick true rfl (v := .bool true) rfl) <| SR.nil ?_
    refine W.cond_t rfl ?_
    refine W.seq ?_
    refine W.regS (SR.q' (r_build (vs := []) rfl (bld57_)) <| SR.store (o := 0) (vs := [.int .i64 0, .slice none 0 0, .int .i64 0, .int .i64 0, .int .i64 0]) agg57.2 rfl rfl rfl rfl ((hb22).lo hk26) (Nat.le_of_ble_eq_true rfl) rfl ?_)
    intro w31 hk32 hs33 hb34
    have hz35 := hk32.size
    have hB36 := hB28.new hk32 (by omega)
    refine SR.q' (r_as (v := .bool false) rfl) <| SR.nil ?_
    refine W.ret ?_
    refine retCT rfl rfl agg57 (hb34) rfl (v := .bool _) rfl ?_
    exact ⟨none, 0, 0, eR (eT2 (eA (eC (eI (by unfold impl_ScanJob_stepped; rw [if_pos h29] <;> rfl)) (eC rfl (eC (eI (by unfold impl_ScanJob_stepped; rw [if_pos h29] <;> rfl)) (eC (eI (by unfold impl_ScanJob_stepped; rw [if_pos h29] <;> rfl)) (eC (eI (by unfold impl_ScanJob_stepped; rw [if_pos h29] <;> rfl)) rfl)))))) (eB (by unfold impl_ScanJob_stepped; rw [if_pos h29] <;> rfl))), (SlO.eqv (SlO.nil (e := 3) (enc := encI) (fun _ => rfl) (by omega)) (by unfold impl_ScanJob_stepped; rw [if_pos h29] <;> rfl)), hB36⟩
  · have hq37 := bnot_f h29
    have hq38 := sstep_rng hq37
    refine SR.g' rfl (r_lda (l := [.int .i64 x.State, .slice Ax_Tiles nx_Tiles cx_Tiles, .int .i64 x.Next, .int .i64 x.Fails, .int .i64 x.Size]) agg57 rfl (fun _ _ hu => ((((hb6).lo hk12).lo hk20).lo hk26).cell hu) rfl) <| SR.g' rfl (r_lda (l := [.int .i64 s.Kind, .int .i64 s.Value]) agg60 rfl (fun _ _ hu => (((hb14).lo hk20).lo hk26).cell hu) rfl) <| SR.gcall rfl ent108 (c__impl_ScanJob__isReady w25 x ((((((hx_Tiles).lo hk4).lo hk12).lo hk20).lo hk26)) s (by assumption)) rfl ?_
    rintro e w39 ⟨rfl, hk40⟩
    refine ⟨_, rfl, ?_⟩
    have hz41 := hk40.size
    have hB42 := hB28.lo hk40
    refine SR.g' rfl (r_not rfl) <| SR.q' (r_pick false rfl (v := .bool _) rfl) <| SR.q' (r_mv (v := .bool _) rfl) <| SR.split (fun h43 => ?_) (fun h43 => ?_)
    · have hq44 := bnot_t h43
      refine SR.s' rfl <| SR.s' rfl <| SR.s' rfl <| SR.s' rfl <| SR.s' rfl <| SR.q' (r_pick true rfl (v := .bool true) rfl) <| SR.nil ?_
      refine W.cond_t rfl ?_
      refine W.seq ?_
      refine W.regS (SR.q' (r_build (vs := []) rfl (bld57_)) <| SR.store (o := 0) (vs := [.int .i64 0, .slice none 0 0, .int .i64 0, .int .i64 0, .int .i64 0]) agg57.2 rfl rfl rfl rfl (((hb22).lo hk26).lo hk40) (Nat.le_of_ble_eq_true rfl) rfl ?_)
      intro w45 hk46 hs47 hb48
      have hz49 := hk46.size
      have hB50 := hB42.new hk46 (by omega)
      refine SR.q' (r_as (v := .bool false) rfl) <| SR.nil ?_
      refine W.ret ?_
      refine retCT rfl rfl agg57 (hb48) rfl (v := .bool _) rfl ?_
      exact ⟨none, 0, 0, eR (eT2 (eA (eC (eI (by unfold impl_ScanJob_stepped; rw [if_neg (ne_true_of_eq_false h29), if_pos h43] <;> rfl)) (eC rfl (eC (eI (by unfold impl_ScanJob_stepped; rw [if_neg (ne_true_of_eq_false h29), if_pos h43] <;> rfl)) (eC (eI (by unfold impl_ScanJob_stepped; rw [if_neg (ne_true_of_eq_false h29), if_pos h43] <;> rfl)) (eC (eI (by unfold impl_ScanJob_stepped; rw [if_neg (ne_true_of_eq_false h29), if_pos h43] <;> rfl)) rfl)))))) (eB (by unfold impl_ScanJob_stepped; rw [if_neg (ne_true_of_eq_false h29), if_pos h43] <;> rfl))), (SlO.eqv (SlO.nil (e := 3) (enc := encI) (fun _ => rfl) (by omega)) (by unfold impl_ScanJob_stepped; rw [if_neg (ne_true_of_eq_false h29), if_pos h43] <;> rfl)), hB50⟩
    · have hq51 := bnot_f h43
      refine SR.g' rfl (r_lda (l := [.int .i64 x.State, .slice Ax_Tiles nx_Tiles cx_Tiles, .int .i64 x.Next, .int .i64 x.Fails, .int .i64 x.Size]) agg57 rfl (fun _ _ hu => (((((hb6).lo hk12).lo hk20).lo hk26).lo hk40).cell hu) rfl) <| SR.g' rfl (r_lda (l := [.int .i64 s.Kind, .int .i64 s.Value]) agg60 rfl (fun _ _ hu => ((((hb14).lo hk20).lo hk26).lo hk40).cell hu) rfl) <| SR.gcall rfl ent109 (c__impl_ScanJob__after w39 x (((((((hx_Tiles).lo hk4).lo hk12).lo hk20).lo hk26).lo hk40)) s (by assumption) (by assumption) (by omega)) rfl ?_
      rintro e w52 ⟨A54, n55, c56, rfl, hO57, hk53⟩
      refine ⟨_, rfl, ?_⟩
      have hz58 := hk53.size
      have hB59 := hB42.lo hk53
      have hl60 := hO57.len
      have hl61 := hO57.rd.bound
      refine SR.gcall rfl ent39 (c_impl_IsScanJob w52 (impl_ScanJob_after x s) (((hO57).rd))) rfl ?_
      rintro e w62 ⟨rfl, hk63⟩
      refine ⟨_, rfl, ?_⟩
      have hz64 := hk63.size
      have hB65 := hB59.lo hk63
      refine SR.g' rfl (r_not rfl) <| SR.q' (r_pick false rfl (v := .bool _) rfl) <| SR.nil ?_
      refine W.cond_n rfl (fun h66 => ?_) (fun h66 => ?_)
      · refine W.seq ?_
        refine W.regS (SR.q' (r_build (vs := []) rfl (bld57_)) <| SR.store (o := 0) (vs := [.int .i64 0, .slice none 0 0, .int .i64 0, .int .i64 0, .int .i64 0]) agg57.2 rfl rfl rfl rfl (((((hb22).lo hk26).lo hk40).lo hk53).lo hk63) (Nat.le_of_ble_eq_true rfl) rfl ?_)
        intro w67 hk68 hs69 hb70
        have hz71 := hk68.size
        have hB72 := hB65.new hk68 (by omega)
        refine SR.q' (r_as (v := .bool false) rfl) <| SR.nil ?_
        refine W.ret ?_
        refine retCT rfl rfl agg57 (hb70) rfl (v := .bool _) rfl ?_
        exact ⟨none, 0, 0, eR (eT2 (eA (eC (eI (by unfold impl_ScanJob_stepped; rw [if_neg (ne_true_of_eq_false h29), if_neg (ne_true_of_eq_false h43), if_neg h66] <;> rfl)) (eC rfl (eC (eI (by unfold impl_ScanJob_stepped; rw [if_neg (ne_true_of_eq_false h29), if_neg (ne_true_of_eq_false h43), if_neg h66] <;> rfl)) (eC (eI (by unfold impl_ScanJob_stepped; rw [if_neg (ne_true_of_eq_false h29), if_neg (ne_true_of_eq_false h43), if_neg h66] <;> rfl)) (eC (eI (by unfold impl_ScanJob_stepped; rw [if_neg (ne_true_of_eq_false h29), if_neg (ne_true_of_eq_false h43), if_neg h66] <;> rfl)) rfl)))))) (eB (by unfold impl_ScanJob_stepped; rw [if_neg (ne_true_of_eq_false h29), if_neg (ne_true_of_eq_false h43), if_neg h66] <;> rfl))), (SlO.eqv (SlO.nil (e := 3) (enc := encI) (fun _ => rfl) (by omega)) (by unfold impl_ScanJob_stepped; rw [if_neg (ne_true_of_eq_false h29), if_neg (ne_true_of_eq_false h43), if_neg h66] <;> rfl)), hB72⟩
      · refine W.skip ?_
        refine W.seq ?_
        refine W.regS (SR.q' (r_lda (l := [.int .i64 x.State, .slice Ax_Tiles nx_Tiles cx_Tiles, .int .i64 x.Next, .int .i64 x.Fails, .int .i64 x.Size]) agg57 rfl (fun _ _ hu => (((((((hb6).lo hk12).lo hk20).lo hk26).lo hk40).lo hk53).lo hk63).cell hu) rfl) <| SR.q' (r_lda (l := [.int .i64 s.Kind, .int .i64 s.Value]) agg60 rfl (fun _ _ hu => ((((((hb14).lo hk20).lo hk26).lo hk40).lo hk53).lo hk63).cell hu) rfl) <| SR.call ent109 (c__impl_ScanJob__after w62 x (((((((((hx_Tiles).lo hk4).lo hk12).lo hk20).lo hk26).lo hk40).lo hk53).lo hk63)) s (by assumption) (by assumption) (by omega)) rfl ?_)
        rintro e w73 ⟨A75, n76, c77, rfl, hO78, hk74⟩
        refine ⟨_, rfl, ?_⟩
        have hz79 := hk74.size
        have hB80 := hB65.lo hk74
        have hl81 := hO78.len
        have hl82 := hO78.rd.bound
        refine SR.store (o := 0) (vs := [.int .i64 ((impl_ScanJob_after x s).State), .slice A75 n76 c77, .int .i64 ((impl_ScanJob_after x s).Next), .int .i64 ((impl_ScanJob_after x s).Fails), .int .i64 ((impl_ScanJob_after x s).Size)]) agg57.2 rfl rfl rfl rfl ((((((hb22).lo hk26).lo hk40).lo hk53).lo hk63).lo hk74) (Nat.le_of_ble_eq_true rfl) rfl ?_
        intro w83 hk84 hs85 hb86
        have hz87 := hk84.size
        have hB88 := hB80.new hk84 (by omega)
        refine SR.q' (r_as (v := .bool true) rfl) <| SR.nil ?_
        refine W.ret ?_
        refine retCT rfl rfl agg57 (hb86) rfl (v := .bool _) rfl ?_
        exact ⟨A75, n76, c77, eR (eT2 (eA (eC (eI (by subst hl81; unfold impl_ScanJob_stepped; rw [if_neg (ne_true_of_eq_false h29), if_neg (ne_true_of_eq_false h43), if_pos h66] <;> rfl)) (eC rfl (eC (eI (by subst hl81; unfold impl_ScanJob_stepped; rw [if_neg (ne_true_of_eq_false h29), if_neg (ne_true_of_eq_false h43), if_pos h66] <;> rfl)) (eC (eI (by subst hl81; unfold impl_ScanJob_stepped; rw [if_neg (ne_true_of_eq_false h29), if_neg (ne_true_of_eq_false h43), if_pos h66] <;> rfl)) (eC (eI (by subst hl81; unfold impl_ScanJob_stepped; rw [if_neg (ne_true_of_eq_false h29), if_neg (ne_true_of_eq_false h43), if_pos h66] <;> rfl)) rfl)))))) (eB (by subst hl81; unfold impl_ScanJob_stepped; rw [if_neg (ne_true_of_eq_false h29), if_neg (ne_true_of_eq_false h43), if_pos h66] <;> rfl))), (SlO.eqv (((hO78).kp hk84 (fun b_ hb e' => by have e'' : b_ = g17 := e'; have := (hO78).base_le hb; omega)).down (by omega)) (by subst hl81; unfold impl_ScanJob_stepped; rw [if_neg (ne_true_of_eq_false h29), if_neg (ne_true_of_eq_false h43), if_pos h66] <;> rfl)), hB88⟩
end Go.Proofs.YtlpapeeaghmjpaaDoor
