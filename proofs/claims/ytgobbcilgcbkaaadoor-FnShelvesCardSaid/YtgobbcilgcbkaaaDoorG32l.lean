/- Walks, printed by a program of this claim's author. -/
import Derived.Test.YtgobbcilgcbkaaaDoorChecked
import Derived.Test.YtgobbcilgcbkaaaDoorUa
import Derived.Test.YtgobbcilgcbkaaaDoorFu
import Derived.Test.YtgobbcilgcbkaaaDoorFs
import Derived.Test.YtgobbcilgcbkaaaDoorFq
import Derived.Test.YtgobbcilgcbkaaaDoorFo
import Derived.Test.YtgobbcilgcbkaaaDoorDa
import Derived.Test.YtgobbcilgcbkaaaDoorUe
import Derived.Test.YtgobbcilgcbkaaaDoorG32k
namespace Go.Proofs.YtgobbcilgcbkaaaDoor
open Go Go.RowKit Fw
set_option maxRecDepth 10000
set_option maxHeartbeats 2000000
set_option linter.unusedVariables false
theorem bld48_0_1 (a0 : Int) (a1 : Int) : Tryd.prog.built 48 [(0, .int .i64 a0), (1, .int .i64 a1)] = some (List.toArray [.int .i64 a0, .int .i64 a1, .int .i64 0]) := by kernel_rfl
theorem bld57_0_1 (a0 : Int) (a1 : Int) : Tryd.prog.built 57 [(0, .int .i64 a0), (1, .int .i64 a1)] = some (List.toArray [.int .i64 a0, .int .i64 a1]) := by kernel_rfl
theorem ent62 : Ent Tryd.prog 62 := ent_of Tryd.func62 (by decide +kernel) rfl

theorem c_spec_l32Bought (w : World) (x : Library) {Ax_Maps : Option Addr} {nx_Maps cx_Maps Bx_Maps : Nat} (hx_Maps : SlR w Bx_Maps encLMap 3 Ax_Maps nx_Maps cx_Maps x.Maps) {Ax_Away : Option Addr} {nx_Away cx_Away Bx_Away : Nat} (hx_Away : SlR w Bx_Away encAway 2 Ax_Away nx_Away cx_Away x.Away) (id : Int) (n : Int) (hp0 : LibOK x) (hp1 : 0 ≤ n ∧ n ≤ 100) : Calls Tryd.prog 61 #[.agg (List.toArray [.slice Ax_Maps nx_Maps cx_Maps, .slice Ax_Away nx_Away cx_Away, .int .i64 x.Bought, .int .i64 x.Dropped, .int .i64 x.Mended]), .int .i64 id, .int .i64 n] w fun e w' => ∃ (A1' : Option Addr) (n1' c1' : Nat) (A2' : Option Addr) (n2' c2' : Nat), e = .returned (.agg (List.toArray [.slice A1' n1' c1', .slice A2' n2' c2', .int .i64 ((boughtN x id n).Bought), .int .i64 ((boughtN x id n).Dropped), .int .i64 ((boughtN x id n).Mended)])) ∧ SlO w' w.heap.size encLMap 3 48 A1' n1' c1' ((boughtN x id n).Maps) ∧ SlO w' w.heap.size encAway 2 57 A2' n2' c2' ((boughtN x id n).Away) ∧ (∀ b_, A1' = some ⟨b_, 0, none⟩ → ¬ A2' = some ⟨b_, 0, none⟩) ∧ Lo w w' := by
  refine calls_W 71 Tryd.func61 rfl rfl rfl ?_
  have hbdx_Maps := hx_Maps.bound
  have hlex_Maps := hx_Maps.len
  have hBbx_Maps := hx_Maps.bd
  have hbdx_Away := hx_Away.bound
  have hlex_Away := hx_Away.len
  have hBbx_Away := hx_Away.bd
  have hlb := lib_rng hp0
  refine W.seq ?_
  refine W.regS (SR.box (v := .agg (List.toArray _)) (l := [.slice Ax_Maps nx_Maps cx_Maps, .slice Ax_Away nx_Away cx_Away, .int .i64 x.Bought, .int .i64 x.Dropped, .int .i64 x.Mended]) rfl rfl ?_)
  intro g1 w2 hg3 hk4 hs5 hb6
  have hz7 := hk4.size
  have hB8 := (Lo.refl w).lo hk4
  refine SR.alloc (l := [.slice none 0 0, .slice none 0 0, .int .i64 0, .int .i64 0, .int .i64 0]) tz27 rfl ?_
  intro g9 w10 hg11 hk12 hs13 hb14
  have hz15 := hk12.size
  have hB16 := hB8.lo hk12
  refine SR.nil ?_
  refine W.seq ?_
  have hm17 := ((hx_Maps).lo hk4).lo hk12
  have hm18 := ((hx_Away).lo hk4).lo hk12
  refine W.regS (SR.q' (r_lda (l := [.slice Ax_Maps nx_Maps cx_Maps, .slice Ax_Away nx_Away cx_Away, .int .i64 x.Bought, .int .i64 x.Dropped, .int .i64 x.Mended]) agg27 rfl (fun _ _ hu => ((hb6).lo hk12).cell hu) rfl) <| SR.call ent62 (c_spec_l32Own w10 x ((hm17)) ((hm18)) (by omega) (by omega)) rfl ?_)
  rintro e w19 ⟨A21, n22, c23, A25, n26, c27, rfl, hO24, hO28, hd29, hk20⟩
  refine ⟨_, rfl, ?_⟩
  have hz30 := hk20.size
  have hB31 := hB16.lo hk20
  have hl32 := hO24.len
  have hl33 := hO24.rd.bound
  have hl34 := hO28.len
  have hl35 := hO28.rd.bound
  refine SR.alloc (l := [.slice none 0 0, .slice none 0 0, .int .i64 0, .int .i64 0, .int .i64 0]) tz27 rfl ?_
  intro g36 w37 hg38 hk39 hs40 hb41
  have hz42 := hk39.size
  have hB43 := hB31.lo hk39
  have hd44 : ¬ A21 = some ⟨g36, 0, none⟩ := fun e' => by have := (hO24).base_le e'; omega
  have hd45 : ¬ A25 = some ⟨g36, 0, none⟩ := fun e' => by have := (hO28).base_le e'; omega
  refine SR.store (o := 0) (vs := [.slice A21 n22 c23, .slice A25 n26 c27, .int .i64 x.Bought, .int .i64 x.Dropped, .int .i64 x.Mended]) agg27.2 rfl rfl rfl rfl (hb41) (Nat.le_of_ble_eq_true rfl) rfl ?_
  intro w46 hk47 hs48 hb49
  have hz50 := hk47.size
  have hB51 := hB43.new hk47 (by omega)
  refine SR.nil ?_
  refine W.seq ?_
  have hm52 := ((((hb6).lo hk12).lo hk20).lo hk39).kn hk47 (by omega)
  have hm53 := (((hm17).lo hk20).lo hk39).kn hk47 (by omega)
  have hm54 := (((hm18).lo hk20).lo hk39).kn hk47 (by omega)
  have hm55 := (((hb14).lo hk20).lo hk39).kn hk47 (by omega)
  have hm56 := ((hO24).lo hk39).kd hk47 hd44
  have hm57 := ((hO28).lo hk39).kd hk47 hd45
  refine W.regS (SR.q' (r_fa fa27_2 rfl) <| SR.q' (r_ld (v := .int .i64 x.Bought) sca3 rfl ((hm52).cell rfl)) <| SR.q' (r_mv (v := .int .i64 _) rfl) <| SR.q' (r_add rfl rfl (by omega)) <| SR.q' (r_fa fa27_2 rfl) <| SR.store (o := 2) (vs := [.int .i64 (x.Bought + n)]) sca3.2 rfl rfl rfl rfl (hb49) (Nat.le_of_ble_eq_true rfl) rfl ?_)
  intro w58 hk59 hs60 hb61
  have hz62 := hk59.size
  have hB63 := hB51.new hk59 (by omega)
  refine SR.nil ?_
  refine W.seq ?_
  refine W.seq ?_
  refine W.regS (SR.q' (r_lda (l := [.slice Ax_Maps nx_Maps cx_Maps, .slice Ax_Away nx_Away cx_Away, .int .i64 x.Bought, .int .i64 x.Dropped, .int .i64 x.Mended]) agg27 rfl (fun _ _ hu => ((hm52).kn hk59 (by omega)).cell hu) rfl) <| SR.q' (r_mv (v := .int .i64 _) rfl) <| SR.call ent31 (c_spec_l32Map w58 x (((hm53).kn hk59 (by omega))) (((hm54).kn hk59 (by omega))) id) rfl ?_)
  rintro e w64 ⟨rfl, hk65⟩
  refine ⟨_, rfl, ?_⟩
  have hz66 := hk65.size
  have hB67 := hB63.lo hk65
  have hq68 : idxF (hasId id) x.Maps < (x.Maps.length : Int) ∧ -1 ≤ idxF (hasId id) x.Maps := idx_lt
  refine SR.q' (r_as (v := .int .i64 _) rfl) <| SR.nil ?_
  refine W.seq ?_
  have hm69 := ((hm52).kn hk59 (by omega)).lo hk65
  have hm70 := ((hm53).kn hk59 (by omega)).lo hk65
  have hm71 := ((hm54).kn hk59 (by omega)).lo hk65
  have hm72 := ((hm55).kn hk59 (by omega)).lo hk65
  have hm73 := ((hm56).kd hk59 hd44).lo hk65
  have hm74 := ((hm57).kd hk59 hd45).lo hk65
  refine W.regS (SR.q' (r_mv (v := .int .i64 _) rfl) <| SR.q' (r_ge rfl rfl) <| SR.nil ?_)
  refine W.cond_d rfl (fun h75 => ?_) (fun h75 => ?_)
  · refine W.seq ?_
    refine W.regA (Kp (fun b_ => A21 = some ⟨b_, 0, none⟩) w64) (fun f' w' => At f' [(1, .int .i64 id), (2, .int .i64 n), (3, .pointer (pA g1)), (6, .pointer (pA g9)), (7, .pointer (pA g36))] ∧ (Kp (fun b_ => A21 = some ⟨b_, 0, none⟩) w64 w') ∧ (SlO w' w10.heap.size encLMap 3 48 A21 n22 c23 (x.Maps.set ((idxF (hasId id) x.Maps).toNat) ({ (gt x.Maps ((idxF (hasId id) x.Maps).toNat)) with Copies := ((gt x.Maps ((idxF (hasId id) x.Maps).toNat)).Copies) + n }))) ∧ (x.Maps[(idxF (hasId id) x.Maps).toNat]? = some (gt x.Maps ((idxF (hasId id) x.Maps).toNat))) ∧ (((1 : Int) ≤ (gt x.Maps ((idxF (hasId id) x.Maps).toNat)).Id ∧ (gt x.Maps ((idxF (hasId id) x.Maps).toNat)).Id ≤ 99) ∧ ((0 : Int) ≤ (gt x.Maps ((idxF (hasId id) x.Maps).toNat)).Copies ∧ (gt x.Maps ((idxF (hasId id) x.Maps).toNat)).Copies ≤ 99) ∧ ((0 : Int) ≤ (gt x.Maps ((idxF (hasId id) x.Maps).toNat)).Torn ∧ (gt x.Maps ((idxF (hasId id) x.Maps).toNat)).Torn ≤ (gt x.Maps ((idxF (hasId id) x.Maps).toNat)).Copies)) ∧ ((x.Maps.set ((idxF (hasId id) x.Maps).toNat) ({ (gt x.Maps ((idxF (hasId id) x.Maps).toNat)) with Copies := ((gt x.Maps ((idxF (hasId id) x.Maps).toNat)).Copies) + n }))[(idxF (hasId id) x.Maps).toNat]? = some ({ (gt x.Maps ((idxF (hasId id) x.Maps).toNat)) with Copies := ((gt x.Maps ((idxF (hasId id) x.Maps).toNat)).Copies) + n }))) mo ?_ ?_
    · intro w108 hk109
      have hz110 := hk109.size
      have hB111 := hB67.lo hk109
      refine AH.take 0 rfl (by kernel_rfl) trivial ((Kp.refl w64 : Kp (fun b_ => A21 = some ⟨b_, 0, none⟩) w64 w64).lo hk109) (fun w' hw' => r_fa fa27_0 rfl) <| AH.take 1 rfl (by kernel_rfl) trivial ((Kp.refl w64 : Kp (fun b_ => A21 = some ⟨b_, 0, none⟩) w64 w64).lo hk109) (fun w' hw' => r_ld (v := .slice A21 n22 c23) sca24 rfl ((((hb61).lo hk65).kp hw' (fun e' => hd44 e')).cell rfl)) <| AH.take 2 rfl (by kernel_rfl) trivial ((Kp.refl w64 : Kp (fun b_ => A21 = some ⟨b_, 0, none⟩) w64 w64).lo hk109) (fun w' hw' => r_mv (v := .int .i64 _) rfl) <| AH.take 3 rfl (by kernel_rfl) trivial ((Kp.refl w64 : Kp (fun b_ => A21 = some ⟨b_, 0, none⟩) w64 w64).lo hk109) (fun w' hw' => r_fa fa27_0 rfl) <| AH.take 4 rfl (by kernel_rfl) trivial ((Kp.refl w64 : Kp (fun b_ => A21 = some ⟨b_, 0, none⟩) w64 w64).lo hk109) (fun w' hw' => r_ld (v := .slice Ax_Maps nx_Maps cx_Maps) sca24 rfl (((hm69).kp hw' (fun e' => by have := ((hm73)).base_le e'; omega)).cell rfl)) <| AH.take 5 rfl (by kernel_rfl) trivial ((Kp.refl w64 : Kp (fun b_ => A21 = some ⟨b_, 0, none⟩) w64 w64).lo hk109) (fun w' hw' => r_mv (v := .int .i64 _) rfl) <| ?_
      have hx113 := ((hm70).lo hk109).elem (i := (idxF (hasId id) x.Maps).toNat) (by omega)
      have hq114 := maps_rng hp0.1.1 hx113
      refine AH.take 6 rfl (by kernel_rfl) trivial ((Kp.refl w64 : Kp (fun b_ => A21 = some ⟨b_, 0, none⟩) w64 w64).lo hk109) (fun w' hw' => r_ixR tsl24 (((hm70).kp hw' (fun b_ hb e' => by have := ((hm73)).base_le e'; omega))) rfl rfl (by omega)) <| AH.take 7 rfl (by kernel_rfl) trivial ((Kp.refl w64 : Kp (fun b_ => A21 = some ⟨b_, 0, none⟩) w64 w64).lo hk109) (fun w' hw' => r_fa fa48_1 rfl) <| AH.take 8 rfl (by kernel_rfl) trivial ((Kp.refl w64 : Kp (fun b_ => A21 = some ⟨b_, 0, none⟩) w64 w64).lo hk109) (fun w' hw' => r_ld (v := .int .i64 ((gt x.Maps ((idxF (hasId id) x.Maps).toNat)).Copies)) sca3 rfl ((((hm70).kp hw' (fun b_ hb e' => by have := ((hm73)).base_le e'; omega))).cell hx113 rfl)) <| AH.take 9 rfl (by kernel_rfl) trivial ((Kp.refl w64 : Kp (fun b_ => A21 = some ⟨b_, 0, none⟩) w64 w64).lo hk109) (fun w' hw' => r_mv (v := .int .i64 _) rfl) <| AH.take 10 rfl (by kernel_rfl) trivial ((Kp.refl w64 : Kp (fun b_ => A21 = some ⟨b_, 0, none⟩) w64 w64).lo hk109) (fun w' hw' => r_add rfl rfl (by omega)) <| AH.br [11] (by kernel_rfl) rfl ⟨Br.mk' rfl trivial ?_, trivial⟩
      refine SR.q' (r_ixR tsl24 (((hm73).lo hk109).rd) rfl rfl (by omega)) ?_
      refine SR.nil ⟨(Kp.refl w64 : Kp (fun b_ => A21 = some ⟨b_, 0, none⟩) w64 w64).lo hk109, _, rfl, ?_⟩
      refine AH.take 12 rfl (by kernel_rfl) trivial ((Kp.refl w64 : Kp (fun b_ => A21 = some ⟨b_, 0, none⟩) w64 w64).lo hk109) (fun w' hw' => r_fa fa48_1 rfl) <| AH.br [13] (by kernel_rfl) rfl ⟨Br.mk' rfl trivial ?_, trivial⟩
      refine SR.storeO (o := 1) (vs := [.int .i64 (((gt x.Maps ((idxF (hasId id) x.Maps).toNat)).Copies) + n)]) (x1 := { (gt x.Maps ((idxF (hasId id) x.Maps).toNat)) with Copies := ((gt x.Maps ((idxF (hasId id) x.Maps).toNat)).Copies) + n }) sca3.2 rfl (add_add _ _ _) rfl rfl ((hm73).lo hk109) hx113 rfl (Nat.le_of_ble_eq_true rfl) rfl ?_
      intro w115 hk116 hs117 hO118
      have hz119 := hk116.size
      have hB120 := hB111.step hk116 (fun i_ hi_ e' => by have := (((hm73).lo hk109)).base_le e'; first | omega | (exfalso; omega) | exact e' | exact .inl e' | exact .inr e')
      have hS121 := ((Kp.refl w64 : Kp (fun b_ => A21 = some ⟨b_, 0, none⟩) w64 w64).lo hk109).step hk116 (fun _ _ e => e)
      have hx122 : (x.Maps.set ((idxF (hasId id) x.Maps).toNat) ({ (gt x.Maps ((idxF (hasId id) x.Maps).toNat)) with Copies := ((gt x.Maps ((idxF (hasId id) x.Maps).toNat)).Copies) + n }))[(idxF (hasId id) x.Maps).toNat]? = some ({ (gt x.Maps ((idxF (hasId id) x.Maps).toNat)) with Copies := ((gt x.Maps ((idxF (hasId id) x.Maps).toNat)).Copies) + n }) := List.getElem?_set_self (List.getElem?_eq_some_iff.1 hx113).1
      refine SR.nil ⟨hS121, _, rfl, ?_⟩
      refine AH.done (by kernel_rfl) ?_
      exact ⟨⟨rfl, rfl, rfl, rfl, rfl, trivial⟩, hS121, (hO118), hx113, hq114, hx122⟩
    rintro f123 w124 ⟨hat126, hR125, hm107, hx95, hq96, hx106⟩
    rw [← sets_of_at hat126]
    have hz127 := hR125.size
    have hB128 := hB67.step hR125 (fun i_ hi_ e' => by have := ((hm73)).base_le e'; first | omega | (exfalso; omega) | exact e' | exact .inl e' | exact .inr e')
    refine W.seq ?_
    have hm129 := ((hb61).lo hk65).kp hR125 (fun e' => hd44 e')
    refine W.regS (SR.q' (r_lda (l := [.slice A21 n22 c23, .slice A25 n26 c27, .int .i64 (x.Bought + n), .int .i64 x.Dropped, .int .i64 x.Mended]) agg27 rfl (fun _ _ hu => (hm129).cell hu) rfl) <| SR.store (o := 0) (vs := [.slice A21 n22 c23, .slice A25 n26 c27, .int .i64 (x.Bought + n), .int .i64 x.Dropped, .int .i64 x.Mended]) agg27.2 rfl rfl rfl rfl ((hm72).kp hR125 (fun e' => by have := ((hm73)).base_le e'; omega)) (Nat.le_of_ble_eq_true rfl) rfl ?_)
    intro w130 hk131 hs132 hb133
    have hz134 := hk131.size
    have hB135 := hB128.new hk131 (by omega)
    refine SR.nil ?_
    refine W.ret ?_
    refine retC rfl rfl agg27 (hb133) rfl ?_
    exact ⟨A21, n22, c23, A25, n26, c27, eR (eA (eC rfl (eC rfl (eC (eI (by first | (rw [bought_yes (x := x) (id := id) (n := n) (by assumption)]; first | done | rfl) | (rw [bought_no (x := x) (id := id) (n := n) (by assumption)]; first | done | rfl | (dsimp only; rw [← loopM_end (And.right ‹_ ∧ ∀ j, _ → cmpM _ _ < 0›) (by omega) (by omega)]; done) | (dsimp only; rw [← loopM_end (And.right ‹_ ∧ ∀ j, _ → cmpM _ _ < 0›) (by omega) (by omega)]; rfl)))) (eC (eI (by first | (rw [bought_yes (x := x) (id := id) (n := n) (by assumption)]; first | done | rfl) | (rw [bought_no (x := x) (id := id) (n := n) (by assumption)]; first | done | rfl | (dsimp only; rw [← loopM_end (And.right ‹_ ∧ ∀ j, _ → cmpM _ _ < 0›) (by omega) (by omega)]; done) | (dsimp only; rw [← loopM_end (And.right ‹_ ∧ ∀ j, _ → cmpM _ _ < 0›) (by omega) (by omega)]; rfl)))) (eC (eI (by first | (rw [bought_yes (x := x) (id := id) (n := n) (by assumption)]; first | done | rfl) | (rw [bought_no (x := x) (id := id) (n := n) (by assumption)]; first | done | rfl | (dsimp only; rw [← loopM_end (And.right ‹_ ∧ ∀ j, _ → cmpM _ _ < 0›) (by omega) (by omega)]; done) | (dsimp only; rw [← loopM_end (And.right ‹_ ∧ ∀ j, _ → cmpM _ _ < 0›) (by omega) (by omega)]; rfl)))) rfl)))))), (SlO.eqv (((hm107).kn hk131 (by omega)).down (by omega)) (by first | (rw [bought_yes (x := x) (id := id) (n := n) (by assumption)]; first | done | rfl) | (rw [bought_no (x := x) (id := id) (n := n) (by assumption)]; first | done | rfl | (dsimp only; rw [← loopM_end (And.right ‹_ ∧ ∀ j, _ → cmpM _ _ < 0›) (by omega) (by omega)]; done) | (dsimp only; rw [← loopM_end (And.right ‹_ ∧ ∀ j, _ → cmpM _ _ < 0›) (by omega) (by omega)]; rfl)))), (SlO.eqv ((((hm74).kp hR125 (fun b_ hb e' => hd29 b_ e' hb)).kn hk131 (by omega)).down (by omega)) (by first | (rw [bought_yes (x := x) (id := id) (n := n) (by assumption)]; first | done | rfl) | (rw [bought_no (x := x) (id := id) (n := n) (by assumption)]; first | done | rfl | (dsimp only; rw [← loopM_end (And.right ‹_ ∧ ∀ j, _ → cmpM _ _ < 0›) (by omega) (by omega)]; done) | (dsimp only; rw [← loopM_end (And.right ‹_ ∧ ∀ j, _ → cmpM _ _ < 0›) (by omega) (by omega)]; rfl)))), hd29, hB135⟩
  · refine W.skip ?_
    refine W.seq ?_
    refine W.regS (SR.q' (r_as (v := .int .i64 0) rfl) <| SR.nil ?_)
    refine W.seq ?_
    refine W.block ?_
    refine W.loop (σ := Nat) (fun g => [(1, .int .i64 id), (2, .int .i64 n), (3, .pointer (pA g1)), (6, .pointer (pA g9)), (7, .pointer (pA g36)), (9, .int .i64 (g : Int))]) (fun g w' => (Lo w w') ∧ (Blk w' g1 27 [.slice Ax_Maps nx_Maps cx_Maps, .slice Ax_Away nx_Away cx_Away, .int .i64 x.Bought, .int .i64 x.Dropped, .int .i64 x.Mended]) ∧ (SlR w' Bx_Maps encLMap 3 Ax_Maps nx_Maps cx_Maps x.Maps) ∧ (SlR w' Bx_Away encAway 2 Ax_Away nx_Away cx_Away x.Away) ∧ (Blk w' g9 27 [.slice none 0 0, .slice none 0 0, .int .i64 0, .int .i64 0, .int .i64 0]) ∧ (Blk w' g36 27 [.slice A21 n22 c23, .slice A25 n26 c27, .int .i64 (x.Bought + n), .int .i64 x.Dropped, .int .i64 x.Mended]) ∧ (SlO w' w10.heap.size encLMap 3 48 A21 n22 c23 x.Maps) ∧ (SlO w' w10.heap.size encAway 2 57 A25 n26 c27 x.Away) ∧ (g ≤ nx_Maps ∧ ∀ j, j < g → cmpM (gt x.Maps j) id < 0)) (fun g => nx_Maps - g) 0 ?_ ?_ ?_
    · exact ⟨rfl, rfl, rfl, rfl, rfl, rfl, trivial⟩
    · exact ⟨hB67, hm69, hm70, hm71, hm72, (hb61).lo hk65, hm73, hm74, (by exact ⟨Nat.zero_le _, fun _ h => absurd h (by omega)⟩)⟩
    · rintro k f136 w137 hP139
      obtain ⟨hB138, hm140, hm141, hm142, hm143, hm144, hm145, hm146, hi147⟩ : (Lo w w137) ∧ (Blk w137 g1 27 [.slice Ax_Maps nx_Maps cx_Maps, .slice Ax_Away nx_Away cx_Away, .int .i64 x.Bought, .int .i64 x.Dropped, .int .i64 x.Mended]) ∧ (SlR w137 Bx_Maps encLMap 3 Ax_Maps nx_Maps cx_Maps x.Maps) ∧ (SlR w137 Bx_Away encAway 2 Ax_Away nx_Away cx_Away x.Away) ∧ (Blk w137 g9 27 [.slice none 0 0, .slice none 0 0, .int .i64 0, .int .i64 0, .int .i64 0]) ∧ (Blk w137 g36 27 [.slice A21 n22 c23, .slice A25 n26 c27, .int .i64 (x.Bought + n), .int .i64 x.Dropped, .int .i64 x.Mended]) ∧ (SlO w137 w10.heap.size encLMap 3 48 A21 n22 c23 x.Maps) ∧ (SlO w137 w10.heap.size encAway 2 57 A25 n26 c27 x.Away) ∧ (k ≤ nx_Maps ∧ ∀ j, j < k → cmpM (gt x.Maps j) id < 0) := hP139
      refine (?_ : W _ _ _ _ _ (act _ (sets f136 [(1, .int .i64 id), (2, .int .i64 n), (3, .pointer (pA g1)), (6, .pointer (pA g9)), (7, .pointer (pA g36)), (9, .int .i64 (k : Int))])) _)
      have hzw137 := hB138.size
      have hl148 := hm140.lt
      have hl149 := hm143.lt
      have hl150 := hm144.lt
      refine W.seq ?_
      refine W.seq ?_
      refine W.regJS (fun f' w' => At f' [(1, .int .i64 id), (2, .int .i64 n), (3, .pointer (pA g1)), (6, .pointer (pA g9)), (7, .pointer (pA g36)), (9, .int .i64 (k : Int)), (50, .bool (decide (((k : Int) < (nx_Maps : Int)) ∧ (((gt x.Maps k).Id) < id))))] ∧ Lo w137 w') ?_ ?_
      · refine SR.q' (r_mv (v := .int .i64 _) rfl) <| SR.q' (r_fa fa27_0 rfl) <| SR.q' (r_ld (v := .slice Ax_Maps nx_Maps cx_Maps) sca24 rfl ((hm140).cell rfl)) <| SR.q' (r_len und24 rfl) <| SR.q' (r_lt rfl rfl) <| SR.q' (r_mv (v := .bool _) rfl) <| SR.splitD (fun h151 => ?_) (fun h151 => ?_)
        · refine SR.g' rfl (r_fa fa27_0 rfl) <| SR.g' rfl (r_ld (v := .slice Ax_Maps nx_Maps cx_Maps) sca24 rfl ((hm140).cell rfl)) <| SR.g' rfl (r_mv (v := .int .i64 _) rfl) <| ?_
          have hx153 := (hm141).elem (i := k) (by omega)
          have hq154 := maps_rng hp0.1.1 hx153
          refine SR.g' rfl (r_ixR tsl24 (hm141) rfl rfl (by omega)) <| SR.g' rfl (r_fa fa48_0 rfl) <| SR.g' rfl (r_ld (v := .int .i64 ((gt x.Maps k).Id)) sca3 rfl ((hm141).cell hx153 rfl)) <| SR.g' rfl (r_mv (v := .int .i64 _) rfl) <| SR.g' rfl (r_lt rfl rfl) <| SR.q' (r_pick true rfl (v := .bool _) rfl) <| SR.nil ?_
          exact ⟨_, rfl, ⟨⟨rfl, rfl, rfl, rfl, rfl, rfl, (eDD (jat h151)), trivial⟩, (Lo.refl _)⟩⟩
        · refine SR.s' rfl <| SR.s' rfl <| SR.s' rfl <| SR.s' rfl <| SR.s' rfl <| SR.s' rfl <| SR.s' rfl <| SR.s' rfl <| SR.q' (r_pick false rfl (v := .bool false) rfl) <| SR.nil ?_
          exact ⟨_, rfl, ⟨⟨rfl, rfl, rfl, rfl, rfl, rfl, (eDF (jaf h151).2), trivial⟩, (Lo.refl _)⟩⟩
      rintro f155 w156 ⟨hat157, hk158⟩
      rw [← sets_of_at hat157]
      have hz159 := hk158.size
      have hB160 := hB138.lo hk158
      refine W.cond_d rfl (fun h161 => ?_) (fun h161 => ?_)
      · have hq162 : (k : Int) < (nx_Maps : Int) := h161.1
        have hq163 : ((gt x.Maps k).Id) < id := h161.2
        refine W.skip ?_
        refine W.block ?_
        refine W.regS (SR.q' (r_mv (v := .int .i64 _) rfl) <| SR.q' (r_add rfl rfl (by omega)) <| SR.q' (r_as (v := .int .i64 _) rfl) <| SR.nil ?_)
        refine ⟨k + 1, _, rfl, ⟨rfl, rfl, rfl, rfl, rfl, rfl, trivial⟩, ⟨hB160, (hm140).lo hk158, (hm141).lo hk158, (hm142).lo hk158, (hm143).lo hk158, (hm144).lo hk158, (hm145).lo hk158, (hm146).lo hk158, ?_⟩, ?_⟩
        · exact (by exact ⟨by omega, loopM_next (And.right ‹_ ∧ ∀ j, _ → cmpM _ _ < 0›) (by omega)⟩)
        · exact (by omega)
      · refine W.exit (xin_here ?_)
        refine W.seq ?_
        refine W.regA (Kp (fun b_ => b_ = g36) w156) (fun f' w' => ∃ (g264 : Nat) (A315 : Option Addr) (c316 : Nat) (A334 : Option Addr) (c335 : Nat) (A278 : Option Addr) (c279 : Nat) (g296 : Nat), At f' [(6, .pointer (pA g9)), (7, .pointer (pA g36))] ∧ (Kp (fun b_ => b_ = g36) w156 w') ∧ (SlO w' w156.heap.size encLMap 3 48 A334 (((0 + k) + 1) + (nx_Maps - k)) c335 (((x.Maps.take k) ++ ([(⟨id, n, 0⟩ : LMap)] : List LMap)) ++ (x.Maps.drop k))) ∧ (Blk w' g36 27 [.slice A334 (((0 + k) + 1) + (nx_Maps - k)) c335, .slice A25 n26 c27, .int .i64 (x.Bought + n), .int .i64 x.Dropped, .int .i64 x.Mended]) ∧ (∀ b_, A334 = some ⟨b_, 0, none⟩ → ¬ A21 = some ⟨b_, 0, none⟩) ∧ (∀ b_, A334 = some ⟨b_, 0, none⟩ → ¬ A25 = some ⟨b_, 0, none⟩)) mo ?_ ?_
        · intro w423 hk424
          have hz425 := hk424.size
          have hB426 := hB160.lo hk424
          refine AH.via #[true, true, true, true, true, true, true, true, true, true, false, true, true, true, true, false, false, false] 4 (fun f' w' => ∃ (g264 : Nat) (A278 : Option Addr) (c279 : Nat) (g296 : Nat), At f' [(6, .pointer (pA g9)), (7, .pointer (pA g36)), (58, .slice A278 (0 + k) c279), (62, .slice (pA g296) 1 1), (67, .slice (cutA Ax_Maps cx_Maps k 3) (nx_Maps - k) (cx_Maps - k))] ∧ (Kp (fun b_ => b_ = g36) w156 w') ∧ (SlO w' w156.heap.size encLMap 3 48 A278 (0 + k) c279 (x.Maps.take k)) ∧ (SlO w' w156.heap.size encLMap 3 48 (pA g296) 1 1 ([(⟨id, n, 0⟩ : LMap)] : List LMap)) ∧ (Blk w' g36 27 [.slice A21 n22 c23, .slice A25 n26 c27, .int .i64 (x.Bought + n), .int .i64 x.Dropped, .int .i64 x.Mended]) ∧ (∀ b_, A278 = some ⟨b_, 0, none⟩ → ¬ A21 = some ⟨b_, 0, none⟩) ∧ (∀ b_, A278 = some ⟨b_, 0, none⟩ → ¬ A25 = some ⟨b_, 0, none⟩) ∧ (∀ b_, A278 = some ⟨b_, 0, none⟩ → ¬ (pA g296) = some ⟨b_, 0, none⟩) ∧ (∀ b_, (pA g296) = some ⟨b_, 0, none⟩ → ¬ A21 = some ⟨b_, 0, none⟩) ∧ (∀ b_, (pA g296) = some ⟨b_, 0, none⟩ → ¬ A25 = some ⟨b_, 0, none⟩)) ?_ (fun hn427 => ?_)
          · rintro f428 w429 ⟨g264, A278, c279, g296, hat431, hR430, hm307, hm308, hm309, hd310, hd311, hd312, hd313, hd314⟩
            rw [← sets_of_at hat431]
            have hz432 := hR430.size
            have hB433 := hB160.new hR430 (by omega)
            refine AH.br [10] (by kernel_rfl) rfl ⟨Br.mk' rfl trivial ?_, trivial⟩
            refine SR.app tel24 rfl rfl (hm307) ((hm308).rd) (fun _ => rfl) (by omega) (by omega) ?_
            intro A434 c435 w436 hk437 hO438 hN439
            have hz440 := hk437.size
            have hB441 := hB433.step hk437 (fun i_ hi_ e' => by have := ((hm307)).base_le e'; first | omega | (exfalso; omega) | exact e' | exact .inl e' | exact .inr e')
            have hS442 := (hR430).step hk437 (fun i_ hi_ e' => by have := ((hm307)).base_le e'; exfalso; omega)
            have hd445 : ∀ b_, A434 = some ⟨b_, 0, none⟩ → ¬ A21 = some ⟨b_, 0, none⟩ := fun b_ e' h' => (hN439 b_ e').elim (fun h => hd310 b_ (h.trans e') h') (fun h => by have := (((hm145).lo hk158).kd hR430 hd44).base_le h'; omega)
            have hd446 : ∀ b_, A434 = some ⟨b_, 0, none⟩ → ¬ A25 = some ⟨b_, 0, none⟩ := fun b_ e' h' => (hN439 b_ e').elim (fun h => hd311 b_ (h.trans e') h') (fun h => by have := (((hm146).lo hk158).kd hR430 hd45).base_le h'; omega)
            have hd447 : ¬ A434 = some ⟨g36, 0, none⟩ := fun e' => (hN439 g36 e').elim (fun h => by have := (hm307).base_le (h.trans e'); omega) (fun h => by have := (hm309).lt; omega)
            refine SR.nil ⟨hS442, _, rfl, ?_⟩
            refine AH.br [15] (by kernel_rfl) rfl ⟨Br.mk' rfl trivial ?_, trivial⟩
            refine SR.app tel24 rfl rfl (hO438) (((((hm141).lo hk158).cutl (l := k) (by omega)).kn hR430 (by omega)).kp hk437 (fun b_ hb e' => by have := ((hm307)).base_le e'; omega)) (fun _ => rfl) (by omega) (by omega) ?_
            intro A449 c450 w451 hk452 hO453 hN454
            have hz455 := hk452.size
            have hB456 := hB441.step hk452 (fun i_ hi_ e' => by have := ((hO438)).base_le e'; first | omega | (exfalso; omega) | exact e' | exact .inl e' | exact .inr e')
            have hS457 := (hS442).step hk452 (fun i_ hi_ e' => by have := ((hO438)).base_le e'; exfalso; omega)
            have hd460 : ∀ b_, A449 = some ⟨b_, 0, none⟩ → ¬ A21 = some ⟨b_, 0, none⟩ := fun b_ e' h' => (hN454 b_ e').elim (fun h => hd445 b_ (h.trans e') h') (fun h => by have := ((((hm145).lo hk158).kd hR430 hd44).kp hk437 (fun b_ hb e' => hd310 b_ e' hb)).base_le h'; omega)
            have hd461 : ∀ b_, A449 = some ⟨b_, 0, none⟩ → ¬ A25 = some ⟨b_, 0, none⟩ := fun b_ e' h' => (hN454 b_ e').elim (fun h => hd446 b_ (h.trans e') h') (fun h => by have := ((((hm146).lo hk158).kd hR430 hd45).kp hk437 (fun b_ hb e' => hd311 b_ e' hb)).base_le h'; omega)
            have hd462 : ¬ A449 = some ⟨g36, 0, none⟩ := fun e' => (hN454 g36 e').elim (fun h => hd447 (h.trans e')) (fun h => by have := ((hm309).kp hk437 (fun e' => by have := ((hm307)).base_le e'; omega)).lt; omega)
            refine SR.nil ⟨hS457, _, rfl, ?_⟩
            refine AH.take 16 rfl (by kernel_rfl) trivial (hS457) (fun w' hw' => r_fa fa27_0 rfl) <| AH.br [17] (by kernel_rfl) rfl ⟨Br.mk' rfl trivial ?_, trivial⟩
            refine SR.store (o := 0) (vs := [.slice A449 (((0 + k) + 1) + (nx_Maps - k)) c450]) sca24.2 rfl rfl rfl rfl (((hm309).kp hk437 (fun e' => by have := ((hm307)).base_le e'; omega)).kp hk452 (fun e' => hd447 e')) (Nat.le_of_ble_eq_true rfl) rfl ?_
            intro w464 hk465 hs466 hb467
            have hz468 := hk465.size
            have hB469 := hB456.new hk465 (by omega)
            have hS470 := (hS457).step hk465 (fun _ _ e => e)
            refine SR.nil ⟨hS470, _, rfl, ?_⟩
            refine AH.done (by kernel_rfl) ?_
            exact ⟨g264, A434, c435, A449, c450, A278, c279, g296, ⟨rfl, rfl, trivial⟩, hS470, (((hO453).kd hk465 hd462).down (by omega)), (hb467), hd460, hd461⟩
          refine AH.via #[true, true, true, true, true, false, true, true, true, true, false, true, true, true, true, false, false, false] 5 (fun f' w' => ∃ (g264 : Nat) (g364 : Nat), At f' [(6, .pointer (pA g9)), (7, .pointer (pA g36)), (53, .slice (pA g264) 0 0), (57, .slice Ax_Maps k cx_Maps), (62, .slice (pA g364) 1 1), (67, .slice (cutA Ax_Maps cx_Maps k 3) (nx_Maps - k) (cx_Maps - k))] ∧ (Kp (fun b_ => b_ = g36) w156 w') ∧ (SlO w' w156.heap.size encLMap 3 48 (pA g264) 0 0 ([] : List LMap)) ∧ (SlO w' w156.heap.size encLMap 3 48 (pA g364) 1 1 ([(⟨id, n, 0⟩ : LMap)] : List LMap)) ∧ (Blk w' g36 27 [.slice A21 n22 c23, .slice A25 n26 c27, .int .i64 (x.Bought + n), .int .i64 x.Dropped, .int .i64 x.Mended]) ∧ (∀ b_, (pA g264) = some ⟨b_, 0, none⟩ → ¬ A21 = some ⟨b_, 0, none⟩) ∧ (∀ b_, (pA g264) = some ⟨b_, 0, none⟩ → ¬ A25 = some ⟨b_, 0, none⟩) ∧ (∀ b_, (pA g264) = some ⟨b_, 0, none⟩ → ¬ (pA g364) = some ⟨b_, 0, none⟩) ∧ (∀ b_, (pA g364) = some ⟨b_, 0, none⟩ → ¬ A21 = some ⟨b_, 0, none⟩) ∧ (∀ b_, (pA g364) = some ⟨b_, 0, none⟩ → ¬ A25 = some ⟨b_, 0, none⟩)) ?_ (fun hn473 => ?_)
          · rintro f474 w475 ⟨g264, g364, hat477, hR476, hm375, hm376, hm377, hd378, hd379, hd380, hd381, hd382⟩
            rw [← sets_of_at hat477]
            have hz478 := hR476.size
            have hB479 := hB160.new hR476 (by omega)
            refine AH.br [5] (by kernel_rfl) rfl ⟨Br.mk' rfl trivial ?_, trivial⟩
            refine SR.app tel24 rfl rfl (hm375) ((((hm141).lo hk158).head (h := k) (by omega)).kn hR476 (by omega)) (fun _ => rfl) (by omega) (by omega) ?_
            intro A480 c481 w482 hk483 hO484 hN485
            have hz486 := hk483.size
            have hB487 := hB479.step hk483 (fun i_ hi_ e' => by have := ((hm375)).base_le e'; first | omega | (exfalso; omega) | exact e' | exact .inl e' | exact .inr e')
            have hS488 := (hR476).step hk483 (fun i_ hi_ e' => by have := ((hm375)).base_le e'; exfalso; omega)
            rw [List.nil_append] at hO484
            have hd491 : ∀ b_, A480 = some ⟨b_, 0, none⟩ → ¬ A21 = some ⟨b_, 0, none⟩ := fun b_ e' h' => (hN485 b_ e').elim (fun h => hd378 b_ (h.trans e') h') (fun h => by have := (((hm145).lo hk158).kd hR476 hd44).base_le h'; omega)
            have hd492 : ∀ b_, A480 = some ⟨b_, 0, none⟩ → ¬ A25 = some ⟨b_, 0, none⟩ := fun b_ e' h' => (hN485 b_ e').elim (fun h => hd379 b_ (h.trans e') h') (fun h => by have := (((hm146).lo hk158).kd hR476 hd45).base_le h'; omega)
            have hd494 : ∀ b_, A480 = some ⟨b_, 0, none⟩ → ¬ (pA g364) = some ⟨b_, 0, none⟩ := fun b_ e' h' => (hN485 b_ e').elim (fun h => hd380 b_ (h.trans e') h') (fun h => by have := (hm376).base_le h'; omega)
            refine SR.nil ⟨hS488, _, rfl, ?_⟩
            refine AH.goto (by kernel_rfl) rfl (hn427 _ _ ?_)
            exact ⟨g264, A480, c481, g364, ⟨rfl, rfl, rfl, rfl, rfl, trivial⟩, hS488, ((hO484).down (by omega)), (((hm376).kp hk483 (fun b_ hb e' => hd380 b_ e' hb)).down (by omega)), ((hm377).kp hk483 (fun e' => by have := ((hm375)).base_le e'; omega)), hd491, hd492, hd494, hd381, hd382⟩
          refine AH.take 1 rfl (by kernel_rfl) trivial ((Kp.refl w156 : Kp (fun b_ => b_ = g36) w156 w156).lo hk424) (fun w' hw' => r_fa fa27_0 rfl) <| AH.take 2 rfl (by kernel_rfl) trivial ((Kp.refl w156 : Kp (fun b_ => b_ = g36) w156 w156).lo hk424) (fun w' hw' => r_ld (v := .slice Ax_Maps nx_Maps cx_Maps) sca24 rfl ((((hm140).lo hk158).kn hw' (by omega)).cell rfl)) <| AH.take 3 rfl (by kernel_rfl) trivial ((Kp.refl w156 : Kp (fun b_ => b_ = g36) w156 w156).lo hk424) (fun w' hw' => r_mv (v := .int .i64 _) rfl) <| AH.take 4 rfl (by kernel_rfl) trivial ((Kp.refl w156 : Kp (fun b_ => b_ = g36) w156 w156).lo hk424) (fun w' hw' => r_cuth (h := k) tsl24 rfl rfl rfl (Nat.le_trans (by omega : k ≤ nx_Maps) ((hm141).lo hk158).cap)) <| AH.take 6 rfl (by kernel_rfl) trivial ((Kp.refl w156 : Kp (fun b_ => b_ = g36) w156 w156).lo hk424) (fun w' hw' => r_mv (v := .int .i64 _) rfl) <| AH.take 7 rfl (by kernel_rfl) trivial ((Kp.refl w156 : Kp (fun b_ => b_ = g36) w156 w156).lo hk424) (fun w' hw' => r_mv (v := .int .i64 _) rfl) <| AH.take 8 rfl (by kernel_rfl) trivial ((Kp.refl w156 : Kp (fun b_ => b_ = g36) w156 w156).lo hk424) (fun w' hw' => r_build (vs := [(0, .int .i64 id), (1, .int .i64 n)]) rfl (bld48_0_1 _ _)) <| AH.take 11 rfl (by kernel_rfl) trivial ((Kp.refl w156 : Kp (fun b_ => b_ = g36) w156 w156).lo hk424) (fun w' hw' => r_fa fa27_0 rfl) <| AH.take 12 rfl (by kernel_rfl) trivial ((Kp.refl w156 : Kp (fun b_ => b_ = g36) w156 w156).lo hk424) (fun w' hw' => r_ld (v := .slice Ax_Maps nx_Maps cx_Maps) sca24 rfl ((((hm140).lo hk158).kn hw' (by omega)).cell rfl)) <| AH.take 13 rfl (by kernel_rfl) trivial ((Kp.refl w156 : Kp (fun b_ => b_ = g36) w156 w156).lo hk424) (fun w' hw' => r_mv (v := .int .i64 _) rfl) <| AH.take 14 rfl (by kernel_rfl) trivial ((Kp.refl w156 : Kp (fun b_ => b_ = g36) w156 w156).lo hk424) (fun w' hw' => r_cutl (l := k) tsl24 rfl rfl rfl (by omega)) <| AH.br [0, 9] (by kernel_rfl) rfl ⟨Br.mk' rfl trivial ?_, Br.mk' rfl trivial ?_, trivial⟩
          · refine SR.lit (vs := []) (L := ([] : List LMap)) (enc := encLMap) tel24 (fun _ => rfl) rfl rfl rfl (by decide) ?_
            intro g500 w501 hg502 hk503 hO504
            have hz505 := hk503.size
            have hB506 := hB426.lo hk503
            have hS507 := ((Kp.refl w156 : Kp (fun b_ => b_ = g36) w156 w156).lo hk424).lo hk503
            have hd508 : ¬ A21 = some ⟨g500, 0, none⟩ := fun e' => by have := (((hm145).lo hk158).lo hk424).base_le e'; omega
            have hd509 : ¬ A25 = some ⟨g500, 0, none⟩ := fun e' => by have := (((hm146).lo hk158).lo hk424).base_le e'; omega
            refine SR.nil ⟨hS507, _, rfl, ?_⟩
            refine AH.br [5, 9] (by kernel_rfl) rfl ⟨Br.mk' rfl trivial ?_, Br.mk' rfl trivial ?_, trivial⟩
            · refine SR.app tel24 rfl rfl (hO504) (((((hm141).lo hk158).head (h := k) (by omega)).lo hk424).lo hk503) (fun _ => rfl) (by omega) (by omega) ?_
              intro A510 c511 w512 hk513 hO514 hN515
              have hz516 := hk513.size
              have hB517 := hB506.step hk513 (fun i_ hi_ e' => by have := ((hO504)).base_le e'; first | omega | (exfalso; omega) | exact e' | exact .inl e' | exact .inr e')
              have hS518 := (hS507).step hk513 (fun i_ hi_ e' => by have := ((hO504)).base_le e'; exfalso; omega)
              rw [List.nil_append] at hO514
              refine SR.nil ⟨hS518, _, rfl, ?_⟩
              refine AH.br [9] (by kernel_rfl) rfl ⟨Br.mk' rfl trivial ?_, trivial⟩
              refine SR.lit (vs := [.agg (List.toArray [.int .i64 id, .int .i64 n, .int .i64 0])]) (L := ([(⟨id, n, 0⟩ : LMap)] : List LMap)) (enc := encLMap) tel24 (fun _ => rfl) rfl rfl rfl (by decide) ?_
              intro g524 w525 hg526 hk527 hO528
              have hz529 := hk527.size
              have hB530 := hB517.lo hk527
              have hS531 := (hS518).lo hk527
              have hd532 : ¬ A21 = some ⟨g524, 0, none⟩ := fun e' => by have := (((((hm145).lo hk158).lo hk424).lo hk503).kp hk513 (fun b_ hb e' => by have h1 := ((hO504)).base_le e'; have h2 := ((((hm145).lo hk158).lo hk424).lo hk503).base_le hb; have h3 := (((hm145).lo hk158).lo hk424).base_le hb; omega)).base_le e'; omega
              have hd533 : ¬ A25 = some ⟨g524, 0, none⟩ := fun e' => by have := (((((hm146).lo hk158).lo hk424).lo hk503).kp hk513 (fun b_ hb e' => by have h1 := ((hO504)).base_le e'; have h2 := ((((hm146).lo hk158).lo hk424).lo hk503).base_le hb; have h3 := (((hm146).lo hk158).lo hk424).base_le hb; omega)).base_le e'; omega
              have hd534 : ¬ A510 = some ⟨g524, 0, none⟩ := fun e' => by have := (hO514).base_le e'; omega
              refine SR.nil ⟨hS531, _, rfl, ?_⟩
              refine AH.goto (by kernel_rfl) rfl (hn427 _ _ ?_)
              exact ⟨g500, A510, c511, g524, ⟨rfl, rfl, rfl, rfl, rfl, trivial⟩, hS531, (((hO514).lo hk527).down (by omega)), ((hO528).down (by omega)), ((((((hm144).lo hk158).lo hk424).lo hk503).kp hk513 (fun e' => by have := ((hO504)).base_le e'; omega)).lo hk527), (fun b_ h h' => by have h1 := ((hO514).lo hk527).base_le h; have h2 := (((hm145).lo hk158).lo hk424).base_le h'; omega), (fun b_ h h' => by have h1 := ((hO514).lo hk527).base_le h; have h2 := (((hm146).lo hk158).lo hk424).base_le h'; omega), (fun b_ h h' => hd534 (h.trans h'.symm)), (fun b_ h h' => hd532 (h'.trans h.symm)), (fun b_ h h' => hd533 (h'.trans h.symm))⟩
            · refine SR.lit (vs := [.agg (List.toArray [.int .i64 id, .int .i64 n, .int .i64 0])]) (L := ([(⟨id, n, 0⟩ : LMap)] : List LMap)) (enc := encLMap) tel24 (fun _ => rfl) rfl rfl rfl (by decide) ?_
              intro g540 w541 hg542 hk543 hO544
              have hz545 := hk543.size
              have hB546 := hB506.lo hk543
              have hS547 := (hS507).lo hk543
              have hd548 : ¬ A21 = some ⟨g540, 0, none⟩ := fun e' => by have := ((((hm145).lo hk158).lo hk424).lo hk503).base_le e'; omega
              have hd549 : ¬ A25 = some ⟨g540, 0, none⟩ := fun e' => by have := ((((hm146).lo hk158).lo hk424).lo hk503).base_le e'; omega
              have hd550 : ¬ (pA g500) = some ⟨g540, 0, none⟩ := fun e' => by have := (hO504).base_le e'; omega
              refine SR.nil ⟨hS547, _, rfl, ?_⟩
              refine AH.goto (by kernel_rfl) rfl (hn473 _ _ ?_)
              exact ⟨g500, g540, ⟨rfl, rfl, rfl, rfl, rfl, rfl, trivial⟩, hS547, (((hO504).lo hk543).down (by omega)), ((hO544).down (by omega)), (((((hm144).lo hk158).lo hk424).lo hk503).lo hk543), (fun b_ h h' => hd508 (h'.trans h.symm)), (fun b_ h h' => hd509 (h'.trans h.symm)), (fun b_ h h' => hd550 (h.trans h'.symm)), (fun b_ h h' => hd548 (h'.trans h.symm)), (fun b_ h h' => hd549 (h'.trans h.symm))⟩
          · refine SR.lit (vs := [.agg (List.toArray [.int .i64 id, .int .i64 n, .int .i64 0])]) (L := ([(⟨id, n, 0⟩ : LMap)] : List LMap)) (enc := encLMap) tel24 (fun _ => rfl) rfl rfl rfl (by decide) ?_
            intro g556 w557 hg558 hk559 hO560
            have hz561 := hk559.size
            have hB562 := hB426.lo hk559
            have hS563 := ((Kp.refl w156 : Kp (fun b_ => b_ = g36) w156 w156).lo hk424).lo hk559
            have hd564 : ¬ A21 = some ⟨g556, 0, none⟩ := fun e' => by have := (((hm145).lo hk158).lo hk424).base_le e'; omega
            have hd565 : ¬ A25 = some ⟨g556, 0, none⟩ := fun e' => by have := (((hm146).lo hk158).lo hk424).base_le e'; omega
            refine SR.nil ⟨hS563, _, rfl, ?_⟩
            refine AH.br [0] (by kernel_rfl) rfl ⟨Br.mk' rfl trivial ?_, trivial⟩
            refine SR.lit (vs := []) (L := ([] : List LMap)) (enc := encLMap) tel24 (fun _ => rfl) rfl rfl rfl (by decide) ?_
            intro g566 w567 hg568 hk569 hO570
            have hz571 := hk569.size
            have hB572 := hB562.lo hk569
            have hS573 := (hS563).lo hk569
            have hd574 : ¬ A21 = some ⟨g566, 0, none⟩ := fun e' => by have := ((((hm145).lo hk158).lo hk424).lo hk559).base_le e'; omega
            have hd575 : ¬ A25 = some ⟨g566, 0, none⟩ := fun e' => by have := ((((hm146).lo hk158).lo hk424).lo hk559).base_le e'; omega
            have hd576 : ¬ (pA g556) = some ⟨g566, 0, none⟩ := fun e' => by have := (hO560).base_le e'; omega
            refine SR.nil ⟨hS573, _, rfl, ?_⟩
            refine AH.goto (by kernel_rfl) rfl (hn473 _ _ ?_)
            exact ⟨g566, g556, ⟨rfl, rfl, rfl, rfl, rfl, rfl, trivial⟩, hS573, ((hO570).down (by omega)), (((hO560).lo hk569).down (by omega)), (((((hm144).lo hk158).lo hk424).lo hk559).lo hk569), (fun b_ h h' => hd574 (h'.trans h.symm)), (fun b_ h h' => hd575 (h'.trans h.symm)), (fun b_ h h' => hd576 (h'.trans h.symm)), (fun b_ h h' => hd564 (h'.trans h.symm)), (fun b_ h h' => hd565 (h'.trans h.symm))⟩
        rintro f582 w583 ⟨g264, A315, c316, A334, c335, A278, c279, g296, hat585, hR584, hm360, hm361, hd362, hd363⟩
        rw [← sets_of_at hat585]
        have hz586 := hR584.size
        have hB587 := hB160.new hR584 (by omega)
        refine W.seq ?_
        have hm588 := ((hm143).lo hk158).kn hR584 (by omega)
        have hm589 := ((hm146).lo hk158).kd hR584 hd45
        refine W.regS (SR.q' (r_lda (l := [.slice A334 (((0 + k) + 1) + (nx_Maps - k)) c335, .slice A25 n26 c27, .int .i64 (x.Bought + n), .int .i64 x.Dropped, .int .i64 x.Mended]) agg27 rfl (fun _ _ hu => (hm361).cell hu) rfl) <| SR.store (o := 0) (vs := [.slice A334 (((0 + k) + 1) + (nx_Maps - k)) c335, .slice A25 n26 c27, .int .i64 (x.Bought + n), .int .i64 x.Dropped, .int .i64 x.Mended]) agg27.2 rfl rfl rfl rfl (hm588) (Nat.le_of_ble_eq_true rfl) rfl ?_)
        intro w590 hk591 hs592 hb593
        have hz594 := hk591.size
        have hB595 := hB587.new hk591 (by omega)
        refine SR.nil ?_
        refine W.ret ?_
        refine retC rfl rfl agg27 (hb593) rfl ?_
        exact ⟨A334, ((0 + k) + 1) + (nx_Maps - k), c335, A25, n26, c27, eR (eA (eC rfl (eC rfl (eC (eI (by first | (rw [bought_yes (x := x) (id := id) (n := n) (by assumption)]; first | done | rfl) | (rw [bought_no (x := x) (id := id) (n := n) (by assumption)]; first | done | rfl | (dsimp only; rw [← loopM_end (And.right ‹_ ∧ ∀ j, _ → cmpM _ _ < 0›) (by omega) (by omega)]; done) | (dsimp only; rw [← loopM_end (And.right ‹_ ∧ ∀ j, _ → cmpM _ _ < 0›) (by omega) (by omega)]; rfl)))) (eC (eI (by first | (rw [bought_yes (x := x) (id := id) (n := n) (by assumption)]; first | done | rfl) | (rw [bought_no (x := x) (id := id) (n := n) (by assumption)]; first | done | rfl | (dsimp only; rw [← loopM_end (And.right ‹_ ∧ ∀ j, _ → cmpM _ _ < 0›) (by omega) (by omega)]; done) | (dsimp only; rw [← loopM_end (And.right ‹_ ∧ ∀ j, _ → cmpM _ _ < 0›) (by omega) (by omega)]; rfl)))) (eC (eI (by first | (rw [bought_yes (x := x) (id := id) (n := n) (by assumption)]; first | done | rfl) | (rw [bought_no (x := x) (id := id) (n := n) (by assumption)]; first | done | rfl | (dsimp only; rw [← loopM_end (And.right ‹_ ∧ ∀ j, _ → cmpM _ _ < 0›) (by omega) (by omega)]; done) | (dsimp only; rw [← loopM_end (And.right ‹_ ∧ ∀ j, _ → cmpM _ _ < 0›) (by omega) (by omega)]; rfl)))) rfl)))))), (SlO.eqv (((hm360).kn hk591 (by omega)).down (by omega)) (by first | (rw [bought_yes (x := x) (id := id) (n := n) (by assumption)]; first | done | rfl) | (rw [bought_no (x := x) (id := id) (n := n) (by assumption)]; first | done | rfl | (dsimp only; rw [← loopM_end (And.right ‹_ ∧ ∀ j, _ → cmpM _ _ < 0›) (by omega) (by omega)]; done) | (dsimp only; rw [← loopM_end (And.right ‹_ ∧ ∀ j, _ → cmpM _ _ < 0›) (by omega) (by omega)]; rfl)))), (SlO.eqv (((hm589).kn hk591 (by omega)).down (by omega)) (by first | (rw [bought_yes (x := x) (id := id) (n := n) (by assumption)]; first | done | rfl) | (rw [bought_no (x := x) (id := id) (n := n) (by assumption)]; first | done | rfl | (dsimp only; rw [← loopM_end (And.right ‹_ ∧ ∀ j, _ → cmpM _ _ < 0›) (by omega) (by omega)]; done) | (dsimp only; rw [← loopM_end (And.right ‹_ ∧ ∀ j, _ → cmpM _ _ < 0›) (by omega) (by omega)]; rfl)))), hd363, hB595⟩

theorem c_spec_l32Gone (w : World) (x : Library) {Ax_Maps : Option Addr} {nx_Maps cx_Maps Bx_Maps : Nat} (hx_Maps : SlR w Bx_Maps encLMap 3 Ax_Maps nx_Maps cx_Maps x.Maps) {Ax_Away : Option Addr} {nx_Away cx_Away Bx_Away : Nat} (hx_Away : SlR w Bx_Away encAway 2 Ax_Away nx_Away cx_Away x.Away) (id : Int) (r : Int) (hp0 : (nx_Maps : Int) ≤ 100) (hp1 : (nx_Away : Int) ≤ 100) : Calls Tryd.prog 67 #[.agg (List.toArray [.slice Ax_Maps nx_Maps cx_Maps, .slice Ax_Away nx_Away cx_Away, .int .i64 x.Bought, .int .i64 x.Dropped, .int .i64 x.Mended]), .int .i64 id, .int .i64 r] w fun e w' => ∃ (A1' : Option Addr) (n1' c1' : Nat) (A2' : Option Addr) (n2' c2' : Nat), e = .returned (.agg (List.toArray [.slice A1' n1' c1', .slice A2' n2' c2', .int .i64 ((goneN x id r).Bought), .int .i64 ((goneN x id r).Dropped), .int .i64 ((goneN x id r).Mended)])) ∧ SlO w' w.heap.size encLMap 3 48 A1' n1' c1' ((goneN x id r).Maps) ∧ SlO w' w.heap.size encAway 2 57 A2' n2' c2' ((goneN x id r).Away) ∧ (∀ b_, A1' = some ⟨b_, 0, none⟩ → ¬ A2' = some ⟨b_, 0, none⟩) ∧ Lo w w' := by
  refine calls_W 66 Tryd.func67 rfl rfl rfl ?_
  have hbdx_Maps := hx_Maps.bound
  have hlex_Maps := hx_Maps.len
  have hBbx_Maps := hx_Maps.bd
  have hbdx_Away := hx_Away.bound
  have hlex_Away := hx_Away.len
  have hBbx_Away := hx_Away.bd
  refine W.seq ?_
  refine W.regS (SR.box (v := .agg (List.toArray _)) (l := [.slice Ax_Maps nx_Maps cx_Maps, .slice Ax_Away nx_Away cx_Away, .int .i64 x.Bought, .int .i64 x.Dropped, .int .i64 x.Mended]) rfl rfl ?_)
  intro g1 w2 hg3 hk4 hs5 hb6
  have hz7 := hk4.size
  have hB8 := (Lo.refl w).lo hk4
  refine SR.alloc (l := [.slice none 0 0, .slice none 0 0, .int .i64 0, .int .i64 0, .int .i64 0]) tz27 rfl ?_
  intro g9 w10 hg11 hk12 hs13 hb14
  have hz15 := hk12.size
  have hB16 := hB8.lo hk12
  refine SR.nil ?_
  refine W.seq ?_
  have hm17 := ((hx_Maps).lo hk4).lo hk12
  have hm18 := ((hx_Away).lo hk4).lo hk12
  refine W.regS (SR.q' (r_as (v := .int .i64 0) rfl) <| SR.nil ?_)
  refine W.seq ?_
  refine W.block ?_
  refine W.loop (σ := Nat) (fun g => [(1, .int .i64 id), (2, .int .i64 r), (3, .pointer (pA g1)), (6, .pointer (pA g9)), (7, .int .i64 (g : Int))]) (fun g w' => (Lo w w') ∧ (Blk w' g1 27 [.slice Ax_Maps nx_Maps cx_Maps, .slice Ax_Away nx_Away cx_Away, .int .i64 x.Bought, .int .i64 x.Dropped, .int .i64 x.Mended]) ∧ (SlR w' Bx_Maps encLMap 3 Ax_Maps nx_Maps cx_Maps x.Maps) ∧ (SlR w' Bx_Away encAway 2 Ax_Away nx_Away cx_Away x.Away) ∧ (Blk w' g9 27 [.slice none 0 0, .slice none 0 0, .int .i64 0, .int .i64 0, .int .i64 0]) ∧ (g ≤ nx_Away ∧ ∀ j, j < g → cmpA (gt x.Away j) (⟨id, r⟩ : Away) < 0)) (fun g => nx_Away - g) 0 ?_ ?_ ?_
  · exact ⟨rfl, rfl, rfl, rfl, rfl, trivial⟩
  · exact ⟨hB16, (hb6).lo hk12, hm17, hm18, hb14, (by exact ⟨Nat.zero_le _, fun _ h => absurd h (by omega)⟩)⟩
  · rintro k f19 w20 hP22
    obtain ⟨hB21, hm23, hm24, hm25, hm26, hi27⟩ : (Lo w w20) ∧ (Blk w20 g1 27 [.slice Ax_Maps nx_Maps cx_Maps, .slice Ax_Away nx_Away cx_Away, .int .i64 x.Bought, .int .i64 x.Dropped, .int .i64 x.Mended]) ∧ (SlR w20 Bx_Maps encLMap 3 Ax_Maps nx_Maps cx_Maps x.Maps) ∧ (SlR w20 Bx_Away encAway 2 Ax_Away nx_Away cx_Away x.Away) ∧ (Blk w20 g9 27 [.slice none 0 0, .slice none 0 0, .int .i64 0, .int .i64 0, .int .i64 0]) ∧ (k ≤ nx_Away ∧ ∀ j, j < k → cmpA (gt x.Away j) (⟨id, r⟩ : Away) < 0) := hP22
    refine (?_ : W _ _ _ _ _ (act _ (sets f19 [(1, .int .i64 id), (2, .int .i64 r), (3, .pointer (pA g1)), (6, .pointer (pA g9)), (7, .int .i64 (k : Int))])) _)
    have hzw20 := hB21.size
    have hl28 := hm23.lt
    have hl29 := hm26.lt
    refine W.seq ?_
    refine W.seq ?_
    refine W.regJS (fun f' w' => At f' [(1, .int .i64 id), (2, .int .i64 r), (3, .pointer (pA g1)), (6, .pointer (pA g9)), (7, .int .i64 (k : Int)), (43, .bool (decide (((k : Int) < (nx_Away : Int)) ∧ ((((gt x.Away k).Map) < id) ∨ ((((gt x.Away k).Map) = id) ∧ (((gt x.Away k).Reader) < r))))))] ∧ Lo w20 w') ?_ ?_
    · refine SR.q' (r_mv (v := .int .i64 _) rfl) <| SR.q' (r_fa fa27_1 rfl) <| SR.q' (r_ld (v := .slice Ax_Away nx_Away cx_Away) sca25 rfl ((hm23).cell rfl)) <| SR.q' (r_len und25 rfl) <| SR.q' (r_lt rfl rfl) <| SR.q' (r_mv (v := .bool _) rfl) <| SR.splitD (fun h30 => ?_) (fun h30 => ?_)
      · refine SR.g' rfl (r_fa fa27_1 rfl) <| SR.g' rfl (r_ld (v := .slice Ax_Away nx_Away cx_Away) sca25 rfl ((hm23).cell rfl)) <| SR.g' rfl (r_mv (v := .int .i64 _) rfl) <| ?_
        have hx32 := (hm25).elem (i := k) (by omega)
        refine SR.g' rfl (r_ixR tsl25 (hm25) rfl rfl (by omega)) <| SR.g' rfl (r_fa fa57_0 rfl) <| SR.g' rfl (r_ld (v := .int .i64 ((gt x.Away k).Map)) sca3 rfl ((hm25).cell hx32 rfl)) <| SR.g' rfl (r_mv (v := .int .i64 _) rfl) <| SR.g' rfl (r_lt rfl rfl) <| SR.g' rfl (r_mv (v := .bool _) rfl) <| SR.splitD (fun h33 => ?_) (fun h33 => ?_)
        · refine SR.s' rfl <| SR.s' rfl <| SR.s' rfl <| SR.s' rfl <| SR.s' rfl <| SR.s' rfl <| SR.s' rfl <| SR.s' rfl <| SR.s' rfl <| SR.u' rfl <| SR.u' rfl <| SR.u' rfl <| SR.u' rfl <| SR.u' rfl <| SR.u' rfl <| SR.u' rfl <| SR.u' rfl <| SR.s' rfl <| SR.g' rfl (r_pick true rfl (v := .bool true) rfl) <| SR.q' (r_pick true rfl (v := .bool _) rfl) <| SR.nil ?_
          exact ⟨_, rfl, ⟨⟨rfl, rfl, rfl, rfl, rfl, (eDT (((jot h33).trans (jat h30)).1 trivial)), trivial⟩, (Lo.refl _)⟩⟩
        · refine SR.g' rfl (r_fa fa27_1 rfl) <| SR.g' rfl (r_ld (v := .slice Ax_Away nx_Away cx_Away) sca25 rfl ((hm23).cell rfl)) <| SR.g' rfl (r_mv (v := .int .i64 _) rfl) <| SR.g' rfl (r_ixR tsl25 (hm25) rfl rfl (by omega)) <| SR.g' rfl (r_fa fa57_0 rfl) <| SR.g' rfl (r_ld (v := .int .i64 ((gt x.Away k).Map)) sca3 rfl ((hm25).cell hx32 rfl)) <| SR.g' rfl (r_mv (v := .int .i64 _) rfl) <| SR.g' rfl (r_eq rfl rfl) <| SR.g' rfl (r_mv (v := .bool _) rfl) <| SR.splitD (fun h34 => ?_) (fun h34 => ?_)
          · refine SR.g' rfl (r_fa fa27_1 rfl) <| SR.g' rfl (r_ld (v := .slice Ax_Away nx_Away cx_Away) sca25 rfl ((hm23).cell rfl)) <| SR.g' rfl (r_mv (v := .int .i64 _) rfl) <| SR.g' rfl (r_ixR tsl25 (hm25) rfl rfl (by omega)) <| SR.g' rfl (r_fa fa57_1 rfl) <| SR.g' rfl (r_ld (v := .int .i64 ((gt x.Away k).Reader)) sca3 rfl ((hm25).cell hx32 rfl)) <| SR.g' rfl (r_mv (v := .int .i64 _) rfl) <| SR.g' rfl (r_lt rfl rfl) <| SR.g' rfl (r_pick true rfl (v := .bool _) rfl) <| SR.g' rfl (r_pick false rfl (v := .bool _) rfl) <| SR.q' (r_pick true rfl (v := .bool _) rfl) <| SR.nil ?_
            exact ⟨_, rfl, ⟨⟨rfl, rfl, rfl, rfl, rfl, (eDD (((jat h34).trans (jof h33)).trans (jat h30))), trivial⟩, (Lo.refl _)⟩⟩
          · refine SR.s' rfl <| SR.s' rfl <| SR.s' rfl <| SR.s' rfl <| SR.s' rfl <| SR.s' rfl <| SR.s' rfl <| SR.s' rfl <| SR.g' rfl (r_pick false rfl (v := .bool false) rfl) <| SR.g' rfl (r_pick false rfl (v := .bool _) rfl) <| SR.q' (r_pick true rfl (v := .bool _) rfl) <| SR.nil ?_
            exact ⟨_, rfl, ⟨⟨rfl, rfl, rfl, rfl, rfl, (eDF (((jaf h34).trans (jof h33)).trans (jat h30)).2), trivial⟩, (Lo.refl _)⟩⟩
      · refine SR.s' rfl <| SR.s' rfl <| SR.s' rfl <| SR.s' rfl <| SR.s' rfl <| SR.s' rfl <| SR.s' rfl <| SR.s' rfl <| SR.s' rfl <| SR.u' rfl <| SR.u' rfl <| SR.u' rfl <| SR.u' rfl <| SR.u' rfl <| SR.u' rfl <| SR.u' rfl <| SR.u' rfl <| SR.u' rfl <| SR.u' rfl <| SR.u' rfl <| SR.u' rfl <| SR.u' rfl <| SR.u' rfl <| SR.u' rfl <| SR.u' rfl <| SR.u' rfl <| SR.u' rfl <| SR.s' rfl <| SR.q' (r_pick false rfl (v := .bool false) rfl) <| SR.nil ?_
        exact ⟨_, rfl, ⟨⟨rfl, rfl, rfl, rfl, rfl, (eDF (jaf h30).2), trivial⟩, (Lo.refl _)⟩⟩
    rintro f35 w36 ⟨hat37, hk38⟩
    rw [← sets_of_at hat37]
    have hz39 := hk38.size
    have hB40 := hB21.lo hk38
    refine W.cond_d rfl (fun h41 => ?_) (fun h41 => ?_)
    · have hq42 : (k : Int) < (nx_Away : Int) := h41.1
      have hq43 : (((gt x.Away k).Map) < id) ∨ ((((gt x.Away k).Map) = id) ∧ (((gt x.Away k).Reader) < r)) := h41.2
      refine W.skip ?_
      refine W.block ?_
      refine W.regS (SR.q' (r_mv (v := .int .i64 _) rfl) <| SR.q' (r_add rfl rfl (by omega)) <| SR.q' (r_as (v := .int .i64 _) rfl) <| SR.nil ?_)
      refine ⟨k + 1, _, rfl, ⟨rfl, rfl, rfl, rfl, rfl, trivial⟩, ⟨hB40, (hm23).lo hk38, (hm24).lo hk38, (hm25).lo hk38, (hm26).lo hk38, ?_⟩, ?_⟩
      · exact (by exact ⟨by omega, loopA_next (And.right ‹_ ∧ ∀ j, _ → cmpA _ _ < 0›) (by unfold lexlt; dsimp only; omega)⟩)
      · exact (by omega)
    · refine W.exit (xin_here ?_)
      refine W.seq ?_
      refine W.regS (SR.q' (r_lda (l := [.slice Ax_Maps nx_Maps cx_Maps, .slice Ax_Away nx_Away cx_Away, .int .i64 x.Bought, .int .i64 x.Dropped, .int .i64 x.Mended]) agg27 rfl (fun _ _ hu => ((hm23).lo hk38).cell hu) rfl) <| SR.call ent62 (c_spec_l32Own w36 x (((hm24).lo hk38)) (((hm25).lo hk38)) (by omega) (by omega)) rfl ?_)
      rintro e w44 ⟨A46, n47, c48, A50, n51, c52, rfl, hO49, hO53, hd54, hk45⟩
      refine ⟨_, rfl, ?_⟩
      have hz55 := hk45.size
      have hB56 := hB40.lo hk45
      have hl57 := hO49.len
      have hl58 := hO49.rd.bound
      have hl59 := hO53.len
      have hl60 := hO53.rd.bound
      refine SR.alloc (l := [.slice none 0 0, .slice none 0 0, .int .i64 0, .int .i64 0, .int .i64 0]) tz27 rfl ?_
      intro g61 w62 hg63 hk64 hs65 hb66
      have hz67 := hk64.size
      have hB68 := hB56.lo hk64
      have hd69 : ¬ A46 = some ⟨g61, 0, none⟩ := fun e' => by have := (hO49).base_le e'; omega
      have hd70 : ¬ A50 = some ⟨g61, 0, none⟩ := fun e' => by have := (hO53).base_le e'; omega
      refine SR.store (o := 0) (vs := [.slice A46 n47 c48, .slice A50 n51 c52, .int .i64 x.Bought, .int .i64 x.Dropped, .int .i64 x.Mended]) agg27.2 rfl rfl rfl rfl (hb66) (Nat.le_of_ble_eq_true rfl) rfl ?_
      intro w71 hk72 hs73 hb74
      have hz75 := hk72.size
      have hB76 := hB68.new hk72 (by omega)
      refine SR.nil ?_
      refine W.seq ?_
      have hm77 := ((((hm23).lo hk38).lo hk45).lo hk64).kn hk72 (by omega)
      have hm79 := ((((hm25).lo hk38).lo hk45).lo hk64).kn hk72 (by omega)
      have hm80 := ((((hm26).lo hk38).lo hk45).lo hk64).kn hk72 (by omega)
      have hm81 := ((hO49).lo hk64).kd hk72 hd69
      have hm82 := ((hO53).lo hk64).kd hk72 hd70
      refine W.regA (Kp (fun b_ => b_ = g61) w71) (fun f' w' => ∃ (g183 : Nat) (A234 : Option Addr) (c235 : Nat) (A253 : Option Addr) (c254 : Nat) (A197 : Option Addr) (c198 : Nat) (g215 : Nat), At f' [(6, .pointer (pA g9)), (8, .pointer (pA g61))] ∧ (Kp (fun b_ => b_ = g61) w71 w') ∧ (SlO w' w71.heap.size encAway 2 57 A253 (((0 + k) + 1) + (nx_Away - k)) c254 (((x.Away.take k) ++ ([(⟨id, r⟩ : Away)] : List Away)) ++ (x.Away.drop k))) ∧ (Blk w' g61 27 [.slice A46 n47 c48, .slice A253 (((0 + k) + 1) + (nx_Away - k)) c254, .int .i64 x.Bought, .int .i64 x.Dropped, .int .i64 x.Mended]) ∧ (∀ b_, A253 = some ⟨b_, 0, none⟩ → ¬ A46 = some ⟨b_, 0, none⟩) ∧ (∀ b_, A253 = some ⟨b_, 0, none⟩ → ¬ A50 = some ⟨b_, 0, none⟩)) mo ?_ ?_
      · intro w342 hk343
        have hz344 := hk343.size
        have hB345 := hB76.lo hk343
        refine AH.via #[true, true, true, true, true, true, true, true, true, true, false, true, true, true, true, false, false, false] 4 (fun f' w' => ∃ (g183 : Nat) (A197 : Option Addr) (c198 : Nat) (g215 : Nat), At f' [(6, .pointer (pA g9)), (8, .pointer (pA g61)), (53, .slice A197 (0 + k) c198), (57, .slice (pA g215) 1 1), (62, .slice (cutA Ax_Away cx_Away k 2) (nx_Away - k) (cx_Away - k))] ∧ (Kp (fun b_ => b_ = g61) w71 w') ∧ (SlO w' w71.heap.size encAway 2 57 A197 (0 + k) c198 (x.Away.take k)) ∧ (SlO w' w71.heap.size encAway 2 57 (pA g215) 1 1 ([(⟨id, r⟩ : Away)] : List Away)) ∧ (Blk w' g61 27 [.slice A46 n47 c48, .slice A50 n51 c52, .int .i64 x.Bought, .int .i64 x.Dropped, .int .i64 x.Mended]) ∧ (∀ b_, A197 = some ⟨b_, 0, none⟩ → ¬ A46 = some ⟨b_, 0, none⟩) ∧ (∀ b_, A197 = some ⟨b_, 0, none⟩ → ¬ A50 = some ⟨b_, 0, none⟩) ∧ (∀ b_, A197 = some ⟨b_, 0, none⟩ → ¬ (pA g215) = some ⟨b_, 0, none⟩) ∧ (∀ b_, (pA g215) = some ⟨b_, 0, none⟩ → ¬ A46 = some ⟨b_, 0, none⟩) ∧ (∀ b_, (pA g215) = some ⟨b_, 0, none⟩ → ¬ A50 = some ⟨b_, 0, none⟩)) ?_ (fun hn346 => ?_)
        · rintro f347 w348 ⟨g183, A197, c198, g215, hat350, hR349, hm226, hm227, hm228, hd229, hd230, hd231, hd232, hd233⟩
          rw [← sets_of_at hat350]
          have hz351 := hR349.size
          have hB352 := hB76.new hR349 (by omega)
          refine AH.br [10] (by kernel_rfl) rfl ⟨Br.mk' rfl trivial ?_, trivial⟩
          refine SR.app tel25 rfl rfl (hm226) ((hm227).rd) (fun _ => rfl) (by omega) (by omega) ?_
          intro A353 c354 w355 hk356 hO357 hN358
          have hz359 := hk356.size
          have hB360 := hB352.step hk356 (fun i_ hi_ e' => by have := ((hm226)).base_le e'; first | omega | (exfalso; omega) | exact e' | exact .inl e' | exact .inr e')
          have hS361 := (hR349).step hk356 (fun i_ hi_ e' => by have := ((hm226)).base_le e'; exfalso; omega)
          have hd364 : ∀ b_, A353 = some ⟨b_, 0, none⟩ → ¬ A46 = some ⟨b_, 0, none⟩ := fun b_ e' h' => (hN358 b_ e').elim (fun h => hd229 b_ (h.trans e') h') (fun h => by have := ((hm81).kd hR349 hd69).base_le h'; omega)
          have hd365 : ∀ b_, A353 = some ⟨b_, 0, none⟩ → ¬ A50 = some ⟨b_, 0, none⟩ := fun b_ e' h' => (hN358 b_ e').elim (fun h => hd230 b_ (h.trans e') h') (fun h => by have := ((hm82).kd hR349 hd70).base_le h'; omega)
          have hd366 : ¬ A353 = some ⟨g61, 0, none⟩ := fun e' => (hN358 g61 e').elim (fun h => by have := (hm226).base_le (h.trans e'); omega) (fun h => by have := (hm228).lt; omega)
          refine SR.nil ⟨hS361, _, rfl, ?_⟩
          refine AH.br [15] (by kernel_rfl) rfl ⟨Br.mk' rfl trivial ?_, trivial⟩
          refine SR.app tel25 rfl rfl (hO357) ((((hm79).cutl (l := k) (by omega)).kn hR349 (by omega)).kp hk356 (fun b_ hb e' => by have := ((hm226)).base_le e'; omega)) (fun _ => rfl) (by omega) (by omega) ?_
          intro A368 c369 w370 hk371 hO372 hN373
          have hz374 := hk371.size
          have hB375 := hB360.step hk371 (fun i_ hi_ e' => by have := ((hO357)).base_le e'; first | omega | (exfalso; omega) | exact e' | exact .inl e' | exact .inr e')
          have hS376 := (hS361).step hk371 (fun i_ hi_ e' => by have := ((hO357)).base_le e'; exfalso; omega)
          have hd379 : ∀ b_, A368 = some ⟨b_, 0, none⟩ → ¬ A46 = some ⟨b_, 0, none⟩ := fun b_ e' h' => (hN373 b_ e').elim (fun h => hd364 b_ (h.trans e') h') (fun h => by have := (((hm81).kd hR349 hd69).kp hk356 (fun b_ hb e' => hd229 b_ e' hb)).base_le h'; omega)
          have hd380 : ∀ b_, A368 = some ⟨b_, 0, none⟩ → ¬ A50 = some ⟨b_, 0, none⟩ := fun b_ e' h' => (hN373 b_ e').elim (fun h => hd365 b_ (h.trans e') h') (fun h => by have := (((hm82).kd hR349 hd70).kp hk356 (fun b_ hb e' => hd230 b_ e' hb)).base_le h'; omega)
          have hd381 : ¬ A368 = some ⟨g61, 0, none⟩ := fun e' => (hN373 g61 e').elim (fun h => hd366 (h.trans e')) (fun h => by have := ((hm228).kp hk356 (fun e' => by have := ((hm226)).base_le e'; omega)).lt; omega)
          refine SR.nil ⟨hS376, _, rfl, ?_⟩
          refine AH.take 16 rfl (by kernel_rfl) trivial (hS376) (fun w' hw' => r_fa fa27_1 rfl) <| AH.br [17] (by kernel_rfl) rfl ⟨Br.mk' rfl trivial ?_, trivial⟩
          refine SR.store (o := 1) (vs := [.slice A368 (((0 + k) + 1) + (nx_Away - k)) c369]) sca25.2 rfl rfl rfl rfl (((hm228).kp hk356 (fun e' => by have := ((hm226)).base_le e'; omega)).kp hk371 (fun e' => hd366 e')) (Nat.le_of_ble_eq_true rfl) rfl ?_
          intro w383 hk384 hs385 hb386
          have hz387 := hk384.size
          have hB388 := hB375.new hk384 (by omega)
          have hS389 := (hS376).step hk384 (fun _ _ e => e)
          refine SR.nil ⟨hS389, _, rfl, ?_⟩
          refine AH.done (by kernel_rfl) ?_
          exact ⟨g183, A353, c354, A368, c369, A197, c198, g215, ⟨rfl, rfl, trivial⟩, hS389, (((hO372).kd hk384 hd381).down (by omega)), (hb386), hd379, hd380⟩
        refine AH.via #[true, true, true, true, true, false, true, true, true, true, false, true, true, true, true, false, false, false] 5 (fun f' w' => ∃ (g183 : Nat) (g283 : Nat), At f' [(6, .pointer (pA g9)), (8, .pointer (pA g61)), (48, .slice (pA g183) 0 0), (52, .slice Ax_Away k cx_Away), (57, .slice (pA g283) 1 1), (62, .slice (cutA Ax_Away cx_Away k 2) (nx_Away - k) (cx_Away - k))] ∧ (Kp (fun b_ => b_ = g61) w71 w') ∧ (SlO w' w71.heap.size encAway 2 57 (pA g183) 0 0 ([] : List Away)) ∧ (SlO w' w71.heap.size encAway 2 57 (pA g283) 1 1 ([(⟨id, r⟩ : Away)] : List Away)) ∧ (Blk w' g61 27 [.slice A46 n47 c48, .slice A50 n51 c52, .int .i64 x.Bought, .int .i64 x.Dropped, .int .i64 x.Mended]) ∧ (∀ b_, (pA g183) = some ⟨b_, 0, none⟩ → ¬ A46 = some ⟨b_, 0, none⟩) ∧ (∀ b_, (pA g183) = some ⟨b_, 0, none⟩ → ¬ A50 = some ⟨b_, 0, none⟩) ∧ (∀ b_, (pA g183) = some ⟨b_, 0, none⟩ → ¬ (pA g283) = some ⟨b_, 0, none⟩) ∧ (∀ b_, (pA g283) = some ⟨b_, 0, none⟩ → ¬ A46 = some ⟨b_, 0, none⟩) ∧ (∀ b_, (pA g283) = some ⟨b_, 0, none⟩ → ¬ A50 = some ⟨b_, 0, none⟩)) ?_ (fun hn392 => ?_)
        · rintro f393 w394 ⟨g183, g283, hat396, hR395, hm294, hm295, hm296, hd297, hd298, hd299, hd300, hd301⟩
          rw [← sets_of_at hat396]
          have hz397 := hR395.size
          have hB398 := hB76.new hR395 (by omega)
          refine AH.br [5] (by kernel_rfl) rfl ⟨Br.mk' rfl trivial ?_, trivial⟩
          refine SR.app tel25 rfl rfl (hm294) (((hm79).head (h := k) (by omega)).kn hR395 (by omega)) (fun _ => rfl) (by omega) (by omega) ?_
          intro A399 c400 w401 hk402 hO403 hN404
          have hz405 := hk402.size
          have hB406 := hB398.step hk402 (fun i_ hi_ e' => by have := ((hm294)).base_le e'; first | omega | (exfalso; omega) | exact e' | exact .inl e' | exact .inr e')
          have hS407 := (hR395).step hk402 (fun i_ hi_ e' => by have := ((hm294)).base_le e'; exfalso; omega)
          rw [List.nil_append] at hO403
          have hd410 : ∀ b_, A399 = some ⟨b_, 0, none⟩ → ¬ A46 = some ⟨b_, 0, none⟩ := fun b_ e' h' => (hN404 b_ e').elim (fun h => hd297 b_ (h.trans e') h') (fun h => by have := ((hm81).kd hR395 hd69).base_le h'; omega)
          have hd411 : ∀ b_, A399 = some ⟨b_, 0, none⟩ → ¬ A50 = some ⟨b_, 0, none⟩ := fun b_ e' h' => (hN404 b_ e').elim (fun h => hd298 b_ (h.trans e') h') (fun h => by have := ((hm82).kd hR395 hd70).base_le h'; omega)
          have hd413 : ∀ b_, A399 = some ⟨b_, 0, none⟩ → ¬ (pA g283) = some ⟨b_, 0, none⟩ := fun b_ e' h' => (hN404 b_ e').elim (fun h => hd299 b_ (h.trans e') h') (fun h => by have := (hm295).base_le h'; omega)
          refine SR.nil ⟨hS407, _, rfl, ?_⟩
          refine AH.goto (by kernel_rfl) rfl (hn346 _ _ ?_)
          exact ⟨g183, A399, c400, g283, ⟨rfl, rfl, rfl, rfl, rfl, trivial⟩, hS407, ((hO403).down (by omega)), (((hm295).kp hk402 (fun b_ hb e' => hd299 b_ e' hb)).down (by omega)), ((hm296).kp hk402 (fun e' => by have := ((hm294)).base_le e'; omega)), hd410, hd411, hd413, hd300, hd301⟩
        refine AH.take 1 rfl (by kernel_rfl) trivial ((Kp.refl w71 : Kp (fun b_ => b_ = g61) w71 w71).lo hk343) (fun w' hw' => r_fa fa27_1 rfl) <| AH.take 2 rfl (by kernel_rfl) trivial ((Kp.refl w71 : Kp (fun b_ => b_ = g61) w71 w71).lo hk343) (fun w' hw' => r_ld (v := .slice Ax_Away nx_Away cx_Away) sca25 rfl (((hm77).kn hw' (by omega)).cell rfl)) <| AH.take 3 rfl (by kernel_rfl) trivial ((Kp.refl w71 : Kp (fun b_ => b_ = g61) w71 w71).lo hk343) (fun w' hw' => r_mv (v := .int .i64 _) rfl) <| AH.take 4 rfl (by kernel_rfl) trivial ((Kp.refl w71 : Kp (fun b_ => b_ = g61) w71 w71).lo hk343) (fun w' hw' => r_cuth (h := k) tsl25 rfl rfl rfl (Nat.le_trans (by omega : k ≤ nx_Away) (hm79).cap)) <| AH.take 6 rfl (by kernel_rfl) trivial ((Kp.refl w71 : Kp (fun b_ => b_ = g61) w71 w71).lo hk343) (fun w' hw' => r_mv (v := .int .i64 _) rfl) <| AH.take 7 rfl (by kernel_rfl) trivial ((Kp.refl w71 : Kp (fun b_ => b_ = g61) w71 w71).lo hk343) (fun w' hw' => r_mv (v := .int .i64 _) rfl) <| AH.take 8 rfl (by kernel_rfl) trivial ((Kp.refl w71 : Kp (fun b_ => b_ = g61) w71 w71).lo hk343) (fun w' hw' => r_build (vs := [(0, .int .i64 id), (1, .int .i64 r)]) rfl (bld57_0_1 _ _)) <| AH.take 11 rfl (by kernel_rfl) trivial ((Kp.refl w71 : Kp (fun b_ => b_ = g61) w71 w71).lo hk343) (fun w' hw' => r_fa fa27_1 rfl) <| AH.take 12 rfl (by kernel_rfl) trivial ((Kp.refl w71 : Kp (fun b_ => b_ = g61) w71 w71).lo hk343) (fun w' hw' => r_ld (v := .slice Ax_Away nx_Away cx_Away) sca25 rfl (((hm77).kn hw' (by omega)).cell rfl)) <| AH.take 13 rfl (by kernel_rfl) trivial ((Kp.refl w71 : Kp (fun b_ => b_ = g61) w71 w71).lo hk343) (fun w' hw' => r_mv (v := .int .i64 _) rfl) <| AH.take 14 rfl (by kernel_rfl) trivial ((Kp.refl w71 : Kp (fun b_ => b_ = g61) w71 w71).lo hk343) (fun w' hw' => r_cutl (l := k) tsl25 rfl rfl rfl (by omega)) <| AH.br [0, 9] (by kernel_rfl) rfl ⟨Br.mk' rfl trivial ?_, Br.mk' rfl trivial ?_, trivial⟩
        · refine SR.lit (vs := []) (L := ([] : List Away)) (enc := encAway) tel25 (fun _ => rfl) rfl rfl rfl (by decide) ?_
          intro g419 w420 hg421 hk422 hO423
          have hz424 := hk422.size
          have hB425 := hB345.lo hk422
          have hS426 := ((Kp.refl w71 : Kp (fun b_ => b_ = g61) w71 w71).lo hk343).lo hk422
          have hd427 : ¬ A46 = some ⟨g419, 0, none⟩ := fun e' => by have := ((hm81).lo hk343).base_le e'; omega
          have hd428 : ¬ A50 = some ⟨g419, 0, none⟩ := fun e' => by have := ((hm82).lo hk343).base_le e'; omega
          refine SR.nil ⟨hS426, _, rfl, ?_⟩
          refine AH.br [5, 9] (by kernel_rfl) rfl ⟨Br.mk' rfl trivial ?_, Br.mk' rfl trivial ?_, trivial⟩
          · refine SR.app tel25 rfl rfl (hO423) ((((hm79).head (h := k) (by omega)).lo hk343).lo hk422) (fun _ => rfl) (by omega) (by omega) ?_
            intro A429 c430 w431 hk432 hO433 hN434
            have hz435 := hk432.size
            have hB436 := hB425.step hk432 (fun i_ hi_ e' => by have := ((hO423)).base_le e'; first | omega | (exfalso; omega) | exact e' | exact .inl e' | exact .inr e')
            have hS437 := (hS426).step hk432 (fun i_ hi_ e' => by have := ((hO423)).base_le e'; exfalso; omega)
            rw [List.nil_append] at hO433
            refine SR.nil ⟨hS437, _, rfl, ?_⟩
            refine AH.br [9] (by kernel_rfl) rfl ⟨Br.mk' rfl trivial ?_, trivial⟩
            refine SR.lit (vs := [.agg (List.toArray [.int .i64 id, .int .i64 r])]) (L := ([(⟨id, r⟩ : Away)] : List Away)) (enc := encAway) tel25 (fun _ => rfl) rfl rfl rfl (by decide) ?_
            intro g443 w444 hg445 hk446 hO447
            have hz448 := hk446.size
            have hB449 := hB436.lo hk446
            have hS450 := (hS437).lo hk446
            have hd451 : ¬ A46 = some ⟨g443, 0, none⟩ := fun e' => by have := ((((hm81).lo hk343).lo hk422).kp hk432 (fun b_ hb e' => by have h1 := ((hO423)).base_le e'; have h2 := (((hm81).lo hk343).lo hk422).base_le hb; have h3 := ((hm81).lo hk343).base_le hb; omega)).base_le e'; omega
            have hd452 : ¬ A50 = some ⟨g443, 0, none⟩ := fun e' => by have := ((((hm82).lo hk343).lo hk422).kp hk432 (fun b_ hb e' => by have h1 := ((hO423)).base_le e'; have h2 := (((hm82).lo hk343).lo hk422).base_le hb; have h3 := ((hm82).lo hk343).base_le hb; omega)).base_le e'; omega
            have hd453 : ¬ A429 = some ⟨g443, 0, none⟩ := fun e' => by have := (hO433).base_le e'; omega
            refine SR.nil ⟨hS450, _, rfl, ?_⟩
            refine AH.goto (by kernel_rfl) rfl (hn346 _ _ ?_)
            exact ⟨g419, A429, c430, g443, ⟨rfl, rfl, rfl, rfl, rfl, trivial⟩, hS450, (((hO433).lo hk446).down (by omega)), ((hO447).down (by omega)), (((((hb74).lo hk343).lo hk422).kp hk432 (fun e' => by have := ((hO423)).base_le e'; omega)).lo hk446), (fun b_ h h' => by have h1 := ((hO433).lo hk446).base_le h; have h2 := ((hm81).lo hk343).base_le h'; omega), (fun b_ h h' => by have h1 := ((hO433).lo hk446).base_le h; have h2 := ((hm82).lo hk343).base_le h'; omega), (fun b_ h h' => hd453 (h.trans h'.symm)), (fun b_ h h' => hd451 (h'.trans h.symm)), (fun b_ h h' => hd452 (h'.trans h.symm))⟩
          · refine SR.lit (vs := [.agg (List.toArray [.int .i64 id, .int .i64 r])]) (L := ([(⟨id, r⟩ : Away)] : List Away)) (enc := encAway) tel25 (fun _ => rfl) rfl rfl rfl (by decide) ?_
            intro g459 w460 hg461 hk462 hO463
            have hz464 := hk462.size
            have hB465 := hB425.lo hk462
            have hS466 := (hS426).lo hk462
            have hd467 : ¬ A46 = some ⟨g459, 0, none⟩ := fun e' => by have := (((hm81).lo hk343).lo hk422).base_le e'; omega
            have hd468 : ¬ A50 = some ⟨g459, 0, none⟩ := fun e' => by have := (((hm82).lo hk343).lo hk422).base_le e'; omega
            have hd469 : ¬ (pA g419) = some ⟨g459, 0, none⟩ := fun e' => by have := (hO423).base_le e'; omega
            refine SR.nil ⟨hS466, _, rfl, ?_⟩
            refine AH.goto (by kernel_rfl) rfl (hn392 _ _ ?_)
            exact ⟨g419, g459, ⟨rfl, rfl, rfl, rfl, rfl, rfl, trivial⟩, hS466, (((hO423).lo hk462).down (by omega)), ((hO463).down (by omega)), ((((hb74).lo hk343).lo hk422).lo hk462), (fun b_ h h' => hd427 (h'.trans h.symm)), (fun b_ h h' => hd428 (h'.trans h.symm)), (fun b_ h h' => hd469 (h.trans h'.symm)), (fun b_ h h' => hd467 (h'.trans h.symm)), (fun b_ h h' => hd468 (h'.trans h.symm))⟩
        · refine SR.lit (vs := [.agg (List.toArray [.int .i64 id, .int .i64 r])]) (L := ([(⟨id, r⟩ : Away)] : List Away)) (enc := encAway) tel25 (fun _ => rfl) rfl rfl rfl (by decide) ?_
          intro g475 w476 hg477 hk478 hO479
          have hz480 := hk478.size
          have hB481 := hB345.lo hk478
          have hS482 := ((Kp.refl w71 : Kp (fun b_ => b_ = g61) w71 w71).lo hk343).lo hk478
          have hd483 : ¬ A46 = some ⟨g475, 0, none⟩ := fun e' => by have := ((hm81).lo hk343).base_le e'; omega
          have hd484 : ¬ A50 = some ⟨g475, 0, none⟩ := fun e' => by have := ((hm82).lo hk343).base_le e'; omega
          refine SR.nil ⟨hS482, _, rfl, ?_⟩
          refine AH.br [0] (by kernel_rfl) rfl ⟨Br.mk' rfl trivial ?_, trivial⟩
          refine SR.lit (vs := []) (L := ([] : List Away)) (enc := encAway) tel25 (fun _ => rfl) rfl rfl rfl (by decide) ?_
          intro g485 w486 hg487 hk488 hO489
          have hz490 := hk488.size
          have hB491 := hB481.lo hk488
          have hS492 := (hS482).lo hk488
          have hd493 : ¬ A46 = some ⟨g485, 0, none⟩ := fun e' => by have := (((hm81).lo hk343).lo hk478).base_le e'; omega
          have hd494 : ¬ A50 = some ⟨g485, 0, none⟩ := fun e' => by have := (((hm82).lo hk343).lo hk478).base_le e'; omega
          have hd495 : ¬ (pA g475) = some ⟨g485, 0, none⟩ := fun e' => by have := (hO479).base_le e'; omega
          refine SR.nil ⟨hS492, _, rfl, ?_⟩
          refine AH.goto (by kernel_rfl) rfl (hn392 _ _ ?_)
          exact ⟨g485, g475, ⟨rfl, rfl, rfl, rfl, rfl, rfl, trivial⟩, hS492, ((hO489).down (by omega)), (((hO479).lo hk488).down (by omega)), ((((hb74).lo hk343).lo hk478).lo hk488), (fun b_ h h' => hd493 (h'.trans h.symm)), (fun b_ h h' => hd494 (h'.trans h.symm)), (fun b_ h h' => hd495 (h'.trans h.symm)), (fun b_ h h' => hd483 (h'.trans h.symm)), (fun b_ h h' => hd484 (h'.trans h.symm))⟩
      rintro f501 w502 ⟨g183, A234, c235, A253, c254, A197, c198, g215, hat504, hR503, hm279, hm280, hd281, hd282⟩
      rw [← sets_of_at hat504]
      have hz505 := hR503.size
      have hB506 := hB76.new hR503 (by omega)
      refine W.seq ?_
      refine W.regS (SR.q' (r_lda (l := [.slice A46 n47 c48, .slice A253 (((0 + k) + 1) + (nx_Away - k)) c254, .int .i64 x.Bought, .int .i64 x.Dropped, .int .i64 x.Mended]) agg27 rfl (fun _ _ hu => (hm280).cell hu) rfl) <| SR.store (o := 0) (vs := [.slice A46 n47 c48, .slice A253 (((0 + k) + 1) + (nx_Away - k)) c254, .int .i64 x.Bought, .int .i64 x.Dropped, .int .i64 x.Mended]) agg27.2 rfl rfl rfl rfl ((hm80).kn hR503 (by omega)) (Nat.le_of_ble_eq_true rfl) rfl ?_)
      intro w507 hk508 hs509 hb510
      have hz511 := hk508.size
      have hB512 := hB506.new hk508 (by omega)
      refine SR.nil ?_
      refine W.ret ?_
      refine retC rfl rfl agg27 (hb510) rfl ?_
      exact ⟨A46, n47, c48, A253, ((0 + k) + 1) + (nx_Away - k), c254, eR (eA (eC rfl (eC rfl (eC (eI (by first | rfl | (show _ = insAt x.Away _ _; unfold insAt; rw [← loopA_end (t := ⟨id, r⟩) (And.right ‹_ ∧ ∀ j, _ → cmpA _ _ < 0›) (by omega) (by unfold lexlt; dsimp only; omega)]))) (eC (eI (by first | rfl | (show _ = insAt x.Away _ _; unfold insAt; rw [← loopA_end (t := ⟨id, r⟩) (And.right ‹_ ∧ ∀ j, _ → cmpA _ _ < 0›) (by omega) (by unfold lexlt; dsimp only; omega)]))) (eC (eI (by first | rfl | (show _ = insAt x.Away _ _; unfold insAt; rw [← loopA_end (t := ⟨id, r⟩) (And.right ‹_ ∧ ∀ j, _ → cmpA _ _ < 0›) (by omega) (by unfold lexlt; dsimp only; omega)]))) rfl)))))), (SlO.eqv ((((hm81).kd hR503 hd69).kn hk508 (by omega)).down (by omega)) (by first | rfl | (show _ = insAt x.Away _ _; unfold insAt; rw [← loopA_end (t := ⟨id, r⟩) (And.right ‹_ ∧ ∀ j, _ → cmpA _ _ < 0›) (by omega) (by unfold lexlt; dsimp only; omega)]))), (SlO.eqv (((hm279).kn hk508 (by omega)).down (by omega)) (by first | rfl | (show _ = insAt x.Away _ _; unfold insAt; rw [← loopA_end (t := ⟨id, r⟩) (And.right ‹_ ∧ ∀ j, _ → cmpA _ _ < 0›) (by omega) (by unfold lexlt; dsimp only; omega)]))), (fun b_ h h' => hd281 b_ h' h), hB512⟩

theorem c_spec_l32Back (w : World) (x : Library) {Ax_Maps : Option Addr} {nx_Maps cx_Maps Bx_Maps : Nat} (hx_Maps : SlR w Bx_Maps encLMap 3 Ax_Maps nx_Maps cx_Maps x.Maps) {Ax_Away : Option Addr} {nx_Away cx_Away Bx_Away : Nat} (hx_Away : SlR w Bx_Away encAway 2 Ax_Away nx_Away cx_Away x.Away) (a : Int) (hp0 : (nx_Maps : Int) ≤ 100) (hp1 : (nx_Away : Int) ≤ 100) (hp2 : 0 ≤ a ∧ a < (nx_Away : Int)) : Calls Tryd.prog 68 #[.agg (List.toArray [.slice Ax_Maps nx_Maps cx_Maps, .slice Ax_Away nx_Away cx_Away, .int .i64 x.Bought, .int .i64 x.Dropped, .int .i64 x.Mended]), .int .i64 a] w fun e w' => ∃ (A1' : Option Addr) (n1' c1' : Nat) (A2' : Option Addr) (n2' c2' : Nat), e = .returned (.agg (List.toArray [.slice A1' n1' c1', .slice A2' n2' c2', .int .i64 ((backN x a).Bought), .int .i64 ((backN x a).Dropped), .int .i64 ((backN x a).Mended)])) ∧ SlO w' w.heap.size encLMap 3 48 A1' n1' c1' ((backN x a).Maps) ∧ SlO w' w.heap.size encAway 2 57 A2' n2' c2' ((backN x a).Away) ∧ (∀ b_, A1' = some ⟨b_, 0, none⟩ → ¬ A2' = some ⟨b_, 0, none⟩) ∧ Lo w w' := by
  refine calls_W 22 Tryd.func68 rfl rfl rfl ?_
  have hbdx_Maps := hx_Maps.bound
  have hlex_Maps := hx_Maps.len
  have hBbx_Maps := hx_Maps.bd
  have hbdx_Away := hx_Away.bound
  have hlex_Away := hx_Away.len
  have hBbx_Away := hx_Away.bd
  refine W.seq ?_
  refine W.regS (SR.box (v := .agg (List.toArray _)) (l := [.slice Ax_Maps nx_Maps cx_Maps, .slice Ax_Away nx_Away cx_Away, .int .i64 x.Bought, .int .i64 x.Dropped, .int .i64 x.Mended]) rfl rfl ?_)
  intro g1 w2 hg3 hk4 hs5 hb6
  have hz7 := hk4.size
  have hB8 := (Lo.refl w).lo hk4
  refine SR.alloc (l := [.slice none 0 0, .slice none 0 0, .int .i64 0, .int .i64 0, .int .i64 0]) tz27 rfl ?_
  intro g9 w10 hg11 hk12 hs13 hb14
  have hz15 := hk12.size
  have hB16 := hB8.lo hk12
  refine SR.nil ?_
  refine W.seq ?_
  have hm17 := ((hx_Maps).lo hk4).lo hk12
  have hm18 := ((hx_Away).lo hk4).lo hk12
  refine W.regS (SR.q' (r_lda (l := [.slice Ax_Maps nx_Maps cx_Maps, .slice Ax_Away nx_Away cx_Away, .int .i64 x.Bought, .int .i64 x.Dropped, .int .i64 x.Mended]) agg27 rfl (fun _ _ hu => ((hb6).lo hk12).cell hu) rfl) <| SR.call ent62 (c_spec_l32Own w10 x ((hm17)) ((hm18)) (by omega) (by omega)) rfl ?_)
  rintro e w19 ⟨A21, n22, c23, A25, n26, c27, rfl, hO24, hO28, hd29, hk20⟩
  refine ⟨_, rfl, ?_⟩
  have hz30 := hk20.size
  have hB31 := hB16.lo hk20
  have hl32 := hO24.len
  have hl33 := hO24.rd.bound
  have hl34 := hO28.len
  have hl35 := hO28.rd.bound
  refine SR.alloc (l := [.slice none 0 0, .slice none 0 0, .int .i64 0, .int .i64 0, .int .i64 0]) tz27 rfl ?_
  intro g36 w37 hg38 hk39 hs40 hb41
  have hz42 := hk39.size
  have hB43 := hB31.lo hk39
  have hd44 : ¬ A21 = some ⟨g36, 0, none⟩ := fun e' => by have := (hO24).base_le e'; omega
  have hd45 : ¬ A25 = some ⟨g36, 0, none⟩ := fun e' => by have := (hO28).base_le e'; omega
  refine SR.store (o := 0) (vs := [.slice A21 n22 c23, .slice A25 n26 c27, .int .i64 x.Bought, .int .i64 x.Dropped, .int .i64 x.Mended]) agg27.2 rfl rfl rfl rfl (hb41) (Nat.le_of_ble_eq_true rfl) rfl ?_
  intro w46 hk47 hs48 hb49
  have hz50 := hk47.size
  have hB51 := hB43.new hk47 (by omega)
  refine SR.nil ?_
  refine W.seq ?_
  have hm52 := ((((hb6).lo hk12).lo hk20).lo hk39).kn hk47 (by omega)
  have hm54 := (((hm18).lo hk20).lo hk39).kn hk47 (by omega)
  have hm55 := (((hb14).lo hk20).lo hk39).kn hk47 (by omega)
  have hm56 := ((hO24).lo hk39).kd hk47 hd44
  have hm57 := ((hO28).lo hk39).kd hk47 hd45
  refine W.regA (Kp (fun b_ => b_ = g36) w46) (fun f' w' => ∃ (g111 : Nat) (A138 : Option Addr) (c139 : Nat) (A125 : Option Addr) (c126 : Nat), At f' [(4, .pointer (pA g9)), (5, .pointer (pA g36))] ∧ (Kp (fun b_ => b_ = g36) w46 w') ∧ (SlO w' w46.heap.size encAway 2 57 A138 ((0 + a.toNat) + (nx_Away - ((a + 1).toNat))) c139 ((x.Away.take a.toNat) ++ (x.Away.drop ((a + 1).toNat)))) ∧ (Blk w' g36 27 [.slice A21 n22 c23, .slice A138 ((0 + a.toNat) + (nx_Away - ((a + 1).toNat))) c139, .int .i64 x.Bought, .int .i64 x.Dropped, .int .i64 x.Mended]) ∧ (∀ b_, A138 = some ⟨b_, 0, none⟩ → ¬ A21 = some ⟨b_, 0, none⟩) ∧ (∀ b_, A138 = some ⟨b_, 0, none⟩ → ¬ A25 = some ⟨b_, 0, none⟩)) mo ?_ ?_
  · intro w162 hk163
    have hz164 := hk163.size
    have hB165 := hB51.lo hk163
    refine AH.take 1 rfl (by kernel_rfl) trivial ((Kp.refl w46 : Kp (fun b_ => b_ = g36) w46 w46).lo hk163) (fun w' hw' => r_fa fa27_1 rfl) <| AH.take 2 rfl (by kernel_rfl) trivial ((Kp.refl w46 : Kp (fun b_ => b_ = g36) w46 w46).lo hk163) (fun w' hw' => r_ld (v := .slice Ax_Away nx_Away cx_Away) sca25 rfl (((hm52).kn hw' (by omega)).cell rfl)) <| AH.take 3 rfl (by kernel_rfl) trivial ((Kp.refl w46 : Kp (fun b_ => b_ = g36) w46 w46).lo hk163) (fun w' hw' => r_mv (v := .int .i64 _) rfl) <| AH.take 4 rfl (by kernel_rfl) trivial ((Kp.refl w46 : Kp (fun b_ => b_ = g36) w46 w46).lo hk163) (fun w' hw' => r_cuth (h := a.toNat) tsl25 rfl rfl (by omega) (Nat.le_trans (by omega : a.toNat ≤ nx_Away) (hm54).cap)) <| AH.take 6 rfl (by kernel_rfl) trivial ((Kp.refl w46 : Kp (fun b_ => b_ = g36) w46 w46).lo hk163) (fun w' hw' => r_fa fa27_1 rfl) <| AH.take 7 rfl (by kernel_rfl) trivial ((Kp.refl w46 : Kp (fun b_ => b_ = g36) w46 w46).lo hk163) (fun w' hw' => r_ld (v := .slice Ax_Away nx_Away cx_Away) sca25 rfl (((hm52).kn hw' (by omega)).cell rfl)) <| AH.take 8 rfl (by kernel_rfl) trivial ((Kp.refl w46 : Kp (fun b_ => b_ = g36) w46 w46).lo hk163) (fun w' hw' => r_mv (v := .int .i64 _) rfl) <| AH.take 9 rfl (by kernel_rfl) trivial ((Kp.refl w46 : Kp (fun b_ => b_ = g36) w46 w46).lo hk163) (fun w' hw' => r_add rfl rfl (by omega)) <| AH.take 10 rfl (by kernel_rfl) trivial ((Kp.refl w46 : Kp (fun b_ => b_ = g36) w46 w46).lo hk163) (fun w' hw' => r_cutl (l := (a + 1).toNat) tsl25 rfl rfl (by omega) (by omega)) <| AH.br [0] (by kernel_rfl) rfl ⟨Br.mk' rfl trivial ?_, trivial⟩
    refine SR.lit (vs := []) (L := ([] : List Away)) (enc := encAway) tel25 (fun _ => rfl) rfl rfl rfl (by decide) ?_
    intro g166 w167 hg168 hk169 hO170
    have hz171 := hk169.size
    have hB172 := hB165.lo hk169
    have hS173 := ((Kp.refl w46 : Kp (fun b_ => b_ = g36) w46 w46).lo hk163).lo hk169
    refine SR.nil ⟨hS173, _, rfl, ?_⟩
    refine AH.br [5] (by kernel_rfl) rfl ⟨Br.mk' rfl trivial ?_, trivial⟩
    refine SR.app tel25 rfl rfl (hO170) ((((hm54).head (h := a.toNat) (by omega)).lo hk163).lo hk169) (fun _ => rfl) (by omega) (by omega) ?_
    intro A176 c177 w178 hk179 hO180 hN181
    have hz182 := hk179.size
    have hB183 := hB172.step hk179 (fun i_ hi_ e' => by have := ((hO170)).base_le e'; first | omega | (exfalso; omega) | exact e' | exact .inl e' | exact .inr e')
    have hS184 := (hS173).step hk179 (fun i_ hi_ e' => by have := ((hO170)).base_le e'; exfalso; omega)
    rw [List.nil_append] at hO180
    refine SR.nil ⟨hS184, _, rfl, ?_⟩
    refine AH.br [11] (by kernel_rfl) rfl ⟨Br.mk' rfl trivial ?_, trivial⟩
    refine SR.app tel25 rfl rfl (hO180) (((((hm54).cutl (l := (a + 1).toNat) (by omega)).lo hk163).lo hk169).kp hk179 (fun b_ hb e' => by have := ((hO170)).base_le e'; omega)) (fun _ => rfl) (by omega) (by omega) ?_
    intro A185 c186 w187 hk188 hO189 hN190
    have hz191 := hk188.size
    have hB192 := hB183.step hk188 (fun i_ hi_ e' => by have := ((hO180)).base_le e'; first | omega | (exfalso; omega) | exact e' | exact .inl e' | exact .inr e')
    have hS193 := (hS184).step hk188 (fun i_ hi_ e' => by have := ((hO180)).base_le e'; exfalso; omega)
    refine SR.nil ⟨hS193, _, rfl, ?_⟩
    refine AH.take 12 rfl (by kernel_rfl) trivial (hS193) (fun w' hw' => r_fa fa27_1 rfl) <| AH.br [13] (by kernel_rfl) rfl ⟨Br.mk' rfl trivial ?_, trivial⟩
    refine SR.store (o := 1) (vs := [.slice A185 ((0 + a.toNat) + (nx_Away - ((a + 1).toNat))) c186]) sca25.2 rfl rfl rfl rfl (((((hb49).lo hk163).lo hk169).kp hk179 (fun e' => by have := ((hO170)).base_le e'; omega)).kp hk188 (fun e' => by have := ((hO180)).base_le e'; omega)) (Nat.le_of_ble_eq_true rfl) rfl ?_
    intro w194 hk195 hs196 hb197
    have hz198 := hk195.size
    have hB199 := hB192.new hk195 (by omega)
    have hS200 := (hS193).step hk195 (fun _ _ e => e)
    refine SR.nil ⟨hS200, _, rfl, ?_⟩
    refine AH.done (by kernel_rfl) ?_
    exact ⟨g166, A185, c186, A176, c177, ⟨rfl, rfl, trivial⟩, hS200, (((hO189).kn hk195 (by omega)).down (by omega)), (hb197), (fun b_ h h' => by have h1 := ((hO189).kn hk195 (by omega)).base_le h; have h2 := ((hm56).lo hk163).base_le h'; omega), (fun b_ h h' => by have h1 := ((hO189).kn hk195 (by omega)).base_le h; have h2 := ((hm57).lo hk163).base_le h'; omega)⟩
  rintro f203 w204 ⟨g111, A138, c139, A125, c126, hat206, hR205, hm158, hm159, hd160, hd161⟩
  rw [← sets_of_at hat206]
  have hz207 := hR205.size
  have hB208 := hB51.new hR205 (by omega)
  refine W.seq ?_
  refine W.regS (SR.q' (r_lda (l := [.slice A21 n22 c23, .slice A138 ((0 + a.toNat) + (nx_Away - ((a + 1).toNat))) c139, .int .i64 x.Bought, .int .i64 x.Dropped, .int .i64 x.Mended]) agg27 rfl (fun _ _ hu => (hm159).cell hu) rfl) <| SR.store (o := 0) (vs := [.slice A21 n22 c23, .slice A138 ((0 + a.toNat) + (nx_Away - ((a + 1).toNat))) c139, .int .i64 x.Bought, .int .i64 x.Dropped, .int .i64 x.Mended]) agg27.2 rfl rfl rfl rfl ((hm55).kn hR205 (by omega)) (Nat.le_of_ble_eq_true rfl) rfl ?_)
  intro w209 hk210 hs211 hb212
  have hz213 := hk210.size
  have hB214 := hB208.new hk210 (by omega)
  refine SR.nil ?_
  refine W.ret ?_
  refine retC rfl rfl agg27 (hb212) rfl ?_
  exact ⟨A21, n22, c23, A138, (0 + a.toNat) + (nx_Away - ((a + 1).toNat)), c139, eR (eA (eC rfl (eC rfl (eC (eI (by first | rfl | (unfold backN delAt; dsimp only; first | rfl | (rw [show (a + 1).toNat = a.toNat + 1 by omega]; done) | (rw [show (a + 1).toNat = a.toNat + 1 by omega, List.nil_append])))) (eC (eI (by first | rfl | (unfold backN delAt; dsimp only; first | rfl | (rw [show (a + 1).toNat = a.toNat + 1 by omega]; done) | (rw [show (a + 1).toNat = a.toNat + 1 by omega, List.nil_append])))) (eC (eI (by first | rfl | (unfold backN delAt; dsimp only; first | rfl | (rw [show (a + 1).toNat = a.toNat + 1 by omega]; done) | (rw [show (a + 1).toNat = a.toNat + 1 by omega, List.nil_append])))) rfl)))))), (SlO.eqv ((((hm56).kd hR205 hd44).kn hk210 (by omega)).down (by omega)) (by first | rfl | (unfold backN delAt; dsimp only; first | rfl | (rw [show (a + 1).toNat = a.toNat + 1 by omega]; done) | (rw [show (a + 1).toNat = a.toNat + 1 by omega, List.nil_append])))), (SlO.eqv (((hm158).kn hk210 (by omega)).down (by omega)) (by first | rfl | (unfold backN delAt; dsimp only; first | rfl | (rw [show (a + 1).toNat = a.toNat + 1 by omega]; done) | (rw [show (a + 1).toNat = a.toNat + 1 by omega, List.nil_append])))), (fun b_ h h' => hd160 b_ h' h), hB214⟩
end Go.Proofs.YtgobbcilgcbkaaaDoor
