/- Walks, printed by a program of this claim's author. -/
import Derived.Test.YtlpapeeaghmjpaaDoorChecked
import Derived.Test.YtlpapeeaghmjpaaDoorSd
import Derived.Test.YtlpapeeaghmjpaaDoorFu
import Derived.Test.YtlpapeeaghmjpaaDoorFs
import Derived.Test.YtlpapeeaghmjpaaDoorFq
import Derived.Test.YtlpapeeaghmjpaaDoorFo
import Derived.Test.YtlpapeeaghmjpaaDoorG29l
namespace Go.Proofs.YtlpapeeaghmjpaaDoor
open Go Go.RowKit Fw
set_option maxRecDepth 10000
set_option linter.unusedVariables false


theorem z_c__impl_ScanJob__goOn_43 (x : ScanJob) (cx_Tiles : Nat) (nx_Tiles : Nat) (hbdx_Tiles : (nx_Tiles : Int) ≤ 9223372036854775807) (hlex_Tiles : nx_Tiles = x.Tiles.length) (v : Int) (hp0 : JobOK x) (hp1 : v ≤ 0 ∨ 0 ≤ lastB x.Tiles v x.Next.toNat) (h31 : 0 < v) (hq36 : -1 ≤ lastB x.Tiles v x.Next.toNat ∧ lastB x.Tiles v x.Next.toNat < (x.Next.toNat : Int)) : (lastB x.Tiles v x.Next.toNat).toNat ≤ (lastB x.Tiles v x.Next.toNat).toNat ∧ (lastB x.Tiles v x.Next.toNat).toNat ≤ nx_Tiles := by
  have hrg := job_rng hp0; omega
theorem z_c__impl_ScanJob__goOn_44 (x : ScanJob) (cx_Tiles : Nat) (nx_Tiles : Nat) (hbdx_Tiles : (nx_Tiles : Int) ≤ 9223372036854775807) (hlex_Tiles : nx_Tiles = x.Tiles.length) (v : Int) (hp0 : JobOK x) (hp1 : v ≤ 0 ∨ 0 ≤ lastB x.Tiles v x.Next.toNat) (h31 : 0 < v) (hq36 : -1 ≤ lastB x.Tiles v x.Next.toNat ∧ lastB x.Tiles v x.Next.toNat < (x.Next.toNat : Int)) : x.Tiles = zf x.Tiles (lastB x.Tiles v x.Next.toNat).toNat ((lastB x.Tiles v x.Next.toNat).toNat) := by
  exact (zf_self _ _).symm
theorem z_c__impl_ScanJob__goOn_65 (x : ScanJob) (cx_Tiles : Nat) (nx_Tiles : Nat) (hbdx_Tiles : (nx_Tiles : Int) ≤ 9223372036854775807) (hlex_Tiles : nx_Tiles = x.Tiles.length) (v : Int) (hp0 : JobOK x) (hp1 : v ≤ 0 ∨ 0 ≤ lastB x.Tiles v x.Next.toNat) (h31 : 0 < v) (hq36 : -1 ≤ lastB x.Tiles v x.Next.toNat ∧ lastB x.Tiles v x.Next.toNat < (x.Next.toNat : Int)) (i : Nat) (hi52 : (lastB x.Tiles v x.Next.toNat).toNat ≤ i ∧ i ≤ nx_Tiles) (h55 : (i : Int) < (nx_Tiles : Int)) (hx57 : (zf x.Tiles (lastB x.Tiles v x.Next.toNat).toNat i)[i]? = some (gt (zf x.Tiles (lastB x.Tiles v x.Next.toNat).toNat i) i)) (hx64 : ((zf x.Tiles (lastB x.Tiles v x.Next.toNat).toNat i).set ((i : Int).toNat) 0)[(i : Int).toNat]? = some (0)) : (zf x.Tiles (lastB x.Tiles v x.Next.toNat).toNat i).set ((i : Int).toNat) 0 = zf x.Tiles (lastB x.Tiles v x.Next.toNat).toNat (i + 1) := by
  exact zf_next (by omega) (by omega)
theorem z_c__impl_ScanJob__goOn_66 (x : ScanJob) (cx_Tiles : Nat) (nx_Tiles : Nat) (hbdx_Tiles : (nx_Tiles : Int) ≤ 9223372036854775807) (hlex_Tiles : nx_Tiles = x.Tiles.length) (v : Int) (hp0 : JobOK x) (hp1 : v ≤ 0 ∨ 0 ≤ lastB x.Tiles v x.Next.toNat) (h31 : 0 < v) (hq36 : -1 ≤ lastB x.Tiles v x.Next.toNat ∧ lastB x.Tiles v x.Next.toNat < (x.Next.toNat : Int)) (i : Nat) (hi52 : (lastB x.Tiles v x.Next.toNat).toNat ≤ i ∧ i ≤ nx_Tiles) (h55 : (i : Int) < (nx_Tiles : Int)) (hx57 : (zf x.Tiles (lastB x.Tiles v x.Next.toNat).toNat i)[i]? = some (gt (zf x.Tiles (lastB x.Tiles v x.Next.toNat).toNat i) i)) (hx64 : ((zf x.Tiles (lastB x.Tiles v x.Next.toNat).toNat i).set ((i : Int).toNat) 0)[(i : Int).toNat]? = some (0)) : (lastB x.Tiles v x.Next.toNat).toNat ≤ i + 1 ∧ i + 1 ≤ nx_Tiles := by
  omega
theorem z_c__impl_ScanJob__goOn_67 (x : ScanJob) (cx_Tiles : Nat) (nx_Tiles : Nat) (hbdx_Tiles : (nx_Tiles : Int) ≤ 9223372036854775807) (hlex_Tiles : nx_Tiles = x.Tiles.length) (v : Int) (hp0 : JobOK x) (hp1 : v ≤ 0 ∨ 0 ≤ lastB x.Tiles v x.Next.toNat) (h31 : 0 < v) (hq36 : -1 ≤ lastB x.Tiles v x.Next.toNat ∧ lastB x.Tiles v x.Next.toNat < (x.Next.toNat : Int)) (i : Nat) (hi52 : (lastB x.Tiles v x.Next.toNat).toNat ≤ i ∧ i ≤ nx_Tiles) (h55 : (i : Int) < (nx_Tiles : Int)) (hx57 : (zf x.Tiles (lastB x.Tiles v x.Next.toNat).toNat i)[i]? = some (gt (zf x.Tiles (lastB x.Tiles v x.Next.toNat).toNat i) i)) (hx64 : ((zf x.Tiles (lastB x.Tiles v x.Next.toNat).toNat i).set ((i : Int).toNat) 0)[(i : Int).toNat]? = some (0)) : nx_Tiles - (i + 1) < nx_Tiles - i := by
  omega
theorem z_c__impl_ScanJob__goOn_84 (x : ScanJob) (cx_Tiles : Nat) (nx_Tiles : Nat) (hbdx_Tiles : (nx_Tiles : Int) ≤ 9223372036854775807) (hlex_Tiles : nx_Tiles = x.Tiles.length) (v : Int) (hp0 : JobOK x) (hp1 : v ≤ 0 ∨ 0 ≤ lastB x.Tiles v x.Next.toNat) (h31 : 0 < v) (hq36 : -1 ≤ lastB x.Tiles v x.Next.toNat ∧ lastB x.Tiles v x.Next.toNat < (x.Next.toNat : Int)) (i : Nat) (hi52 : (lastB x.Tiles v x.Next.toNat).toNat ≤ i ∧ i ≤ nx_Tiles) (h55 : ¬ ((i : Int) < (nx_Tiles : Int))) : zf x.Tiles (lastB x.Tiles v x.Next.toNat).toNat i = (goN x v).Tiles := by
  have hrg := job_rng hp0; unfold goN; first | (rw [if_neg ‹_›]; done) | (rw [if_pos ‹_›]; first | done | (obtain rfl : i = x.Tiles.length := (by omega); first | rfl | exact zf_wrap ‹JobOK x› (by omega)))
theorem z_c__impl_ScanJob__goOn_85 (x : ScanJob) (cx_Tiles : Nat) (nx_Tiles : Nat) (hbdx_Tiles : (nx_Tiles : Int) ≤ 9223372036854775807) (hlex_Tiles : nx_Tiles = x.Tiles.length) (v : Int) (hp0 : JobOK x) (hp1 : v ≤ 0 ∨ 0 ≤ lastB x.Tiles v x.Next.toNat) (h31 : 0 < v) (hq36 : -1 ≤ lastB x.Tiles v x.Next.toNat ∧ lastB x.Tiles v x.Next.toNat < (x.Next.toNat : Int)) (i : Nat) (hi52 : (lastB x.Tiles v x.Next.toNat).toNat ≤ i ∧ i ≤ nx_Tiles) (h55 : ¬ ((i : Int) < (nx_Tiles : Int))) : 1 = (goN x v).State := by
  have hrg := job_rng hp0; unfold goN; first | (rw [if_neg ‹_›]; done) | (rw [if_pos ‹_›]; first | done | (obtain rfl : i = x.Tiles.length := (by omega); first | rfl | exact zf_wrap ‹JobOK x› (by omega)))
theorem z_c__impl_ScanJob__goOn_86 (x : ScanJob) (cx_Tiles : Nat) (nx_Tiles : Nat) (hbdx_Tiles : (nx_Tiles : Int) ≤ 9223372036854775807) (hlex_Tiles : nx_Tiles = x.Tiles.length) (v : Int) (hp0 : JobOK x) (hp1 : v ≤ 0 ∨ 0 ≤ lastB x.Tiles v x.Next.toNat) (h31 : 0 < v) (hq36 : -1 ≤ lastB x.Tiles v x.Next.toNat ∧ lastB x.Tiles v x.Next.toNat < (x.Next.toNat : Int)) (i : Nat) (hi52 : (lastB x.Tiles v x.Next.toNat).toNat ≤ i ∧ i ≤ nx_Tiles) (h55 : ¬ ((i : Int) < (nx_Tiles : Int))) : lastB x.Tiles v x.Next.toNat = (goN x v).Next := by
  have hrg := job_rng hp0; unfold goN; first | (rw [if_neg ‹_›]; done) | (rw [if_pos ‹_›]; first | done | (obtain rfl : i = x.Tiles.length := (by omega); first | rfl | exact zf_wrap ‹JobOK x› (by omega)))
theorem z_c__impl_ScanJob__goOn_87 (x : ScanJob) (cx_Tiles : Nat) (nx_Tiles : Nat) (hbdx_Tiles : (nx_Tiles : Int) ≤ 9223372036854775807) (hlex_Tiles : nx_Tiles = x.Tiles.length) (v : Int) (hp0 : JobOK x) (hp1 : v ≤ 0 ∨ 0 ≤ lastB x.Tiles v x.Next.toNat) (h31 : 0 < v) (hq36 : -1 ≤ lastB x.Tiles v x.Next.toNat ∧ lastB x.Tiles v x.Next.toNat < (x.Next.toNat : Int)) (i : Nat) (hi52 : (lastB x.Tiles v x.Next.toNat).toNat ≤ i ∧ i ≤ nx_Tiles) (h55 : ¬ ((i : Int) < (nx_Tiles : Int))) : 0 = (goN x v).Fails := by
  have hrg := job_rng hp0; unfold goN; first | (rw [if_neg ‹_›]; done) | (rw [if_pos ‹_›]; first | done | (obtain rfl : i = x.Tiles.length := (by omega); first | rfl | exact zf_wrap ‹JobOK x› (by omega)))
theorem z_c__impl_ScanJob__goOn_88 (x : ScanJob) (cx_Tiles : Nat) (nx_Tiles : Nat) (hbdx_Tiles : (nx_Tiles : Int) ≤ 9223372036854775807) (hlex_Tiles : nx_Tiles = x.Tiles.length) (v : Int) (hp0 : JobOK x) (hp1 : v ≤ 0 ∨ 0 ≤ lastB x.Tiles v x.Next.toNat) (h31 : 0 < v) (hq36 : -1 ≤ lastB x.Tiles v x.Next.toNat ∧ lastB x.Tiles v x.Next.toNat < (x.Next.toNat : Int)) (i : Nat) (hi52 : (lastB x.Tiles v x.Next.toNat).toNat ≤ i ∧ i ≤ nx_Tiles) (h55 : ¬ ((i : Int) < (nx_Tiles : Int))) : IntKind.i64.wrap (10 * (wsum (zf x.Tiles (lastB x.Tiles v x.Next.toNat).toNat i))) = (goN x v).Size := by
  have hrg := job_rng hp0; unfold goN; first | (rw [if_neg ‹_›]; done) | (rw [if_pos ‹_›]; first | done | (obtain rfl : i = x.Tiles.length := (by omega); first | rfl | exact zf_wrap ‹JobOK x› (by omega)))
theorem z_c__impl_ScanJob__goOn_95 (x : ScanJob) (cx_Tiles : Nat) (nx_Tiles : Nat) (hbdx_Tiles : (nx_Tiles : Int) ≤ 9223372036854775807) (hlex_Tiles : nx_Tiles = x.Tiles.length) (v : Int) (hp0 : JobOK x) (hp1 : v ≤ 0 ∨ 0 ≤ lastB x.Tiles v x.Next.toNat) (h31 : ¬ (0 < v)) : x.Tiles = (goN x v).Tiles := by
  have hrg := job_rng hp0; unfold goN; first | (rw [if_neg ‹_›]; done) | (rw [if_pos ‹_›]; first | done | (obtain rfl : i = x.Tiles.length := (by omega); first | rfl | exact zf_wrap ‹JobOK x› (by omega)))
theorem z_c__impl_ScanJob__goOn_96 (x : ScanJob) (cx_Tiles : Nat) (nx_Tiles : Nat) (hbdx_Tiles : (nx_Tiles : Int) ≤ 9223372036854775807) (hlex_Tiles : nx_Tiles = x.Tiles.length) (v : Int) (hp0 : JobOK x) (hp1 : v ≤ 0 ∨ 0 ≤ lastB x.Tiles v x.Next.toNat) (h31 : ¬ (0 < v)) : 1 = (goN x v).State := by
  have hrg := job_rng hp0; unfold goN; first | (rw [if_neg ‹_›]; done) | (rw [if_pos ‹_›]; first | done | (obtain rfl : i = x.Tiles.length := (by omega); first | rfl | exact zf_wrap ‹JobOK x› (by omega)))
theorem z_c__impl_ScanJob__goOn_97 (x : ScanJob) (cx_Tiles : Nat) (nx_Tiles : Nat) (hbdx_Tiles : (nx_Tiles : Int) ≤ 9223372036854775807) (hlex_Tiles : nx_Tiles = x.Tiles.length) (v : Int) (hp0 : JobOK x) (hp1 : v ≤ 0 ∨ 0 ≤ lastB x.Tiles v x.Next.toNat) (h31 : ¬ (0 < v)) : x.Next = (goN x v).Next := by
  have hrg := job_rng hp0; unfold goN; first | (rw [if_neg ‹_›]; done) | (rw [if_pos ‹_›]; first | done | (obtain rfl : i = x.Tiles.length := (by omega); first | rfl | exact zf_wrap ‹JobOK x› (by omega)))
theorem z_c__impl_ScanJob__goOn_98 (x : ScanJob) (cx_Tiles : Nat) (nx_Tiles : Nat) (hbdx_Tiles : (nx_Tiles : Int) ≤ 9223372036854775807) (hlex_Tiles : nx_Tiles = x.Tiles.length) (v : Int) (hp0 : JobOK x) (hp1 : v ≤ 0 ∨ 0 ≤ lastB x.Tiles v x.Next.toNat) (h31 : ¬ (0 < v)) : 0 = (goN x v).Fails := by
  have hrg := job_rng hp0; unfold goN; first | (rw [if_neg ‹_›]; done) | (rw [if_pos ‹_›]; first | done | (obtain rfl : i = x.Tiles.length := (by omega); first | rfl | exact zf_wrap ‹JobOK x› (by omega)))
theorem z_c__impl_ScanJob__goOn_99 (x : ScanJob) (cx_Tiles : Nat) (nx_Tiles : Nat) (hbdx_Tiles : (nx_Tiles : Int) ≤ 9223372036854775807) (hlex_Tiles : nx_Tiles = x.Tiles.length) (v : Int) (hp0 : JobOK x) (hp1 : v ≤ 0 ∨ 0 ≤ lastB x.Tiles v x.Next.toNat) (h31 : ¬ (0 < v)) : x.Size = (goN x v).Size := by
  have hrg := job_rng hp0; unfold goN; first | (rw [if_neg ‹_›]; done) | (rw [if_pos ‹_›]; first | done | (obtain rfl : i = x.Tiles.length := (by omega); first | rfl | exact zf_wrap ‹JobOK x› (by omega)))
theorem c__impl_ScanJob__goOn (w : World) (x : ScanJob) {Ax_Tiles : Option Addr} {nx_Tiles cx_Tiles Bx_Tiles : Nat} (hx_Tiles : SlO w Bx_Tiles encI 1 3 Ax_Tiles nx_Tiles cx_Tiles x.Tiles) (v : Int) (hp0 : JobOK x) (hp1 : v ≤ 0 ∨ 0 ≤ lastB x.Tiles v x.Next.toNat) : Calls Tryd.prog 126 #[.agg (List.toArray [.int .i64 x.State, .slice Ax_Tiles nx_Tiles cx_Tiles, .int .i64 x.Next, .int .i64 x.Fails, .int .i64 x.Size]), .int .i64 v] w fun e w' => ∃ (A1' : Option Addr) (n1' c1' : Nat), e = .returned (.agg (List.toArray [.int .i64 ((goN x v).State), .slice A1' n1' c1', .int .i64 ((goN x v).Next), .int .i64 ((goN x v).Fails), .int .i64 ((goN x v).Size)])) ∧ SlO w' Bx_Tiles encI 1 3 A1' n1' c1' ((goN x v).Tiles) ∧ (∀ b_, A1' = some ⟨b_, 0, none⟩ → (Ax_Tiles = some ⟨b_, 0, none⟩) ∨ w.heap.size ≤ b_) ∧ Kp (fun b_ => Ax_Tiles = some ⟨b_, 0, none⟩) w w' := by
  refine calls_W 33 Tryd.func126 rfl rfl rfl ?_
  have hcpx_Tiles := hx_Tiles.rd.cap
  have hbbx_Tiles := hx_Tiles.rd.bd
  have hbdx_Tiles := hx_Tiles.rd.bound
  have hlex_Tiles := hx_Tiles.len
  have hBbx_Tiles := hx_Tiles.bd
  have hrg := job_rng hp0
  refine W.seq ?_
  refine W.regS (SR.box (v := .agg (List.toArray _)) (l := [.int .i64 x.State, .slice Ax_Tiles nx_Tiles cx_Tiles, .int .i64 x.Next, .int .i64 x.Fails, .int .i64 x.Size]) rfl rfl ?_)
  intro g1 w2 hg3 hk4 hs5 hb6
  have hz7 := hk4.size
  have hB8 := (Kp.refl w : Kp (fun b_ => Ax_Tiles = some ⟨b_, 0, none⟩) w w).lo hk4
  have hd9 : ¬ Ax_Tiles = some ⟨g1, 0, none⟩ := fun e' => by have := (hx_Tiles).base_le e'; omega
  refine SR.alloc (l := [.int .i64 0, .slice none 0 0, .int .i64 0, .int .i64 0, .int .i64 0]) tz57 rfl ?_
  intro g10 w11 hg12 hk13 hs14 hb15
  have hz16 := hk13.size
  have hB17 := hB8.lo hk13
  have hd18 : ¬ Ax_Tiles = some ⟨g10, 0, none⟩ := fun e' => by have := ((hx_Tiles).lo hk4).base_le e'; omega
  refine SR.nil ?_
  refine W.seq ?_
  refine W.regS (SR.q' (r_fa fa57_0 rfl) <| SR.store (o := 0) (vs := [.int .i64 1]) sca3.2 rfl rfl rfl rfl ((hb6).lo hk13) (Nat.le_of_ble_eq_true rfl) rfl ?_)
  intro w19 hk20 hs21 hb22
  have hz23 := hk20.size
  have hB24 := hB17.new hk20 (by omega)
  refine SR.q' (r_fa fa57_3 rfl) <| SR.store (o := 3) (vs := [.int .i64 0]) sca3.2 rfl rfl rfl rfl (hb22) (Nat.le_of_ble_eq_true rfl) rfl ?_
  intro w25 hk26 hs27 hb28
  have hz29 := hk26.size
  have hB30 := hB24.new hk26 (by omega)
  refine SR.nil ?_
  refine W.seq ?_
  refine W.seq ?_
  refine W.regS (SR.q' (r_mv (v := .int .i64 _) rfl) <| SR.q' (r_gt rfl rfl) <| SR.nil ?_)
  refine W.cond_d rfl (fun h31 => ?_) (fun h31 => ?_)
  · refine W.seq ?_
    refine W.regS (SR.q' (r_lda (l := [.int .i64 1, .slice Ax_Tiles nx_Tiles cx_Tiles, .int .i64 x.Next, .int .i64 0, .int .i64 x.Size]) agg57 rfl (fun _ _ hu => (hb28).cell hu) rfl) <| SR.q' (r_mv (v := .int .i64 _) rfl) <| SR.call ent125 (c__impl_ScanJob__lastBelow w25 (⟨1, x.Tiles, x.Next, 0, x.Size⟩ : ScanJob) (((((((hx_Tiles).lo hk4).lo hk13).kp hk20 (fun b_ hb e' => hd9 (by have e'' : b_ = g1 := e'; rw [← e'']; exact hb))).kp hk26 (fun b_ hb e' => hd9 (by have e'' : b_ = g1 := e'; rw [← e'']; exact hb))).rd)) v (by first | omega | (dsimp only; omega))) rfl ?_)
    rintro e w32 ⟨rfl, hk33⟩
    refine ⟨_, rfl, ?_⟩
    have hz34 := hk33.size
    have hB35 := hB30.lo hk33
    have hq36 : -1 ≤ lastB x.Tiles v x.Next.toNat ∧ lastB x.Tiles v x.Next.toNat < (x.Next.toNat : Int) := lastB_rng x.Next.toNat
    refine SR.q' (r_fa fa57_2 rfl) <| SR.store (o := 2) (vs := [.int .i64 (lastB x.Tiles v x.Next.toNat)]) sca3.2 rfl rfl rfl rfl ((hb28).lo hk33) (Nat.le_of_ble_eq_true rfl) rfl ?_
    intro w37 hk38 hs39 hb40
    have hz41 := hk38.size
    have hB42 := hB35.new hk38 (by omega)
    refine SR.nil ?_
    refine W.seq ?_
    refine W.seq ?_
    refine W.regS (SR.q' (r_fa fa57_2 rfl) <| SR.q' (r_ld (v := .int .i64 (lastB x.Tiles v x.Next.toNat)) sca3 rfl ((hb40).cell rfl)) <| SR.q' (r_as (v := .int .i64 _) rfl) <| SR.nil ?_)
    refine W.block ?_
    refine W.loop (σ := Nat) (fun g => [(2, .pointer (some ((⟨g1, 0, none⟩ : Addr)))), (4, .pointer (some ((⟨g10, 0, none⟩ : Addr)))), (5, .int .i64 (g : Int))]) (fun g w' => (Kp (fun b_ => Ax_Tiles = some ⟨b_, 0, none⟩) w w') ∧ (Blk w' g1 57 [.int .i64 1, .slice Ax_Tiles nx_Tiles cx_Tiles, .int .i64 (lastB x.Tiles v x.Next.toNat), .int .i64 0, .int .i64 x.Size]) ∧ (SlO w' Bx_Tiles encI 1 3 Ax_Tiles nx_Tiles cx_Tiles (zf x.Tiles (lastB x.Tiles v x.Next.toNat).toNat g)) ∧ (Blk w' g10 57 [.int .i64 0, .slice none 0 0, .int .i64 0, .int .i64 0, .int .i64 0]) ∧ ((lastB x.Tiles v x.Next.toNat).toNat ≤ g ∧ g ≤ nx_Tiles)) (fun g => nx_Tiles - g) ((lastB x.Tiles v x.Next.toNat).toNat) ?_ ?_ ?_
    · exact ⟨rfl, rfl, (eI (by first | omega | (dsimp only; omega))), trivial⟩
    · exact ⟨hB42, hb40, (SlO.eqv (((((((hx_Tiles).lo hk4).lo hk13).kp hk20 (fun b_ hb e' => hd9 (by have e'' : b_ = g1 := e'; rw [← e'']; exact hb))).kp hk26 (fun b_ hb e' => hd9 (by have e'' : b_ = g1 := e'; rw [← e'']; exact hb))).lo hk33).kp hk38 (fun b_ hb e' => hd9 (by have e'' : b_ = g1 := e'; rw [← e'']; exact hb))) (z_c__impl_ScanJob__goOn_44 x cx_Tiles nx_Tiles hbdx_Tiles hlex_Tiles v hp0 hp1 h31 hq36)), ((((hb15).kp hk20 (fun e' => by have e'' : g10 = g1 := e'; omega)).kp hk26 (fun e' => by have e'' : g10 = g1 := e'; omega)).lo hk33).kp hk38 (fun e' => by have e'' : g10 = g1 := e'; omega), (z_c__impl_ScanJob__goOn_43 x cx_Tiles nx_Tiles hbdx_Tiles hlex_Tiles v hp0 hp1 h31 hq36)⟩
    · rintro i f45 w46 hP48
      obtain ⟨hB47, hm49, hm50, hm51, hi52⟩ : (Kp (fun b_ => Ax_Tiles = some ⟨b_, 0, none⟩) w w46) ∧ (Blk w46 g1 57 [.int .i64 1, .slice Ax_Tiles nx_Tiles cx_Tiles, .int .i64 (lastB x.Tiles v x.Next.toNat), .int .i64 0, .int .i64 x.Size]) ∧ (SlO w46 Bx_Tiles encI 1 3 Ax_Tiles nx_Tiles cx_Tiles (zf x.Tiles (lastB x.Tiles v x.Next.toNat).toNat i)) ∧ (Blk w46 g10 57 [.int .i64 0, .slice none 0 0, .int .i64 0, .int .i64 0, .int .i64 0]) ∧ ((lastB x.Tiles v x.Next.toNat).toNat ≤ i ∧ i ≤ nx_Tiles) := hP48
      refine (?_ : W _ _ _ _ _ (act _ (sets f45 [(2, .pointer (some ((⟨g1, 0, none⟩ : Addr)))), (4, .pointer (some ((⟨g10, 0, none⟩ : Addr)))), (5, .int .i64 (i : Int))])) _)
      have hzw46 := hB47.size
      have hl53 := hm49.lt
      have hl54 := hm51.lt
      refine W.seq ?_
      refine W.seq ?_
      refine W.regS (SR.q' (r_mv (v := .int .i64 _) rfl) <| SR.q' (r_fa fa57_1 rfl) <| SR.q' (r_ld (v := .slice Ax_Tiles nx_Tiles cx_Tiles) sca38 rfl ((hm49).cell rfl)) <| SR.q' (r_len und38 rfl) <| SR.q' (r_lt rfl rfl) <| SR.nil ?_)
      refine W.cond_d rfl (fun h55 => ?_) (fun h55 => ?_)
      · refine W.skip ?_
        refine W.seq ?_
        refine W.block ?_
        refine W.regS (SR.q' (r_fa fa57_1 rfl) <| SR.q' (r_ld (v := .slice Ax_Tiles nx_Tiles cx_Tiles) sca38 rfl ((hm49).cell rfl)) <| SR.q' (r_mv (v := .int .i64 _) rfl) <| ?_)
        have hx57 := ((hm50).rd).elem (i := i) (by omega)
        refine SR.q' (r_ixR tsl38 ((hm50).rd) rfl rfl (by omega)) <| SR.storeO (o := 0) (vs := [.int .i64 0]) (x1 := 0) sca3.2 rfl rfl rfl rfl (hm50) hx57 rfl (Nat.le_of_ble_eq_true rfl) rfl ?_
        intro w58 hk59 hs60 hO61
        have hz62 := hk59.size
        have hB63 := hB47.step hk59 (fun i_ hi_ e' => by have := ((hm50)).base_le e'; first | omega | (exfalso; omega) | exact e' | exact .inl e' | exact .inr e')
        have hx64 : ((zf x.Tiles (lastB x.Tiles v x.Next.toNat).toNat i).set ((i : Int).toNat) 0)[(i : Int).toNat]? = some (0) := List.getElem?_set_self (List.getElem?_eq_some_iff.1 hx57).1
        refine SR.nil ?_
        refine W.regS (SR.q' (r_mv (v := .int .i64 _) rfl) <| SR.q' (r_add rfl rfl (by omega)) <| SR.q' (r_as (v := .int .i64 _) rfl) <| SR.nil ?_)
        refine ⟨i + 1, _, rfl, ⟨rfl, rfl, (eI (by first | omega | (dsimp only; omega))), trivial⟩, ⟨hB63, (hm49).kp hk59 (fun e' => hd9 e'), (SlO.eqv (hO61) (z_c__impl_ScanJob__goOn_65 x cx_Tiles nx_Tiles hbdx_Tiles hlex_Tiles v hp0 hp1 h31 hq36 i hi52 h55 hx57 hx64)), (hm51).kp hk59 (fun e' => hd18 e'), ?_⟩, ?_⟩
        · exact (z_c__impl_ScanJob__goOn_66 x cx_Tiles nx_Tiles hbdx_Tiles hlex_Tiles v hp0 hp1 h31 hq36 i hi52 h55 hx57 hx64)
        · exact (z_c__impl_ScanJob__goOn_67 x cx_Tiles nx_Tiles hbdx_Tiles hlex_Tiles v hp0 hp1 h31 hq36 i hi52 h55 hx57 hx64)
      · refine W.exit (xin_here ?_)
        refine W.regS (SR.q' (r_fa fa57_1 rfl) <| SR.q' (r_ld (v := .slice Ax_Tiles nx_Tiles cx_Tiles) sca38 rfl ((hm49).cell rfl)) <| SR.call ent75 (c_impl_sum w46 (zf x.Tiles (lastB x.Tiles v x.Next.toNat).toNat i) (((hm50).rd))) rfl ?_)
        rintro e w68 ⟨rfl, hk69⟩
        refine ⟨_, rfl, ?_⟩
        have hz70 := hk69.size
        have hB71 := hB47.lo hk69
        refine SR.q' (r_mulW rfl rfl) <| SR.q' (r_fa fa57_4 rfl) <| SR.store (o := 4) (vs := [.int .i64 (IntKind.i64.wrap (10 * (wsum (zf x.Tiles (lastB x.Tiles v x.Next.toNat).toNat i))))]) sca3.2 rfl rfl rfl rfl ((hm49).lo hk69) (Nat.le_of_ble_eq_true rfl) rfl ?_
        intro w72 hk73 hs74 hb75
        have hz76 := hk73.size
        have hB77 := hB71.new hk73 (by omega)
        refine SR.nil ?_
        refine W.seq ?_
        refine W.regS (SR.q' (r_lda (l := [.int .i64 1, .slice Ax_Tiles nx_Tiles cx_Tiles, .int .i64 (lastB x.Tiles v x.Next.toNat), .int .i64 0, .int .i64 (IntKind.i64.wrap (10 * (wsum (zf x.Tiles (lastB x.Tiles v x.Next.toNat).toNat i))))]) agg57 rfl (fun _ _ hu => (hb75).cell hu) rfl) <| SR.store (o := 0) (vs := [.int .i64 1, .slice Ax_Tiles nx_Tiles cx_Tiles, .int .i64 (lastB x.Tiles v x.Next.toNat), .int .i64 0, .int .i64 (IntKind.i64.wrap (10 * (wsum (zf x.Tiles (lastB x.Tiles v x.Next.toNat).toNat i))))]) agg57.2 rfl rfl rfl rfl (((hm51).lo hk69).kp hk73 (fun e' => by have e'' : g10 = g1 := e'; omega)) (Nat.le_of_ble_eq_true rfl) rfl ?_)
        intro w78 hk79 hs80 hb81
        have hz82 := hk79.size
        have hB83 := hB77.new hk79 (by omega)
        refine SR.nil ?_
        refine W.ret ?_
        refine retC rfl rfl agg57 (hb81) rfl ?_
        exact ⟨Ax_Tiles, nx_Tiles, cx_Tiles, eR (eA (eC (eI (z_c__impl_ScanJob__goOn_85 x cx_Tiles nx_Tiles hbdx_Tiles hlex_Tiles v hp0 hp1 h31 hq36 i hi52 h55)) (eC rfl (eC (eI (z_c__impl_ScanJob__goOn_86 x cx_Tiles nx_Tiles hbdx_Tiles hlex_Tiles v hp0 hp1 h31 hq36 i hi52 h55)) (eC (eI (z_c__impl_ScanJob__goOn_87 x cx_Tiles nx_Tiles hbdx_Tiles hlex_Tiles v hp0 hp1 h31 hq36 i hi52 h55)) (eC (eI (z_c__impl_ScanJob__goOn_88 x cx_Tiles nx_Tiles hbdx_Tiles hlex_Tiles v hp0 hp1 h31 hq36 i hi52 h55)) rfl)))))), (SlO.eqv ((((hm50).lo hk69).kp hk73 (fun b_ hb e' => hd9 (by have e'' : b_ = g1 := e'; rw [← e'']; exact hb))).kp hk79 (fun b_ hb e' => hd18 (by have e'' : b_ = g10 := e'; rw [← e'']; exact hb))) (z_c__impl_ScanJob__goOn_84 x cx_Tiles nx_Tiles hbdx_Tiles hlex_Tiles v hp0 hp1 h31 hq36 i hi52 h55)), (fun b_ h_ => .inl (h_)), hB83⟩
  · refine W.skip ?_
    refine W.seq ?_
    refine W.regS (SR.q' (r_lda (l := [.int .i64 1, .slice Ax_Tiles nx_Tiles cx_Tiles, .int .i64 x.Next, .int .i64 0, .int .i64 x.Size]) agg57 rfl (fun _ _ hu => (hb28).cell hu) rfl) <| SR.store (o := 0) (vs := [.int .i64 1, .slice Ax_Tiles nx_Tiles cx_Tiles, .int .i64 x.Next, .int .i64 0, .int .i64 x.Size]) agg57.2 rfl rfl rfl rfl (((hb15).kp hk20 (fun e' => by have e'' : g10 = g1 := e'; omega)).kp hk26 (fun e' => by have e'' : g10 = g1 := e'; omega)) (Nat.le_of_ble_eq_true rfl) rfl ?_)
    intro w89 hk90 hs91 hb92
    have hz93 := hk90.size
    have hB94 := hB30.new hk90 (by omega)
    refine SR.nil ?_
    refine W.ret ?_
    refine retC rfl rfl agg57 (hb92) rfl ?_
    exact ⟨Ax_Tiles, nx_Tiles, cx_Tiles, eR (eA (eC (eI (z_c__impl_ScanJob__goOn_96 x cx_Tiles nx_Tiles hbdx_Tiles hlex_Tiles v hp0 hp1 h31)) (eC rfl (eC (eI (z_c__impl_ScanJob__goOn_97 x cx_Tiles nx_Tiles hbdx_Tiles hlex_Tiles v hp0 hp1 h31)) (eC (eI (z_c__impl_ScanJob__goOn_98 x cx_Tiles nx_Tiles hbdx_Tiles hlex_Tiles v hp0 hp1 h31)) (eC (eI (z_c__impl_ScanJob__goOn_99 x cx_Tiles nx_Tiles hbdx_Tiles hlex_Tiles v hp0 hp1 h31)) rfl)))))), (SlO.eqv ((((((hx_Tiles).lo hk4).lo hk13).kp hk20 (fun b_ hb e' => hd9 (by have e'' : b_ = g1 := e'; rw [← e'']; exact hb))).kp hk26 (fun b_ hb e' => hd9 (by have e'' : b_ = g1 := e'; rw [← e'']; exact hb))).kp hk90 (fun b_ hb e' => hd18 (by have e'' : b_ = g10 := e'; rw [← e'']; exact hb))) (z_c__impl_ScanJob__goOn_95 x cx_Tiles nx_Tiles hbdx_Tiles hlex_Tiles v hp0 hp1 h31)), (fun b_ h_ => .inl (h_)), hB94⟩
end Go.Proofs.YtlpapeeaghmjpaaDoor
