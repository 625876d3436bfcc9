/- Walks, printed by a program of this claim's author. -/
import Derived.Test.YtlpapeeaghmjpaaDoorChecked
import Derived.Test.YtlpapeeaghmjpaaDoorSd
import Derived.Test.YtlpapeeaghmjpaaDoorFu
import Derived.Test.YtlpapeeaghmjpaaDoorFs
import Derived.Test.YtlpapeeaghmjpaaDoorFq
import Derived.Test.YtlpapeeaghmjpaaDoorFo
import Derived.Test.YtlpapeeaghmjpaaDoorSm
import Derived.Test.YtlpapeeaghmjpaaDoorG29ja
namespace Go.Proofs.YtlpapeeaghmjpaaDoor
open Go Go.RowKit Fw
set_option maxRecDepth 10000
set_option linter.unusedVariables false
theorem bld85_0 (a0 : Option Addr) (b0 c0 : Nat) : Tryd.prog.built 85 [(0, .slice a0 b0 c0)] = some (List.toArray [.slice a0 b0 c0, .int .i64 0, .int .u64 0]) := by kernel_rfl
theorem ent105 : Ent Tryd.prog 105 := ent_of Tryd.func105 (by decide +kernel) rfl
theorem ent49 : Ent Tryd.prog 49 := ent_of Tryd.func49 (by decide +kernel) rfl
theorem ent68 : Ent Tryd.prog 68 := ent_of Tryd.func68 (by decide +kernel) rfl
theorem ent72 : Ent Tryd.prog 72 := ent_of Tryd.func72 (by decide +kernel) rfl
theorem sca9 : TSca Tryd.prog 9 := ⟨fun _ => by kernel_rfl, fun _ => by kernel_rfl⟩
theorem tel92 : TEl Tryd.prog 92 9 (str ([] : List UInt8)) 1 16 := ⟨by kernel_rfl, by kernel_rfl, rfl, by decide⟩
theorem tsl92 : TSl Tryd.prog 92 9 1 := ⟨by kernel_rfl, fun _ => by kernel_rfl⟩

theorem z_c_slices_Min___int_int__3 (L : List Int) (nL : Nat) (hbdL : (nL : Int) ≤ 9223372036854775807) (hleL : nL = L.length) (hp0 : 0 < nL) (hx2 : L[0]? = some (gt L 0)) : 0 + 1 ≤ nL := by
  omega
theorem z_c_slices_Min___int_int__14 (L : List Int) (nL : Nat) (hbdL : (nL : Int) ≤ 9223372036854775807) (hleL : nL = L.length) (hp0 : 0 < nL) (hx2 : L[0]? = some (gt L 0)) (k : Nat) (hi9 : k + 1 ≤ nL) (h10 : ((k : Int) + 1) < (nL : Int)) (hx12 : L[k + 1]? = some (gt L (k + 1))) : k + 1 + 1 ≤ nL := by
  omega
theorem z_c_slices_Min___int_int__15 (L : List Int) (nL : Nat) (hbdL : (nL : Int) ≤ 9223372036854775807) (hleL : nL = L.length) (hp0 : 0 < nL) (hx2 : L[0]? = some (gt L 0)) (k : Nat) (hi9 : k + 1 ≤ nL) (h10 : ((k : Int) + 1) < (nL : Int)) (hx12 : L[k + 1]? = some (gt L (k + 1))) : nL - (k + 1) < nL - k := by
  omega
theorem z_c_slices_Min___int_int__16 (L : List Int) (nL : Nat) (hbdL : (nL : Int) ≤ 9223372036854775807) (hleL : nL = L.length) (hp0 : 0 < nL) (hx2 : L[0]? = some (gt L 0)) (k : Nat) (hi9 : k + 1 ≤ nL) (h10 : ¬ (((k : Int) + 1) < (nL : Int))) : minT L k = minT L (L.length - 1) := by
  exact congrArg (minT L) (by omega)
theorem c_slices_Min___int_int_ (w : World) {AL : Option Addr} {nL cL BL : Nat}  (L : List Int) (hL : SlR w BL encI 1 AL nL cL L) (hp0 : 0 < nL) : Calls Tryd.prog 72 #[.slice AL nL cL] w fun e w' => e = .returned (.int .i64 (minT L (L.length - 1))) ∧ Lo w w' := by
  refine calls_W 25 Tryd.func72 rfl rfl rfl ?_
  have hbdL := hL.bound
  have hleL := hL.len
  have hBbL := hL.bd
  refine W.seq ?_
  refine W.regS (SR.q' (r_as (v := .int .i64 0) rfl) <| SR.nil ?_)
  refine W.seq ?_
  refine W.seq ?_
  refine W.regS (SR.q' (r_mv (v := .slice _ _ _) rfl) <| SR.q' (r_len und38 rfl) <| SR.q' (r_lt rfl rfl) <| SR.nil ?_)
  refine W.cond_f (congrArg Value.bool (decide_eq_false (by omega))) ?_
  refine W.skip ?_
  refine W.seq ?_
  refine W.regS (SR.q' (r_mv (v := .slice _ _ _) rfl) <| ?_)
  have hx2 := (hL).elem (i := 0) (by omega)
  refine SR.q' (r_ixR tsl38 (hL) rfl rfl (by omega)) <| SR.q' (r_ld (v := .int .i64 (gt L 0)) sca3 rfl ((hL).cell0 hx2 rfl)) <| SR.q' (r_as (v := .int .i64 _) rfl) <| SR.nil ?_
  refine W.seq ?_
  refine W.seq ?_
  refine W.regS (SR.q' (r_as (v := .int .i64 1) rfl) <| SR.nil ?_)
  refine W.block ?_
  refine W.loop (σ := Nat) (fun g => [(0, .slice AL nL cL), (2, .int .i64 0), (3, .int .i64 (minT L g)), (4, .int .i64 ((g : Int) + 1))]) (fun g w' => (Lo w w') ∧ (SlR w' BL encI 1 AL nL cL L) ∧ (g + 1 ≤ nL)) (fun g => nL - g) 0 ?_ ?_ ?_
  · exact ⟨rfl, rfl, (eI (by first | (first | omega | rfl | exact gt_eq ‹L[_]? = some _› | exact (gt_eq ‹L[_]? = some _›).symm | exact min_next ‹L[_]? = some _›) | (dsimp only; (first | omega | rfl | exact gt_eq ‹L[_]? = some _› | exact (gt_eq ‹L[_]? = some _›).symm | exact min_next ‹L[_]? = some _›)))), (eI (by first | (first | omega | rfl | exact gt_eq ‹L[_]? = some _› | exact (gt_eq ‹L[_]? = some _›).symm | exact min_next ‹L[_]? = some _›) | (dsimp only; (first | omega | rfl | exact gt_eq ‹L[_]? = some _› | exact (gt_eq ‹L[_]? = some _›).symm | exact min_next ‹L[_]? = some _›)))), trivial⟩
  · exact ⟨(Lo.refl w), hL, (z_c_slices_Min___int_int__3 L nL hbdL hleL hp0 hx2)⟩
  · rintro k f4 w5 hP7
    obtain ⟨hB6, hm8, hi9⟩ : (Lo w w5) ∧ (SlR w5 BL encI 1 AL nL cL L) ∧ (k + 1 ≤ nL) := hP7
    refine (?_ : W _ _ _ _ _ (act _ (sets f4 [(0, .slice AL nL cL), (2, .int .i64 0), (3, .int .i64 (minT L k)), (4, .int .i64 ((k : Int) + 1))])) _)
    have hzw5 := hB6.size
    refine W.seq ?_
    refine W.seq ?_
    refine W.regS (SR.q' (r_mv (v := .int .i64 _) rfl) <| SR.q' (r_mv (v := .slice _ _ _) rfl) <| SR.q' (r_len und38 rfl) <| SR.q' (r_lt rfl rfl) <| SR.nil ?_)
    refine W.cond_d rfl (fun h10 => ?_) (fun h10 => ?_)
    · refine W.skip ?_
      refine W.seq ?_
      refine W.block ?_
      refine W.regS (SR.q' (r_mv (v := .int .i64 _) rfl) <| SR.q' (r_mv (v := .slice _ _ _) rfl) <| SR.q' (r_mv (v := .int .i64 _) rfl) <| ?_)
      have hx12 := (hm8).elem (i := ((k : Int) + 1).toNat) (by omega)
      rw [show ((k : Int) + 1).toNat = k + 1 from by omega] at hx12
      have hx13 : L[((k : Int) + 1).toNat]? = some (gt L (k + 1)) := (show ((k : Int) + 1).toNat = k + 1 from by omega) ▸ hx12
      refine SR.q' (r_ixR tsl38 (hm8) rfl rfl (by omega)) <| SR.q' (r_ld (v := .int .i64 (gt L (k + 1))) sca3 rfl ((hm8).cell0 hx13 rfl)) <| SR.q' (r_min rfl rfl) <| SR.q' (r_as (v := .int .i64 _) rfl) <| SR.nil ?_
      refine W.regS (SR.q' (r_mv (v := .int .i64 _) rfl) <| SR.q' (r_add rfl rfl (by omega)) <| SR.q' (r_as (v := .int .i64 _) rfl) <| SR.nil ?_)
      refine ⟨k + 1, _, rfl, ⟨rfl, rfl, (eI (by first | (first | omega | rfl | exact gt_eq ‹L[_]? = some _› | exact (gt_eq ‹L[_]? = some _›).symm | exact min_next ‹L[_]? = some _›) | (dsimp only; (first | omega | rfl | exact gt_eq ‹L[_]? = some _› | exact (gt_eq ‹L[_]? = some _›).symm | exact min_next ‹L[_]? = some _›)))), (eI (by first | (first | omega | rfl | exact gt_eq ‹L[_]? = some _› | exact (gt_eq ‹L[_]? = some _›).symm | exact min_next ‹L[_]? = some _›) | (dsimp only; (first | omega | rfl | exact gt_eq ‹L[_]? = some _› | exact (gt_eq ‹L[_]? = some _›).symm | exact min_next ‹L[_]? = some _›)))), trivial⟩, ⟨hB6, hm8, ?_⟩, ?_⟩
      · exact (z_c_slices_Min___int_int__14 L nL hbdL hleL hp0 hx2 k hi9 h10 hx12)
      · exact (z_c_slices_Min___int_int__15 L nL hbdL hleL hp0 hx2 k hi9 h10 hx12)
    · refine W.exit (xin_here ?_)
      refine W.seq ?_
      refine W.regS (SR.q' (r_mv (v := .int .i64 _) rfl) <| SR.q' (r_as (v := .int .i64 _) rfl) <| SR.nil ?_)
      refine W.ret ?_
      refine ret1 rfl (v := .int .i64 _) rfl ?_
      exact ⟨eR (eI (z_c_slices_Min___int_int__16 L nL hbdL hleL hp0 hx2 k hi9 h10)), hB6⟩

theorem z_c_impl_WorstTile_22 (x : ScanJob) (nx_Tiles : Nat) (hbdx_Tiles : (nx_Tiles : Int) ≤ 9223372036854775807) (hlex_Tiles : nx_Tiles = x.Tiles.length) (h21 : (¬ (JobOK x)) ∨ (x.Next = 0)) : 0 = (worstN x).1 := by
  first | (rw [worst_no ‹_ ∨ _›]; done) | exact worst_1 ‹JobOK x› (by omega) | exact worst_1S ‹JobOK x› (by omega) (by omega)
theorem z_c_impl_WorstTile_23 (x : ScanJob) (nx_Tiles : Nat) (hbdx_Tiles : (nx_Tiles : Int) ≤ 9223372036854775807) (hlex_Tiles : nx_Tiles = x.Tiles.length) (h21 : (¬ (JobOK x)) ∨ (x.Next = 0)) : 0 = (worstN x).2 := by
  first | (rw [worst_no ‹_ ∨ _›]; done) | exact worst_2 ‹JobOK x› (by omega) | exact worst_2S ‹JobOK x› (by omega) (k := k) (by omega) ‹_[_]? = some _› | exact worst_2G ‹JobOK x› (by omega) (by omega)
theorem z_c_impl_WorstTile_24 (x : ScanJob) (nx_Tiles : Nat) (hbdx_Tiles : (nx_Tiles : Int) ≤ 9223372036854775807) (hlex_Tiles : nx_Tiles = x.Tiles.length) (h21 : (¬ (JobOK x)) ∨ (x.Next = 0)) : ¬ (JobOK x ∧ ¬ x.Next = 0) := by
  first | exact ⟨‹JobOK x›, by omega⟩ | (intro hh; rcases ‹_ ∨ _› with h | h; exact h hh.1; exact hh.2 h)
theorem z_c_impl_WorstTile_37 (x : ScanJob) (nx_Tiles : Nat) (hbdx_Tiles : (nx_Tiles : Int) ≤ 9223372036854775807) (hlex_Tiles : nx_Tiles = x.Tiles.length) (h21 : ¬ ((¬ (JobOK x)) ∨ (x.Next = 0))) (hq25 : JobOK x) (hq26 : ¬ (x.Next = 0)) (hq27 : x.Tiles.length ≤ 8 ∧ takenN x.Tiles ≤ x.Tiles.length ∧ (0 ≤ sumI x.Tiles ∧ sumI x.Tiles ≤ 800) ∧ (1 ≤ (x.Tiles.length : Int) ∧ x.Next = (takenN x.Tiles : Int) ∧ x.Size = 10 * sumI x.Tiles ∧ (0 ≤ x.State ∧ x.State ≤ 3) ∧ (0 ≤ x.Fails ∧ x.Fails ≤ 3) ∧ (x.Fails = 3 → x.State = 2) ∧ (x.State = 0 → takenN x.Tiles = 0 ∧ x.Fails = 0) ∧ (x.State = 3 → takenN x.Tiles = x.Tiles.length))) (hq36 : idxF (eqI (minT (x.Tiles.take x.Next.toNat) ((x.Tiles.take x.Next.toNat).length - 1))) x.Tiles < (x.Tiles.length : Int) ∧ -1 ≤ idxF (eqI (minT (x.Tiles.take x.Next.toNat) ((x.Tiles.take x.Next.toNat).length - 1))) x.Tiles) : idxF (eqI (minT (x.Tiles.take x.Next.toNat) ((x.Tiles.take x.Next.toNat).length - 1))) x.Tiles = (worstN x).1 := by
  first | (rw [worst_no ‹_ ∨ _›]; done) | exact worst_1 ‹JobOK x› (by omega) | exact worst_1S ‹JobOK x› (by omega) (by omega)
theorem z_c_impl_WorstTile_38 (x : ScanJob) (nx_Tiles : Nat) (hbdx_Tiles : (nx_Tiles : Int) ≤ 9223372036854775807) (hlex_Tiles : nx_Tiles = x.Tiles.length) (h21 : ¬ ((¬ (JobOK x)) ∨ (x.Next = 0))) (hq25 : JobOK x) (hq26 : ¬ (x.Next = 0)) (hq27 : x.Tiles.length ≤ 8 ∧ takenN x.Tiles ≤ x.Tiles.length ∧ (0 ≤ sumI x.Tiles ∧ sumI x.Tiles ≤ 800) ∧ (1 ≤ (x.Tiles.length : Int) ∧ x.Next = (takenN x.Tiles : Int) ∧ x.Size = 10 * sumI x.Tiles ∧ (0 ≤ x.State ∧ x.State ≤ 3) ∧ (0 ≤ x.Fails ∧ x.Fails ≤ 3) ∧ (x.Fails = 3 → x.State = 2) ∧ (x.State = 0 → takenN x.Tiles = 0 ∧ x.Fails = 0) ∧ (x.State = 3 → takenN x.Tiles = x.Tiles.length))) (hq36 : idxF (eqI (minT (x.Tiles.take x.Next.toNat) ((x.Tiles.take x.Next.toNat).length - 1))) x.Tiles < (x.Tiles.length : Int) ∧ -1 ≤ idxF (eqI (minT (x.Tiles.take x.Next.toNat) ((x.Tiles.take x.Next.toNat).length - 1))) x.Tiles) : minT (x.Tiles.take x.Next.toNat) ((x.Tiles.take x.Next.toNat).length - 1) = (worstN x).2 := by
  first | (rw [worst_no ‹_ ∨ _›]; done) | exact worst_2 ‹JobOK x› (by omega) | exact worst_2S ‹JobOK x› (by omega) (k := k) (by omega) ‹_[_]? = some _› | exact worst_2G ‹JobOK x› (by omega) (by omega)
theorem z_c_impl_WorstTile_39 (x : ScanJob) (nx_Tiles : Nat) (hbdx_Tiles : (nx_Tiles : Int) ≤ 9223372036854775807) (hlex_Tiles : nx_Tiles = x.Tiles.length) (h21 : ¬ ((¬ (JobOK x)) ∨ (x.Next = 0))) (hq25 : JobOK x) (hq26 : ¬ (x.Next = 0)) (hq27 : x.Tiles.length ≤ 8 ∧ takenN x.Tiles ≤ x.Tiles.length ∧ (0 ≤ sumI x.Tiles ∧ sumI x.Tiles ≤ 800) ∧ (1 ≤ (x.Tiles.length : Int) ∧ x.Next = (takenN x.Tiles : Int) ∧ x.Size = 10 * sumI x.Tiles ∧ (0 ≤ x.State ∧ x.State ≤ 3) ∧ (0 ≤ x.Fails ∧ x.Fails ≤ 3) ∧ (x.Fails = 3 → x.State = 2) ∧ (x.State = 0 → takenN x.Tiles = 0 ∧ x.Fails = 0) ∧ (x.State = 3 → takenN x.Tiles = x.Tiles.length))) (hq36 : idxF (eqI (minT (x.Tiles.take x.Next.toNat) ((x.Tiles.take x.Next.toNat).length - 1))) x.Tiles < (x.Tiles.length : Int) ∧ -1 ≤ idxF (eqI (minT (x.Tiles.take x.Next.toNat) ((x.Tiles.take x.Next.toNat).length - 1))) x.Tiles) : JobOK x ∧ ¬ x.Next = 0 := by
  first | exact ⟨‹JobOK x›, by omega⟩ | (intro hh; rcases ‹_ ∨ _› with h | h; exact h hh.1; exact hh.2 h)
theorem c_impl_WorstTile (w : World) (x : ScanJob) {Ax_Tiles : Option Addr} {nx_Tiles cx_Tiles Bx_Tiles : Nat} (hx_Tiles : SlR w Bx_Tiles encI 1 Ax_Tiles nx_Tiles cx_Tiles x.Tiles) : Calls Tryd.prog 34 #[.agg (List.toArray [.int .i64 x.State, .slice Ax_Tiles nx_Tiles cx_Tiles, .int .i64 x.Next, .int .i64 x.Fails, .int .i64 x.Size])] w fun e w' => e = .returned (.tuple (List.toArray [.int .i64 ((worstN x).1), .int .i64 ((worstN x).2), .bool (decide (JobOK x ∧ ¬ x.Next = 0))])) ∧ Lo w w' := by
  refine calls_W 25 Tryd.func34 rfl rfl rfl ?_
  have hbdx_Tiles := hx_Tiles.bound
  have hlex_Tiles := hx_Tiles.len
  have hBbx_Tiles := hx_Tiles.bd
  refine W.seq ?_
  refine W.regS (SR.box (v := .agg (List.toArray _)) (l := [.int .i64 x.State, .slice Ax_Tiles nx_Tiles cx_Tiles, .int .i64 x.Next, .int .i64 x.Fails, .int .i64 x.Size]) rfl rfl ?_)
  intro g1 w2 hg3 hk4 hs5 hb6
  have hz7 := hk4.size
  have hB8 := (Lo.refl w).lo hk4
  refine SR.q' (r_as (v := .int .i64 0) rfl) <| SR.q' (r_as (v := .int .i64 0) rfl) <| SR.q' (r_as (v := .bool false) rfl) <| SR.nil ?_
  refine W.seq ?_
  refine W.seq ?_
  refine W.regJS (fun f' w' => At f' [(1, .pointer (some ((⟨g1, 0, none⟩ : Addr)))), (2, .int .i64 0), (3, .int .i64 0), (4, .bool false), (13, .bool (decide ((¬ (JobOK x)) ∨ (x.Next = 0))))] ∧ Lo w2 w') ?_ ?_
  · refine SR.q' (r_lda (l := [.int .i64 x.State, .slice Ax_Tiles nx_Tiles cx_Tiles, .int .i64 x.Next, .int .i64 x.Fails, .int .i64 x.Size]) agg57 rfl (fun _ _ hu => (hb6).cell hu) rfl) <| SR.call ent39 (c_impl_IsScanJob w2 x (((hx_Tiles).lo hk4))) rfl ?_
    rintro e w9 ⟨rfl, hk10⟩
    refine ⟨_, rfl, ?_⟩
    have hz11 := hk10.size
    have hB12 := hB8.lo hk10
    refine SR.q' (r_not rfl) <| SR.q' (r_mv (v := .bool _) rfl) <| SR.splitN (fun h13 => ?_) (fun h13 => ?_)
    · refine SR.s' rfl <| SR.s' rfl <| SR.s' rfl <| SR.q' (r_pick true rfl (v := .bool true) rfl) <| SR.nil ?_
      exact ⟨_, rfl, ⟨⟨rfl, rfl, rfl, rfl, (eDT ((jmf h13).1 trivial)), trivial⟩, (hk10)⟩⟩
    · have hq14 := job_rng h13
      refine SR.g' rfl (r_fa fa57_2 rfl) <| SR.g' rfl (r_ld (v := .int .i64 x.Next) sca3 rfl (((hb6).lo hk10).cell rfl)) <| SR.g' rfl (r_eq rfl rfl) <| SR.q' (r_pick false rfl (v := .bool _) rfl) <| SR.nil ?_
      exact ⟨_, rfl, ⟨⟨rfl, rfl, rfl, rfl, (eDD (jmt h13)), trivial⟩, (hk10)⟩⟩
  rintro f15 w16 ⟨hat17, hk18⟩
  rw [← sets_of_at hat17]
  have hz19 := hk18.size
  have hB20 := hB8.lo hk18
  refine W.cond_d rfl (fun h21 => ?_) (fun h21 => ?_)
  · refine W.seq ?_
    refine W.regS (SR.q' (r_as (v := .int .i64 0) rfl) <| SR.q' (r_as (v := .int .i64 0) rfl) <| SR.q' (r_as (v := .bool false) rfl) <| SR.nil ?_)
    refine W.ret ?_
    refine ret3 rfl (v := .int .i64 _) (v' := .int .i64 _) (v'' := .bool _) rfl rfl rfl ?_
    exact ⟨eR (eT3 (eI (z_c_impl_WorstTile_22 x nx_Tiles hbdx_Tiles hlex_Tiles h21)) (eI (z_c_impl_WorstTile_23 x nx_Tiles hbdx_Tiles hlex_Tiles h21)) (eDF (z_c_impl_WorstTile_24 x nx_Tiles hbdx_Tiles hlex_Tiles h21))), hB20⟩
  · have hq25 : JobOK x := (Classical.not_not.1 (not_or.1 h21).1)
    have hq26 : ¬ (x.Next = 0) := (not_or.1 h21).2
    have hq27 := job_rng hq25
    refine W.skip ?_
    refine W.seq ?_
    refine W.regS (SR.q' (r_fa fa57_1 rfl) <| SR.q' (r_ld (v := .slice Ax_Tiles nx_Tiles cx_Tiles) sca38 rfl (((hb6).lo hk18).cell rfl)) <| SR.q' (r_fa fa57_2 rfl) <| SR.q' (r_ld (v := .int .i64 x.Next) sca3 rfl (((hb6).lo hk18).cell rfl)) <| SR.q' (r_cuth (h := x.Next.toNat) tsl38 rfl rfl (by omega) (Nat.le_trans (by omega : x.Next.toNat ≤ nx_Tiles) (((hx_Tiles).lo hk4).lo hk18).cap)) <| SR.call ent72 (c_slices_Min___int_int_ w16 (x.Tiles.take x.Next.toNat) (((((hx_Tiles).lo hk4).lo hk18).head (h := x.Next.toNat) (by omega))) (by omega)) rfl ?_)
    rintro e w28 ⟨rfl, hk29⟩
    refine ⟨_, rfl, ?_⟩
    have hz30 := hk29.size
    have hB31 := hB20.lo hk29
    refine SR.q' (r_as (v := .int .i64 _) rfl) <| SR.nil ?_
    refine W.seq ?_
    refine W.regS (SR.q' (r_fa fa57_1 rfl) <| SR.q' (r_ld (v := .slice Ax_Tiles nx_Tiles cx_Tiles) sca38 rfl ((((hb6).lo hk18).lo hk29).cell rfl)) <| SR.q' (r_mv (v := .int .i64 _) rfl) <| SR.call ent73 (c_slices_Index___int_int_ w28 x.Tiles (((((hx_Tiles).lo hk4).lo hk18).lo hk29)) (minT (x.Tiles.take x.Next.toNat) ((x.Tiles.take x.Next.toNat).length - 1))) rfl ?_)
    rintro e w32 ⟨rfl, hk33⟩
    refine ⟨_, rfl, ?_⟩
    have hz34 := hk33.size
    have hB35 := hB31.lo hk33
    have hq36 : idxF (eqI (minT (x.Tiles.take x.Next.toNat) ((x.Tiles.take x.Next.toNat).length - 1))) x.Tiles < (x.Tiles.length : Int) ∧ -1 ≤ idxF (eqI (minT (x.Tiles.take x.Next.toNat) ((x.Tiles.take x.Next.toNat).length - 1))) x.Tiles := idx_lt
    refine SR.q' (r_mv (v := .int .i64 _) rfl) <| SR.q' (r_as (v := .int .i64 _) rfl) <| SR.q' (r_as (v := .int .i64 _) rfl) <| SR.q' (r_as (v := .bool true) rfl) <| SR.nil ?_
    refine W.ret ?_
    refine ret3 rfl (v := .int .i64 _) (v' := .int .i64 _) (v'' := .bool _) rfl rfl rfl ?_
    exact ⟨eR (eT3 (eI (z_c_impl_WorstTile_37 x nx_Tiles hbdx_Tiles hlex_Tiles h21 hq25 hq26 hq27 hq36)) (eI (z_c_impl_WorstTile_38 x nx_Tiles hbdx_Tiles hlex_Tiles h21 hq25 hq26 hq27 hq36)) (eDT (z_c_impl_WorstTile_39 x nx_Tiles hbdx_Tiles hlex_Tiles h21 hq25 hq26 hq27 hq36))), hB35⟩

theorem z_c_spec_WorstTile_22 (x : ScanJob) (nx_Tiles : Nat) (hbdx_Tiles : (nx_Tiles : Int) ≤ 9223372036854775807) (hlex_Tiles : nx_Tiles = x.Tiles.length) (h21 : (¬ (JobOK x)) ∨ (x.Next = 0)) : 0 = (worstN x).1 := by
  first | (rw [worst_no ‹_ ∨ _›]; done) | exact worst_1 ‹JobOK x› (by omega) | exact worst_1S ‹JobOK x› (by omega) (by omega)
theorem z_c_spec_WorstTile_23 (x : ScanJob) (nx_Tiles : Nat) (hbdx_Tiles : (nx_Tiles : Int) ≤ 9223372036854775807) (hlex_Tiles : nx_Tiles = x.Tiles.length) (h21 : (¬ (JobOK x)) ∨ (x.Next = 0)) : 0 = (worstN x).2 := by
  first | (rw [worst_no ‹_ ∨ _›]; done) | exact worst_2 ‹JobOK x› (by omega) | exact worst_2S ‹JobOK x› (by omega) (k := k) (by omega) ‹_[_]? = some _› | exact worst_2G ‹JobOK x› (by omega) (by omega)
theorem z_c_spec_WorstTile_24 (x : ScanJob) (nx_Tiles : Nat) (hbdx_Tiles : (nx_Tiles : Int) ≤ 9223372036854775807) (hlex_Tiles : nx_Tiles = x.Tiles.length) (h21 : (¬ (JobOK x)) ∨ (x.Next = 0)) : ¬ (JobOK x ∧ ¬ x.Next = 0) := by
  first | exact ⟨‹JobOK x›, by omega⟩ | (intro hh; rcases ‹_ ∨ _› with h | h; exact h hh.1; exact hh.2 h)
theorem z_c_spec_WorstTile_28 (x : ScanJob) (nx_Tiles : Nat) (hbdx_Tiles : (nx_Tiles : Int) ≤ 9223372036854775807) (hlex_Tiles : nx_Tiles = x.Tiles.length) (h21 : ¬ ((¬ (JobOK x)) ∨ (x.Next = 0))) (hq25 : JobOK x) (hq26 : ¬ (x.Next = 0)) (hq27 : x.Tiles.length ≤ 8 ∧ takenN x.Tiles ≤ x.Tiles.length ∧ (0 ≤ sumI x.Tiles ∧ sumI x.Tiles ≤ 800) ∧ (1 ≤ (x.Tiles.length : Int) ∧ x.Next = (takenN x.Tiles : Int) ∧ x.Size = 10 * sumI x.Tiles ∧ (0 ≤ x.State ∧ x.State ≤ 3) ∧ (0 ≤ x.Fails ∧ x.Fails ≤ 3) ∧ (x.Fails = 3 → x.State = 2) ∧ (x.State = 0 → takenN x.Tiles = 0 ∧ x.Fails = 0) ∧ (x.State = 3 → takenN x.Tiles = x.Tiles.length))) : (0 : Int) + 1 ≤ x.Next := by
  omega
theorem z_c_spec_WorstTile_49 (x : ScanJob) (nx_Tiles : Nat) (hbdx_Tiles : (nx_Tiles : Int) ≤ 9223372036854775807) (hlex_Tiles : nx_Tiles = x.Tiles.length) (h21 : ¬ ((¬ (JobOK x)) ∨ (x.Next = 0))) (hq25 : JobOK x) (hq26 : ¬ (x.Next = 0)) (hq27 : x.Tiles.length ≤ 8 ∧ takenN x.Tiles ≤ x.Tiles.length ∧ (0 ≤ sumI x.Tiles ∧ sumI x.Tiles ≤ 800) ∧ (1 ≤ (x.Tiles.length : Int) ∧ x.Next = (takenN x.Tiles : Int) ∧ x.Size = 10 * sumI x.Tiles ∧ (0 ≤ x.State ∧ x.State ≤ 3) ∧ (0 ≤ x.Fails ∧ x.Fails ≤ 3) ∧ (x.Fails = 3 → x.State = 2) ∧ (x.State = 0 → takenN x.Tiles = 0 ∧ x.Fails = 0) ∧ (x.State = 3 → takenN x.Tiles = x.Tiles.length))) (k : Nat) (hi35 : (k : Int) + 1 ≤ x.Next) (hq37 : bestT x.Tiles k ≤ k) (h38 : ((k : Int) + 1) < x.Next) (hx40 : x.Tiles[k + 1]? = some (gt x.Tiles (k + 1))) (hx43 : x.Tiles[(bestT x.Tiles k)]? = some (gt x.Tiles (bestT x.Tiles k))) (h48 : (gt x.Tiles (k + 1)) < (gt x.Tiles (bestT x.Tiles k))) : (k + 1 : Int) + 1 ≤ x.Next := by
  omega
theorem z_c_spec_WorstTile_50 (x : ScanJob) (nx_Tiles : Nat) (hbdx_Tiles : (nx_Tiles : Int) ≤ 9223372036854775807) (hlex_Tiles : nx_Tiles = x.Tiles.length) (h21 : ¬ ((¬ (JobOK x)) ∨ (x.Next = 0))) (hq25 : JobOK x) (hq26 : ¬ (x.Next = 0)) (hq27 : x.Tiles.length ≤ 8 ∧ takenN x.Tiles ≤ x.Tiles.length ∧ (0 ≤ sumI x.Tiles ∧ sumI x.Tiles ≤ 800) ∧ (1 ≤ (x.Tiles.length : Int) ∧ x.Next = (takenN x.Tiles : Int) ∧ x.Size = 10 * sumI x.Tiles ∧ (0 ≤ x.State ∧ x.State ≤ 3) ∧ (0 ≤ x.Fails ∧ x.Fails ≤ 3) ∧ (x.Fails = 3 → x.State = 2) ∧ (x.State = 0 → takenN x.Tiles = 0 ∧ x.Fails = 0) ∧ (x.State = 3 → takenN x.Tiles = x.Tiles.length))) (k : Nat) (hi35 : (k : Int) + 1 ≤ x.Next) (hq37 : bestT x.Tiles k ≤ k) (h38 : ((k : Int) + 1) < x.Next) (hx40 : x.Tiles[k + 1]? = some (gt x.Tiles (k + 1))) (hx43 : x.Tiles[(bestT x.Tiles k)]? = some (gt x.Tiles (bestT x.Tiles k))) (h48 : (gt x.Tiles (k + 1)) < (gt x.Tiles (bestT x.Tiles k))) : nx_Tiles - (k + 1) < nx_Tiles - k := by
  omega
theorem z_c_spec_WorstTile_51 (x : ScanJob) (nx_Tiles : Nat) (hbdx_Tiles : (nx_Tiles : Int) ≤ 9223372036854775807) (hlex_Tiles : nx_Tiles = x.Tiles.length) (h21 : ¬ ((¬ (JobOK x)) ∨ (x.Next = 0))) (hq25 : JobOK x) (hq26 : ¬ (x.Next = 0)) (hq27 : x.Tiles.length ≤ 8 ∧ takenN x.Tiles ≤ x.Tiles.length ∧ (0 ≤ sumI x.Tiles ∧ sumI x.Tiles ≤ 800) ∧ (1 ≤ (x.Tiles.length : Int) ∧ x.Next = (takenN x.Tiles : Int) ∧ x.Size = 10 * sumI x.Tiles ∧ (0 ≤ x.State ∧ x.State ≤ 3) ∧ (0 ≤ x.Fails ∧ x.Fails ≤ 3) ∧ (x.Fails = 3 → x.State = 2) ∧ (x.State = 0 → takenN x.Tiles = 0 ∧ x.Fails = 0) ∧ (x.State = 3 → takenN x.Tiles = x.Tiles.length))) (k : Nat) (hi35 : (k : Int) + 1 ≤ x.Next) (hq37 : bestT x.Tiles k ≤ k) (h38 : ((k : Int) + 1) < x.Next) (hx40 : x.Tiles[k + 1]? = some (gt x.Tiles (k + 1))) (hx43 : x.Tiles[(bestT x.Tiles k)]? = some (gt x.Tiles (bestT x.Tiles k))) (h48 : ¬ ((gt x.Tiles (k + 1)) < (gt x.Tiles (bestT x.Tiles k)))) : (k + 1 : Int) + 1 ≤ x.Next := by
  omega
theorem z_c_spec_WorstTile_52 (x : ScanJob) (nx_Tiles : Nat) (hbdx_Tiles : (nx_Tiles : Int) ≤ 9223372036854775807) (hlex_Tiles : nx_Tiles = x.Tiles.length) (h21 : ¬ ((¬ (JobOK x)) ∨ (x.Next = 0))) (hq25 : JobOK x) (hq26 : ¬ (x.Next = 0)) (hq27 : x.Tiles.length ≤ 8 ∧ takenN x.Tiles ≤ x.Tiles.length ∧ (0 ≤ sumI x.Tiles ∧ sumI x.Tiles ≤ 800) ∧ (1 ≤ (x.Tiles.length : Int) ∧ x.Next = (takenN x.Tiles : Int) ∧ x.Size = 10 * sumI x.Tiles ∧ (0 ≤ x.State ∧ x.State ≤ 3) ∧ (0 ≤ x.Fails ∧ x.Fails ≤ 3) ∧ (x.Fails = 3 → x.State = 2) ∧ (x.State = 0 → takenN x.Tiles = 0 ∧ x.Fails = 0) ∧ (x.State = 3 → takenN x.Tiles = x.Tiles.length))) (k : Nat) (hi35 : (k : Int) + 1 ≤ x.Next) (hq37 : bestT x.Tiles k ≤ k) (h38 : ((k : Int) + 1) < x.Next) (hx40 : x.Tiles[k + 1]? = some (gt x.Tiles (k + 1))) (hx43 : x.Tiles[(bestT x.Tiles k)]? = some (gt x.Tiles (bestT x.Tiles k))) (h48 : ¬ ((gt x.Tiles (k + 1)) < (gt x.Tiles (bestT x.Tiles k)))) : nx_Tiles - (k + 1) < nx_Tiles - k := by
  omega
theorem z_c_spec_WorstTile_59 (x : ScanJob) (nx_Tiles : Nat) (hbdx_Tiles : (nx_Tiles : Int) ≤ 9223372036854775807) (hlex_Tiles : nx_Tiles = x.Tiles.length) (h21 : ¬ ((¬ (JobOK x)) ∨ (x.Next = 0))) (hq25 : JobOK x) (hq26 : ¬ (x.Next = 0)) (hq27 : x.Tiles.length ≤ 8 ∧ takenN x.Tiles ≤ x.Tiles.length ∧ (0 ≤ sumI x.Tiles ∧ sumI x.Tiles ≤ 800) ∧ (1 ≤ (x.Tiles.length : Int) ∧ x.Next = (takenN x.Tiles : Int) ∧ x.Size = 10 * sumI x.Tiles ∧ (0 ≤ x.State ∧ x.State ≤ 3) ∧ (0 ≤ x.Fails ∧ x.Fails ≤ 3) ∧ (x.Fails = 3 → x.State = 2) ∧ (x.State = 0 → takenN x.Tiles = 0 ∧ x.Fails = 0) ∧ (x.State = 3 → takenN x.Tiles = x.Tiles.length))) (k : Nat) (hi35 : (k : Int) + 1 ≤ x.Next) (hq37 : bestT x.Tiles k ≤ k) (h38 : ¬ (((k : Int) + 1) < x.Next)) (hx54 : x.Tiles[(bestT x.Tiles k)]? = some (gt x.Tiles (bestT x.Tiles k))) : ((bestT x.Tiles k : Nat) : Int) = (worstN x).1 := by
  first | (rw [worst_no ‹_ ∨ _›]; done) | exact worst_1 ‹JobOK x› (by omega) | exact worst_1S ‹JobOK x› (by omega) (by omega)
theorem z_c_spec_WorstTile_60 (x : ScanJob) (nx_Tiles : Nat) (hbdx_Tiles : (nx_Tiles : Int) ≤ 9223372036854775807) (hlex_Tiles : nx_Tiles = x.Tiles.length) (h21 : ¬ ((¬ (JobOK x)) ∨ (x.Next = 0))) (hq25 : JobOK x) (hq26 : ¬ (x.Next = 0)) (hq27 : x.Tiles.length ≤ 8 ∧ takenN x.Tiles ≤ x.Tiles.length ∧ (0 ≤ sumI x.Tiles ∧ sumI x.Tiles ≤ 800) ∧ (1 ≤ (x.Tiles.length : Int) ∧ x.Next = (takenN x.Tiles : Int) ∧ x.Size = 10 * sumI x.Tiles ∧ (0 ≤ x.State ∧ x.State ≤ 3) ∧ (0 ≤ x.Fails ∧ x.Fails ≤ 3) ∧ (x.Fails = 3 → x.State = 2) ∧ (x.State = 0 → takenN x.Tiles = 0 ∧ x.Fails = 0) ∧ (x.State = 3 → takenN x.Tiles = x.Tiles.length))) (k : Nat) (hi35 : (k : Int) + 1 ≤ x.Next) (hq37 : bestT x.Tiles k ≤ k) (h38 : ¬ (((k : Int) + 1) < x.Next)) (hx54 : x.Tiles[(bestT x.Tiles k)]? = some (gt x.Tiles (bestT x.Tiles k))) : (gt x.Tiles (bestT x.Tiles k)) = (worstN x).2 := by
  first | (rw [worst_no ‹_ ∨ _›]; done) | exact worst_2 ‹JobOK x› (by omega) | exact worst_2S ‹JobOK x› (by omega) (k := k) (by omega) ‹_[_]? = some _› | exact worst_2G ‹JobOK x› (by omega) (by omega)
theorem z_c_spec_WorstTile_61 (x : ScanJob) (nx_Tiles : Nat) (hbdx_Tiles : (nx_Tiles : Int) ≤ 9223372036854775807) (hlex_Tiles : nx_Tiles = x.Tiles.length) (h21 : ¬ ((¬ (JobOK x)) ∨ (x.Next = 0))) (hq25 : JobOK x) (hq26 : ¬ (x.Next = 0)) (hq27 : x.Tiles.length ≤ 8 ∧ takenN x.Tiles ≤ x.Tiles.length ∧ (0 ≤ sumI x.Tiles ∧ sumI x.Tiles ≤ 800) ∧ (1 ≤ (x.Tiles.length : Int) ∧ x.Next = (takenN x.Tiles : Int) ∧ x.Size = 10 * sumI x.Tiles ∧ (0 ≤ x.State ∧ x.State ≤ 3) ∧ (0 ≤ x.Fails ∧ x.Fails ≤ 3) ∧ (x.Fails = 3 → x.State = 2) ∧ (x.State = 0 → takenN x.Tiles = 0 ∧ x.Fails = 0) ∧ (x.State = 3 → takenN x.Tiles = x.Tiles.length))) (k : Nat) (hi35 : (k : Int) + 1 ≤ x.Next) (hq37 : bestT x.Tiles k ≤ k) (h38 : ¬ (((k : Int) + 1) < x.Next)) (hx54 : x.Tiles[(bestT x.Tiles k)]? = some (gt x.Tiles (bestT x.Tiles k))) : JobOK x ∧ ¬ x.Next = 0 := by
  first | exact ⟨‹JobOK x›, by omega⟩ | (intro hh; rcases ‹_ ∨ _› with h | h; exact h hh.1; exact hh.2 h)
theorem c_spec_WorstTile (w : World) (x : ScanJob) {Ax_Tiles : Option Addr} {nx_Tiles cx_Tiles Bx_Tiles : Nat} (hx_Tiles : SlR w Bx_Tiles encI 1 Ax_Tiles nx_Tiles cx_Tiles x.Tiles) : Calls Tryd.prog 35 #[.agg (List.toArray [.int .i64 x.State, .slice Ax_Tiles nx_Tiles cx_Tiles, .int .i64 x.Next, .int .i64 x.Fails, .int .i64 x.Size])] w fun e w' => e = .returned (.tuple (List.toArray [.int .i64 ((worstN x).1), .int .i64 ((worstN x).2), .bool (decide (JobOK x ∧ ¬ x.Next = 0))])) ∧ Lo w w' := by
  refine calls_W 39 Tryd.func35 rfl rfl rfl ?_
  have hbdx_Tiles := hx_Tiles.bound
  have hlex_Tiles := hx_Tiles.len
  have hBbx_Tiles := hx_Tiles.bd
  refine W.seq ?_
  refine W.regS (SR.box (v := .agg (List.toArray _)) (l := [.int .i64 x.State, .slice Ax_Tiles nx_Tiles cx_Tiles, .int .i64 x.Next, .int .i64 x.Fails, .int .i64 x.Size]) rfl rfl ?_)
  intro g1 w2 hg3 hk4 hs5 hb6
  have hz7 := hk4.size
  have hB8 := (Lo.refl w).lo hk4
  refine SR.q' (r_as (v := .int .i64 0) rfl) <| SR.q' (r_as (v := .int .i64 0) rfl) <| SR.q' (r_as (v := .bool false) rfl) <| SR.nil ?_
  refine W.seq ?_
  refine W.seq ?_
  refine W.regJS (fun f' w' => At f' [(1, .pointer (some ((⟨g1, 0, none⟩ : Addr)))), (2, .int .i64 0), (3, .int .i64 0), (4, .bool false), (14, .bool (decide ((¬ (JobOK x)) ∨ (x.Next = 0))))] ∧ Lo w2 w') ?_ ?_
  · refine SR.q' (r_lda (l := [.int .i64 x.State, .slice Ax_Tiles nx_Tiles cx_Tiles, .int .i64 x.Next, .int .i64 x.Fails, .int .i64 x.Size]) agg57 rfl (fun _ _ hu => (hb6).cell hu) rfl) <| SR.call ent69 (c_spec_l29Good w2 x (((hx_Tiles).lo hk4))) rfl ?_
    rintro e w9 ⟨rfl, hk10⟩
    refine ⟨_, rfl, ?_⟩
    have hz11 := hk10.size
    have hB12 := hB8.lo hk10
    refine SR.q' (r_not rfl) <| SR.q' (r_mv (v := .bool _) rfl) <| SR.splitN (fun h13 => ?_) (fun h13 => ?_)
    · refine SR.s' rfl <| SR.s' rfl <| SR.s' rfl <| SR.q' (r_pick true rfl (v := .bool true) rfl) <| SR.nil ?_
      exact ⟨_, rfl, ⟨⟨rfl, rfl, rfl, rfl, (eDT ((jmf h13).1 trivial)), trivial⟩, (hk10)⟩⟩
    · have hq14 := job_rng h13
      refine SR.g' rfl (r_fa fa57_2 rfl) <| SR.g' rfl (r_ld (v := .int .i64 x.Next) sca3 rfl (((hb6).lo hk10).cell rfl)) <| SR.g' rfl (r_eq rfl rfl) <| SR.q' (r_pick false rfl (v := .bool _) rfl) <| SR.nil ?_
      exact ⟨_, rfl, ⟨⟨rfl, rfl, rfl, rfl, (eDD (jmt h13)), trivial⟩, (hk10)⟩⟩
  rintro f15 w16 ⟨hat17, hk18⟩
  rw [← sets_of_at hat17]
  have hz19 := hk18.size
  have hB20 := hB8.lo hk18
  refine W.cond_d rfl (fun h21 => ?_) (fun h21 => ?_)
  · refine W.seq ?_
    refine W.regS (SR.q' (r_as (v := .int .i64 0) rfl) <| SR.q' (r_as (v := .int .i64 0) rfl) <| SR.q' (r_as (v := .bool false) rfl) <| SR.nil ?_)
    refine W.ret ?_
    refine ret3 rfl (v := .int .i64 _) (v' := .int .i64 _) (v'' := .bool _) rfl rfl rfl ?_
    exact ⟨eR (eT3 (eI (z_c_spec_WorstTile_22 x nx_Tiles hbdx_Tiles hlex_Tiles h21)) (eI (z_c_spec_WorstTile_23 x nx_Tiles hbdx_Tiles hlex_Tiles h21)) (eDF (z_c_spec_WorstTile_24 x nx_Tiles hbdx_Tiles hlex_Tiles h21))), hB20⟩
  · have hq25 : JobOK x := (Classical.not_not.1 (not_or.1 h21).1)
    have hq26 : ¬ (x.Next = 0) := (not_or.1 h21).2
    have hq27 := job_rng hq25
    refine W.skip ?_
    refine W.seq ?_
    refine W.regS (SR.q' (r_as (v := .int .i64 0) rfl) <| SR.nil ?_)
    refine W.seq ?_
    refine W.seq ?_
    refine W.regS (SR.q' (r_as (v := .int .i64 1) rfl) <| SR.nil ?_)
    refine W.block ?_
    refine W.loop (σ := Nat) (fun g => [(1, .pointer (some ((⟨g1, 0, none⟩ : Addr)))), (2, .int .i64 0), (3, .int .i64 0), (4, .bool false), (5, .int .i64 ((bestT x.Tiles g : Nat) : Int)), (6, .int .i64 ((g : Int) + 1))]) (fun g w' => (Lo w w') ∧ (Blk w' g1 57 [.int .i64 x.State, .slice Ax_Tiles nx_Tiles cx_Tiles, .int .i64 x.Next, .int .i64 x.Fails, .int .i64 x.Size]) ∧ (SlR w' Bx_Tiles encI 1 Ax_Tiles nx_Tiles cx_Tiles x.Tiles) ∧ ((g : Int) + 1 ≤ x.Next)) (fun g => nx_Tiles - g) 0 ?_ ?_ ?_
    · exact ⟨rfl, rfl, rfl, rfl, (eI (by first | (first | omega | rfl | (have e := best_yes ‹x.Tiles[k + 1]? = some _› ‹x.Tiles[bestT x.Tiles k]? = some _› ‹_ < _›; omega) | (have e := best_no ‹x.Tiles[k + 1]? = some _› ‹x.Tiles[bestT x.Tiles k]? = some _› ‹¬ _ < _›; omega)) | (dsimp only; (first | omega | rfl | (have e := best_yes ‹x.Tiles[k + 1]? = some _› ‹x.Tiles[bestT x.Tiles k]? = some _› ‹_ < _›; omega) | (have e := best_no ‹x.Tiles[k + 1]? = some _› ‹x.Tiles[bestT x.Tiles k]? = some _› ‹¬ _ < _›; omega))))), (eI (by first | (first | omega | rfl | (have e := best_yes ‹x.Tiles[k + 1]? = some _› ‹x.Tiles[bestT x.Tiles k]? = some _› ‹_ < _›; omega) | (have e := best_no ‹x.Tiles[k + 1]? = some _› ‹x.Tiles[bestT x.Tiles k]? = some _› ‹¬ _ < _›; omega)) | (dsimp only; (first | omega | rfl | (have e := best_yes ‹x.Tiles[k + 1]? = some _› ‹x.Tiles[bestT x.Tiles k]? = some _› ‹_ < _›; omega) | (have e := best_no ‹x.Tiles[k + 1]? = some _› ‹x.Tiles[bestT x.Tiles k]? = some _› ‹¬ _ < _›; omega))))), trivial⟩
    · exact ⟨hB20, (hb6).lo hk18, ((hx_Tiles).lo hk4).lo hk18, (z_c_spec_WorstTile_28 x nx_Tiles hbdx_Tiles hlex_Tiles h21 hq25 hq26 hq27)⟩
    · rintro k f29 w30 hP32
      obtain ⟨hB31, hm33, hm34, hi35⟩ : (Lo w w30) ∧ (Blk w30 g1 57 [.int .i64 x.State, .slice Ax_Tiles nx_Tiles cx_Tiles, .int .i64 x.Next, .int .i64 x.Fails, .int .i64 x.Size]) ∧ (SlR w30 Bx_Tiles encI 1 Ax_Tiles nx_Tiles cx_Tiles x.Tiles) ∧ ((k : Int) + 1 ≤ x.Next) := hP32
      refine (?_ : W _ _ _ _ _ (act _ (sets f29 [(1, .pointer (some ((⟨g1, 0, none⟩ : Addr)))), (2, .int .i64 0), (3, .int .i64 0), (4, .bool false), (5, .int .i64 ((bestT x.Tiles k : Nat) : Int)), (6, .int .i64 ((k : Int) + 1))])) _)
      have hzw30 := hB31.size
      have hl36 := hm33.lt
      have hq37 : bestT x.Tiles k ≤ k := best_le x.Tiles k
      refine W.seq ?_
      refine W.seq ?_
      refine W.regS (SR.q' (r_mv (v := .int .i64 _) rfl) <| SR.q' (r_fa fa57_2 rfl) <| SR.q' (r_ld (v := .int .i64 x.Next) sca3 rfl ((hm33).cell rfl)) <| SR.q' (r_lt rfl rfl) <| SR.nil ?_)
      refine W.cond_d rfl (fun h38 => ?_) (fun h38 => ?_)
      · refine W.skip ?_
        refine W.seq ?_
        refine W.block ?_
        refine W.seq ?_
        refine W.regD mo (by kernel_rfl) (QR.q' (fun w' hw' => r_fa fa57_1 rfl) <| QR.q' (fun w' hw' => r_ld (v := .slice Ax_Tiles nx_Tiles cx_Tiles) sca38 rfl (((hm33).lo hw').cell rfl)) <| QR.q' (fun w' hw' => r_mv (v := .int .i64 _) rfl) <| ?_)
        have hx40 := (hm34).elem (i := ((k : Int) + 1).toNat) (by omega)
        rw [show ((k : Int) + 1).toNat = k + 1 from by omega] at hx40
        have hx41 : x.Tiles[((k : Int) + 1).toNat]? = some (gt x.Tiles (k + 1)) := (show ((k : Int) + 1).toNat = k + 1 from by omega) ▸ hx40
        refine QR.q' (fun w' hw' => r_ixR tsl38 (((hm34).lo hw')) rfl rfl (by omega)) <| QR.q' (fun w' hw' => r_ld (v := .int .i64 (gt x.Tiles (k + 1))) sca3 rfl ((((hm34).lo hw')).cell0 hx41 rfl)) <| QR.q' (fun w' hw' => r_fa fa57_1 rfl) <| QR.q' (fun w' hw' => r_ld (v := .slice Ax_Tiles nx_Tiles cx_Tiles) sca38 rfl (((hm33).lo hw').cell rfl)) <| QR.q' (fun w' hw' => r_mv (v := .int .i64 _) rfl) <| ?_
        have hx43 := (hm34).elem (i := (bestT x.Tiles k)) (by omega)
        refine QR.q' (fun w' hw' => r_ixR tsl38 (((hm34).lo hw')) rfl rfl (by omega)) <| QR.q' (fun w' hw' => r_ld (v := .int .i64 (gt x.Tiles (bestT x.Tiles k))) sca3 rfl ((((hm34).lo hw')).cell0 hx43 rfl)) <| QR.q' (fun w' hw' => r_lt rfl rfl) <| QR.nil ?_
        intro w44 hk45
        have hz46 := hk45.size
        have hB47 := hB31.lo hk45
        refine W.cond_d rfl (fun h48 => ?_) (fun h48 => ?_)
        · refine W.regS (SR.q' (r_mv (v := .int .i64 _) rfl) <| SR.q' (r_as (v := .int .i64 _) rfl) <| SR.nil ?_)
          refine W.regS (SR.q' (r_mv (v := .int .i64 _) rfl) <| SR.q' (r_add rfl rfl (by omega)) <| SR.q' (r_as (v := .int .i64 _) rfl) <| SR.nil ?_)
          refine ⟨k + 1, _, rfl, ⟨rfl, rfl, rfl, rfl, (eI (by first | (first | omega | rfl | (have e := best_yes ‹x.Tiles[k + 1]? = some _› ‹x.Tiles[bestT x.Tiles k]? = some _› ‹_ < _›; omega) | (have e := best_no ‹x.Tiles[k + 1]? = some _› ‹x.Tiles[bestT x.Tiles k]? = some _› ‹¬ _ < _›; omega)) | (dsimp only; (first | omega | rfl | (have e := best_yes ‹x.Tiles[k + 1]? = some _› ‹x.Tiles[bestT x.Tiles k]? = some _› ‹_ < _›; omega) | (have e := best_no ‹x.Tiles[k + 1]? = some _› ‹x.Tiles[bestT x.Tiles k]? = some _› ‹¬ _ < _›; omega))))), (eI (by first | (first | omega | rfl | (have e := best_yes ‹x.Tiles[k + 1]? = some _› ‹x.Tiles[bestT x.Tiles k]? = some _› ‹_ < _›; omega) | (have e := best_no ‹x.Tiles[k + 1]? = some _› ‹x.Tiles[bestT x.Tiles k]? = some _› ‹¬ _ < _›; omega)) | (dsimp only; (first | omega | rfl | (have e := best_yes ‹x.Tiles[k + 1]? = some _› ‹x.Tiles[bestT x.Tiles k]? = some _› ‹_ < _›; omega) | (have e := best_no ‹x.Tiles[k + 1]? = some _› ‹x.Tiles[bestT x.Tiles k]? = some _› ‹¬ _ < _›; omega))))), trivial⟩, ⟨hB47, (hm33).lo hk45, (hm34).lo hk45, ?_⟩, ?_⟩
          · exact (z_c_spec_WorstTile_49 x nx_Tiles hbdx_Tiles hlex_Tiles h21 hq25 hq26 hq27 k hi35 hq37 h38 hx40 hx43 h48)
          · exact (z_c_spec_WorstTile_50 x nx_Tiles hbdx_Tiles hlex_Tiles h21 hq25 hq26 hq27 k hi35 hq37 h38 hx40 hx43 h48)
        · refine W.skip ?_
          refine W.regS (SR.q' (r_mv (v := .int .i64 _) rfl) <| SR.q' (r_add rfl rfl (by omega)) <| SR.q' (r_as (v := .int .i64 _) rfl) <| SR.nil ?_)
          refine ⟨k + 1, _, rfl, ⟨rfl, rfl, rfl, rfl, (eI (by first | (first | omega | rfl | (have e := best_yes ‹x.Tiles[k + 1]? = some _› ‹x.Tiles[bestT x.Tiles k]? = some _› ‹_ < _›; omega) | (have e := best_no ‹x.Tiles[k + 1]? = some _› ‹x.Tiles[bestT x.Tiles k]? = some _› ‹¬ _ < _›; omega)) | (dsimp only; (first | omega | rfl | (have e := best_yes ‹x.Tiles[k + 1]? = some _› ‹x.Tiles[bestT x.Tiles k]? = some _› ‹_ < _›; omega) | (have e := best_no ‹x.Tiles[k + 1]? = some _› ‹x.Tiles[bestT x.Tiles k]? = some _› ‹¬ _ < _›; omega))))), (eI (by first | (first | omega | rfl | (have e := best_yes ‹x.Tiles[k + 1]? = some _› ‹x.Tiles[bestT x.Tiles k]? = some _› ‹_ < _›; omega) | (have e := best_no ‹x.Tiles[k + 1]? = some _› ‹x.Tiles[bestT x.Tiles k]? = some _› ‹¬ _ < _›; omega)) | (dsimp only; (first | omega | rfl | (have e := best_yes ‹x.Tiles[k + 1]? = some _› ‹x.Tiles[bestT x.Tiles k]? = some _› ‹_ < _›; omega) | (have e := best_no ‹x.Tiles[k + 1]? = some _› ‹x.Tiles[bestT x.Tiles k]? = some _› ‹¬ _ < _›; omega))))), trivial⟩, ⟨hB47, (hm33).lo hk45, (hm34).lo hk45, ?_⟩, ?_⟩
          · exact (z_c_spec_WorstTile_51 x nx_Tiles hbdx_Tiles hlex_Tiles h21 hq25 hq26 hq27 k hi35 hq37 h38 hx40 hx43 h48)
          · exact (z_c_spec_WorstTile_52 x nx_Tiles hbdx_Tiles hlex_Tiles h21 hq25 hq26 hq27 k hi35 hq37 h38 hx40 hx43 h48)
      · refine W.exit (xin_here ?_)
        refine W.seq ?_
        refine W.regD mo (by kernel_rfl) (QR.q' (fun w' hw' => r_mv (v := .int .i64 _) rfl) <| QR.q' (fun w' hw' => r_fa fa57_1 rfl) <| QR.q' (fun w' hw' => r_ld (v := .slice Ax_Tiles nx_Tiles cx_Tiles) sca38 rfl (((hm33).lo hw').cell rfl)) <| QR.q' (fun w' hw' => r_mv (v := .int .i64 _) rfl) <| ?_)
        have hx54 := (hm34).elem (i := (bestT x.Tiles k)) (by omega)
        refine QR.q' (fun w' hw' => r_ixR tsl38 (((hm34).lo hw')) rfl rfl (by omega)) <| QR.q' (fun w' hw' => r_ld (v := .int .i64 (gt x.Tiles (bestT x.Tiles k))) sca3 rfl ((((hm34).lo hw')).cell0 hx54 rfl)) <| QR.q' (fun w' hw' => r_as (v := .int .i64 _) rfl) <| QR.q' (fun w' hw' => r_as (v := .int .i64 _) rfl) <| QR.q' (fun w' hw' => r_as (v := .bool true) rfl) <| QR.nil ?_
        intro w55 hk56
        have hz57 := hk56.size
        have hB58 := hB31.lo hk56
        refine W.ret ?_
        refine ret3 rfl (v := .int .i64 _) (v' := .int .i64 _) (v'' := .bool _) rfl rfl rfl ?_
        exact ⟨eR (eT3 (eI (z_c_spec_WorstTile_59 x nx_Tiles hbdx_Tiles hlex_Tiles h21 hq25 hq26 hq27 k hi35 hq37 h38 hx54)) (eI (z_c_spec_WorstTile_60 x nx_Tiles hbdx_Tiles hlex_Tiles h21 hq25 hq26 hq27 k hi35 hq37 h38 hx54)) (eDT (z_c_spec_WorstTile_61 x nx_Tiles hbdx_Tiles hlex_Tiles h21 hq25 hq26 hq27 k hi35 hq37 h38 hx54))), hB58⟩

theorem z_c_impl_TilesLeft_14 (x : ScanJob) (nx_Tiles : Nat) (hbdx_Tiles : (nx_Tiles : Int) ≤ 9223372036854775807) (hlex_Tiles : nx_Tiles = x.Tiles.length) (h13 : ¬ (JobOK x)) : 0 = leftN x := by
  first | exact (left_no ‹_›).symm | (rw [left_yes ‹JobOK x›]; omega)
theorem z_c_impl_TilesLeft_15 (x : ScanJob) (nx_Tiles : Nat) (hbdx_Tiles : (nx_Tiles : Int) ≤ 9223372036854775807) (hlex_Tiles : nx_Tiles = x.Tiles.length) (h13 : ¬ (JobOK x)) : ¬ (JobOK x) := by
  first | assumption | (simp_all; done)
theorem z_c_impl_TilesLeft_17 (x : ScanJob) (nx_Tiles : Nat) (hbdx_Tiles : (nx_Tiles : Int) ≤ 9223372036854775807) (hlex_Tiles : nx_Tiles = x.Tiles.length) (h13 : JobOK x) (hq16 : x.Tiles.length ≤ 8 ∧ takenN x.Tiles ≤ x.Tiles.length ∧ (0 ≤ sumI x.Tiles ∧ sumI x.Tiles ≤ 800) ∧ (1 ≤ (x.Tiles.length : Int) ∧ x.Next = (takenN x.Tiles : Int) ∧ x.Size = 10 * sumI x.Tiles ∧ (0 ≤ x.State ∧ x.State ≤ 3) ∧ (0 ≤ x.Fails ∧ x.Fails ≤ 3) ∧ (x.Fails = 3 → x.State = 2) ∧ (x.State = 0 → takenN x.Tiles = 0 ∧ x.Fails = 0) ∧ (x.State = 3 → takenN x.Tiles = x.Tiles.length))) : (nx_Tiles : Int) - x.Next = leftN x := by
  first | exact (left_no ‹_›).symm | (rw [left_yes ‹JobOK x›]; omega)
theorem z_c_impl_TilesLeft_18 (x : ScanJob) (nx_Tiles : Nat) (hbdx_Tiles : (nx_Tiles : Int) ≤ 9223372036854775807) (hlex_Tiles : nx_Tiles = x.Tiles.length) (h13 : JobOK x) (hq16 : x.Tiles.length ≤ 8 ∧ takenN x.Tiles ≤ x.Tiles.length ∧ (0 ≤ sumI x.Tiles ∧ sumI x.Tiles ≤ 800) ∧ (1 ≤ (x.Tiles.length : Int) ∧ x.Next = (takenN x.Tiles : Int) ∧ x.Size = 10 * sumI x.Tiles ∧ (0 ≤ x.State ∧ x.State ≤ 3) ∧ (0 ≤ x.Fails ∧ x.Fails ≤ 3) ∧ (x.Fails = 3 → x.State = 2) ∧ (x.State = 0 → takenN x.Tiles = 0 ∧ x.Fails = 0) ∧ (x.State = 3 → takenN x.Tiles = x.Tiles.length))) : JobOK x := by
  first | assumption | (simp_all; done)
theorem c_impl_TilesLeft (w : World) (x : ScanJob) {Ax_Tiles : Option Addr} {nx_Tiles cx_Tiles Bx_Tiles : Nat} (hx_Tiles : SlR w Bx_Tiles encI 1 Ax_Tiles nx_Tiles cx_Tiles x.Tiles) : Calls Tryd.prog 30 #[.agg (List.toArray [.int .i64 x.State, .slice Ax_Tiles nx_Tiles cx_Tiles, .int .i64 x.Next, .int .i64 x.Fails, .int .i64 x.Size])] w fun e w' => e = .returned (.tuple (List.toArray [.int .i64 (leftN x), .bool (decide (JobOK x))])) ∧ Lo w w' := by
  refine calls_W 13 Tryd.func30 rfl rfl rfl ?_
  have hbdx_Tiles := hx_Tiles.bound
  have hlex_Tiles := hx_Tiles.len
  have hBbx_Tiles := hx_Tiles.bd
  refine W.seq ?_
  refine W.regS (SR.box (v := .agg (List.toArray _)) (l := [.int .i64 x.State, .slice Ax_Tiles nx_Tiles cx_Tiles, .int .i64 x.Next, .int .i64 x.Fails, .int .i64 x.Size]) rfl rfl ?_)
  intro g1 w2 hg3 hk4 hs5 hb6
  have hz7 := hk4.size
  have hB8 := (Lo.refl w).lo hk4
  refine SR.q' (r_as (v := .int .i64 0) rfl) <| SR.q' (r_as (v := .bool false) rfl) <| SR.nil ?_
  refine W.seq ?_
  refine W.seq ?_
  refine W.regS (SR.q' (r_lda (l := [.int .i64 x.State, .slice Ax_Tiles nx_Tiles cx_Tiles, .int .i64 x.Next, .int .i64 x.Fails, .int .i64 x.Size]) agg57 rfl (fun _ _ hu => (hb6).cell hu) rfl) <| SR.call ent39 (c_impl_IsScanJob w2 x (((hx_Tiles).lo hk4))) rfl ?_)
  rintro e w9 ⟨rfl, hk10⟩
  refine ⟨_, rfl, ?_⟩
  have hz11 := hk10.size
  have hB12 := hB8.lo hk10
  refine SR.q' (r_not rfl) <| SR.nil ?_
  refine W.cond_n rfl (fun h13 => ?_) (fun h13 => ?_)
  · refine W.seq ?_
    refine W.regS (SR.q' (r_as (v := .int .i64 0) rfl) <| SR.q' (r_as (v := .bool false) rfl) <| SR.nil ?_)
    refine W.ret ?_
    refine ret2 rfl (v := .int .i64 _) (v' := .bool _) rfl rfl ?_
    exact ⟨eR (eT2 (eI (z_c_impl_TilesLeft_14 x nx_Tiles hbdx_Tiles hlex_Tiles h13)) (eDF (z_c_impl_TilesLeft_15 x nx_Tiles hbdx_Tiles hlex_Tiles h13))), hB12⟩
  · have hq16 := job_rng h13
    refine W.skip ?_
    refine W.seq ?_
    refine W.regS (SR.q' (r_fa fa57_1 rfl) <| SR.q' (r_ld (v := .slice Ax_Tiles nx_Tiles cx_Tiles) sca38 rfl (((hb6).lo hk10).cell rfl)) <| SR.q' (r_len und38 rfl) <| SR.q' (r_fa fa57_2 rfl) <| SR.q' (r_ld (v := .int .i64 x.Next) sca3 rfl (((hb6).lo hk10).cell rfl)) <| SR.q' (r_sub rfl rfl (by omega)) <| SR.q' (r_as (v := .int .i64 _) rfl) <| SR.q' (r_as (v := .bool true) rfl) <| SR.nil ?_)
    refine W.ret ?_
    refine ret2 rfl (v := .int .i64 _) (v' := .bool _) rfl rfl ?_
    exact ⟨eR (eT2 (eI (z_c_impl_TilesLeft_17 x nx_Tiles hbdx_Tiles hlex_Tiles h13 hq16)) (eDT (z_c_impl_TilesLeft_18 x nx_Tiles hbdx_Tiles hlex_Tiles h13 hq16))), hB12⟩

theorem z_c_spec_TilesLeft_14 (x : ScanJob) (nx_Tiles : Nat) (hbdx_Tiles : (nx_Tiles : Int) ≤ 9223372036854775807) (hlex_Tiles : nx_Tiles = x.Tiles.length) (h13 : ¬ (JobOK x)) : 0 = leftN x := by
  first | exact (left_no ‹_›).symm | (rw [left_yes ‹JobOK x›]; omega)
theorem z_c_spec_TilesLeft_15 (x : ScanJob) (nx_Tiles : Nat) (hbdx_Tiles : (nx_Tiles : Int) ≤ 9223372036854775807) (hlex_Tiles : nx_Tiles = x.Tiles.length) (h13 : ¬ (JobOK x)) : ¬ (JobOK x) := by
  first | assumption | (simp_all; done)
theorem z_c_spec_TilesLeft_17 (x : ScanJob) (nx_Tiles : Nat) (hbdx_Tiles : (nx_Tiles : Int) ≤ 9223372036854775807) (hlex_Tiles : nx_Tiles = x.Tiles.length) (h13 : JobOK x) (hq16 : x.Tiles.length ≤ 8 ∧ takenN x.Tiles ≤ x.Tiles.length ∧ (0 ≤ sumI x.Tiles ∧ sumI x.Tiles ≤ 800) ∧ (1 ≤ (x.Tiles.length : Int) ∧ x.Next = (takenN x.Tiles : Int) ∧ x.Size = 10 * sumI x.Tiles ∧ (0 ≤ x.State ∧ x.State ≤ 3) ∧ (0 ≤ x.Fails ∧ x.Fails ≤ 3) ∧ (x.Fails = 3 → x.State = 2) ∧ (x.State = 0 → takenN x.Tiles = 0 ∧ x.Fails = 0) ∧ (x.State = 3 → takenN x.Tiles = x.Tiles.length))) : (nx_Tiles : Int) - x.Next = leftN x := by
  first | exact (left_no ‹_›).symm | (rw [left_yes ‹JobOK x›]; omega)
theorem z_c_spec_TilesLeft_18 (x : ScanJob) (nx_Tiles : Nat) (hbdx_Tiles : (nx_Tiles : Int) ≤ 9223372036854775807) (hlex_Tiles : nx_Tiles = x.Tiles.length) (h13 : JobOK x) (hq16 : x.Tiles.length ≤ 8 ∧ takenN x.Tiles ≤ x.Tiles.length ∧ (0 ≤ sumI x.Tiles ∧ sumI x.Tiles ≤ 800) ∧ (1 ≤ (x.Tiles.length : Int) ∧ x.Next = (takenN x.Tiles : Int) ∧ x.Size = 10 * sumI x.Tiles ∧ (0 ≤ x.State ∧ x.State ≤ 3) ∧ (0 ≤ x.Fails ∧ x.Fails ≤ 3) ∧ (x.Fails = 3 → x.State = 2) ∧ (x.State = 0 → takenN x.Tiles = 0 ∧ x.Fails = 0) ∧ (x.State = 3 → takenN x.Tiles = x.Tiles.length))) : JobOK x := by
  first | assumption | (simp_all; done)
theorem c_spec_TilesLeft (w : World) (x : ScanJob) {Ax_Tiles : Option Addr} {nx_Tiles cx_Tiles Bx_Tiles : Nat} (hx_Tiles : SlR w Bx_Tiles encI 1 Ax_Tiles nx_Tiles cx_Tiles x.Tiles) : Calls Tryd.prog 31 #[.agg (List.toArray [.int .i64 x.State, .slice Ax_Tiles nx_Tiles cx_Tiles, .int .i64 x.Next, .int .i64 x.Fails, .int .i64 x.Size])] w fun e w' => e = .returned (.tuple (List.toArray [.int .i64 (leftN x), .bool (decide (JobOK x))])) ∧ Lo w w' := by
  refine calls_W 13 Tryd.func31 rfl rfl rfl ?_
  have hbdx_Tiles := hx_Tiles.bound
  have hlex_Tiles := hx_Tiles.len
  have hBbx_Tiles := hx_Tiles.bd
  refine W.seq ?_
  refine W.regS (SR.box (v := .agg (List.toArray _)) (l := [.int .i64 x.State, .slice Ax_Tiles nx_Tiles cx_Tiles, .int .i64 x.Next, .int .i64 x.Fails, .int .i64 x.Size]) rfl rfl ?_)
  intro g1 w2 hg3 hk4 hs5 hb6
  have hz7 := hk4.size
  have hB8 := (Lo.refl w).lo hk4
  refine SR.q' (r_as (v := .int .i64 0) rfl) <| SR.q' (r_as (v := .bool false) rfl) <| SR.nil ?_
  refine W.seq ?_
  refine W.seq ?_
  refine W.regS (SR.q' (r_lda (l := [.int .i64 x.State, .slice Ax_Tiles nx_Tiles cx_Tiles, .int .i64 x.Next, .int .i64 x.Fails, .int .i64 x.Size]) agg57 rfl (fun _ _ hu => (hb6).cell hu) rfl) <| SR.call ent69 (c_spec_l29Good w2 x (((hx_Tiles).lo hk4))) rfl ?_)
  rintro e w9 ⟨rfl, hk10⟩
  refine ⟨_, rfl, ?_⟩
  have hz11 := hk10.size
  have hB12 := hB8.lo hk10
  refine SR.q' (r_not rfl) <| SR.nil ?_
  refine W.cond_n rfl (fun h13 => ?_) (fun h13 => ?_)
  · refine W.seq ?_
    refine W.regS (SR.q' (r_as (v := .int .i64 0) rfl) <| SR.q' (r_as (v := .bool false) rfl) <| SR.nil ?_)
    refine W.ret ?_
    refine ret2 rfl (v := .int .i64 _) (v' := .bool _) rfl rfl ?_
    exact ⟨eR (eT2 (eI (z_c_spec_TilesLeft_14 x nx_Tiles hbdx_Tiles hlex_Tiles h13)) (eDF (z_c_spec_TilesLeft_15 x nx_Tiles hbdx_Tiles hlex_Tiles h13))), hB12⟩
  · have hq16 := job_rng h13
    refine W.skip ?_
    refine W.seq ?_
    refine W.regS (SR.q' (r_fa fa57_1 rfl) <| SR.q' (r_ld (v := .slice Ax_Tiles nx_Tiles cx_Tiles) sca38 rfl (((hb6).lo hk10).cell rfl)) <| SR.q' (r_len und38 rfl) <| SR.q' (r_fa fa57_2 rfl) <| SR.q' (r_ld (v := .int .i64 x.Next) sca3 rfl (((hb6).lo hk10).cell rfl)) <| SR.q' (r_sub rfl rfl (by omega)) <| SR.q' (r_as (v := .int .i64 _) rfl) <| SR.q' (r_as (v := .bool true) rfl) <| SR.nil ?_)
    refine W.ret ?_
    refine ret2 rfl (v := .int .i64 _) (v' := .bool _) rfl rfl ?_
    exact ⟨eR (eT2 (eI (z_c_spec_TilesLeft_17 x nx_Tiles hbdx_Tiles hlex_Tiles h13 hq16)) (eDT (z_c_spec_TilesLeft_18 x nx_Tiles hbdx_Tiles hlex_Tiles h13 hq16))), hB12⟩

theorem z_c_impl_StepsToDone_14 (x : ScanJob) (nx_Tiles : Nat) (hbdx_Tiles : (nx_Tiles : Int) ≤ 9223372036854775807) (hlex_Tiles : nx_Tiles = x.Tiles.length) (h13 : ¬ (JobOK x)) : 0 = doneN x := by
  first | exact (done_no ‹_›).symm | exact (done_3 ‹JobOK x› (by omega)).symm | (rw [done_1 ‹JobOK x› (by omega)]; omega) | (rw [done_2 ‹JobOK x› (by omega) (by omega)]; omega) | (subst hlex_Tiles; exact done_lit ‹JobOK x› ‹_[_]? = some _›)
theorem z_c_impl_StepsToDone_15 (x : ScanJob) (nx_Tiles : Nat) (hbdx_Tiles : (nx_Tiles : Int) ≤ 9223372036854775807) (hlex_Tiles : nx_Tiles = x.Tiles.length) (h13 : ¬ (JobOK x)) : ¬ (JobOK x) := by
  first | assumption | (simp_all; done)
theorem z_c_impl_StepsToDone_18 (x : ScanJob) (nx_Tiles : Nat) (hbdx_Tiles : (nx_Tiles : Int) ≤ 9223372036854775807) (hlex_Tiles : nx_Tiles = x.Tiles.length) (h13 : JobOK x) (hq16 : x.Tiles.length ≤ 8 ∧ takenN x.Tiles ≤ x.Tiles.length ∧ (0 ≤ sumI x.Tiles ∧ sumI x.Tiles ≤ 800) ∧ (1 ≤ (x.Tiles.length : Int) ∧ x.Next = (takenN x.Tiles : Int) ∧ x.Size = 10 * sumI x.Tiles ∧ (0 ≤ x.State ∧ x.State ≤ 3) ∧ (0 ≤ x.Fails ∧ x.Fails ≤ 3) ∧ (x.Fails = 3 → x.State = 2) ∧ (x.State = 0 → takenN x.Tiles = 0 ∧ x.Fails = 0) ∧ (x.State = 3 → takenN x.Tiles = x.Tiles.length))) (h17 : x.State = 3) : 0 = doneN x := by
  first | exact (done_no ‹_›).symm | exact (done_3 ‹JobOK x› (by omega)).symm | (rw [done_1 ‹JobOK x› (by omega)]; omega) | (rw [done_2 ‹JobOK x› (by omega) (by omega)]; omega) | (subst hlex_Tiles; exact done_lit ‹JobOK x› ‹_[_]? = some _›)
theorem z_c_impl_StepsToDone_19 (x : ScanJob) (nx_Tiles : Nat) (hbdx_Tiles : (nx_Tiles : Int) ≤ 9223372036854775807) (hlex_Tiles : nx_Tiles = x.Tiles.length) (h13 : JobOK x) (hq16 : x.Tiles.length ≤ 8 ∧ takenN x.Tiles ≤ x.Tiles.length ∧ (0 ≤ sumI x.Tiles ∧ sumI x.Tiles ≤ 800) ∧ (1 ≤ (x.Tiles.length : Int) ∧ x.Next = (takenN x.Tiles : Int) ∧ x.Size = 10 * sumI x.Tiles ∧ (0 ≤ x.State ∧ x.State ≤ 3) ∧ (0 ≤ x.Fails ∧ x.Fails ≤ 3) ∧ (x.Fails = 3 → x.State = 2) ∧ (x.State = 0 → takenN x.Tiles = 0 ∧ x.Fails = 0) ∧ (x.State = 3 → takenN x.Tiles = x.Tiles.length))) (h17 : x.State = 3) : JobOK x := by
  first | assumption | (simp_all; done)
theorem z_c_impl_StepsToDone_21 (x : ScanJob) (nx_Tiles : Nat) (hbdx_Tiles : (nx_Tiles : Int) ≤ 9223372036854775807) (hlex_Tiles : nx_Tiles = x.Tiles.length) (h13 : JobOK x) (hq16 : x.Tiles.length ≤ 8 ∧ takenN x.Tiles ≤ x.Tiles.length ∧ (0 ≤ sumI x.Tiles ∧ sumI x.Tiles ≤ 800) ∧ (1 ≤ (x.Tiles.length : Int) ∧ x.Next = (takenN x.Tiles : Int) ∧ x.Size = 10 * sumI x.Tiles ∧ (0 ≤ x.State ∧ x.State ≤ 3) ∧ (0 ≤ x.Fails ∧ x.Fails ≤ 3) ∧ (x.Fails = 3 → x.State = 2) ∧ (x.State = 0 → takenN x.Tiles = 0 ∧ x.Fails = 0) ∧ (x.State = 3 → takenN x.Tiles = x.Tiles.length))) (h17 : ¬ (x.State = 3)) (h20 : x.State = 1) : ((nx_Tiles : Int) - x.Next) + 1 = doneN x := by
  first | exact (done_no ‹_›).symm | exact (done_3 ‹JobOK x› (by omega)).symm | (rw [done_1 ‹JobOK x› (by omega)]; omega) | (rw [done_2 ‹JobOK x› (by omega) (by omega)]; omega) | (subst hlex_Tiles; exact done_lit ‹JobOK x› ‹_[_]? = some _›)
theorem z_c_impl_StepsToDone_22 (x : ScanJob) (nx_Tiles : Nat) (hbdx_Tiles : (nx_Tiles : Int) ≤ 9223372036854775807) (hlex_Tiles : nx_Tiles = x.Tiles.length) (h13 : JobOK x) (hq16 : x.Tiles.length ≤ 8 ∧ takenN x.Tiles ≤ x.Tiles.length ∧ (0 ≤ sumI x.Tiles ∧ sumI x.Tiles ≤ 800) ∧ (1 ≤ (x.Tiles.length : Int) ∧ x.Next = (takenN x.Tiles : Int) ∧ x.Size = 10 * sumI x.Tiles ∧ (0 ≤ x.State ∧ x.State ≤ 3) ∧ (0 ≤ x.Fails ∧ x.Fails ≤ 3) ∧ (x.Fails = 3 → x.State = 2) ∧ (x.State = 0 → takenN x.Tiles = 0 ∧ x.Fails = 0) ∧ (x.State = 3 → takenN x.Tiles = x.Tiles.length))) (h17 : ¬ (x.State = 3)) (h20 : x.State = 1) : JobOK x := by
  first | assumption | (simp_all; done)
theorem z_c_impl_StepsToDone_23 (x : ScanJob) (nx_Tiles : Nat) (hbdx_Tiles : (nx_Tiles : Int) ≤ 9223372036854775807) (hlex_Tiles : nx_Tiles = x.Tiles.length) (h13 : JobOK x) (hq16 : x.Tiles.length ≤ 8 ∧ takenN x.Tiles ≤ x.Tiles.length ∧ (0 ≤ sumI x.Tiles ∧ sumI x.Tiles ≤ 800) ∧ (1 ≤ (x.Tiles.length : Int) ∧ x.Next = (takenN x.Tiles : Int) ∧ x.Size = 10 * sumI x.Tiles ∧ (0 ≤ x.State ∧ x.State ≤ 3) ∧ (0 ≤ x.Fails ∧ x.Fails ≤ 3) ∧ (x.Fails = 3 → x.State = 2) ∧ (x.State = 0 → takenN x.Tiles = 0 ∧ x.Fails = 0) ∧ (x.State = 3 → takenN x.Tiles = x.Tiles.length))) (h17 : ¬ (x.State = 3)) (h20 : ¬ (x.State = 1)) : ((nx_Tiles : Int) - x.Next) + 2 = doneN x := by
  first | exact (done_no ‹_›).symm | exact (done_3 ‹JobOK x› (by omega)).symm | (rw [done_1 ‹JobOK x› (by omega)]; omega) | (rw [done_2 ‹JobOK x› (by omega) (by omega)]; omega) | (subst hlex_Tiles; exact done_lit ‹JobOK x› ‹_[_]? = some _›)
theorem z_c_impl_StepsToDone_24 (x : ScanJob) (nx_Tiles : Nat) (hbdx_Tiles : (nx_Tiles : Int) ≤ 9223372036854775807) (hlex_Tiles : nx_Tiles = x.Tiles.length) (h13 : JobOK x) (hq16 : x.Tiles.length ≤ 8 ∧ takenN x.Tiles ≤ x.Tiles.length ∧ (0 ≤ sumI x.Tiles ∧ sumI x.Tiles ≤ 800) ∧ (1 ≤ (x.Tiles.length : Int) ∧ x.Next = (takenN x.Tiles : Int) ∧ x.Size = 10 * sumI x.Tiles ∧ (0 ≤ x.State ∧ x.State ≤ 3) ∧ (0 ≤ x.Fails ∧ x.Fails ≤ 3) ∧ (x.Fails = 3 → x.State = 2) ∧ (x.State = 0 → takenN x.Tiles = 0 ∧ x.Fails = 0) ∧ (x.State = 3 → takenN x.Tiles = x.Tiles.length))) (h17 : ¬ (x.State = 3)) (h20 : ¬ (x.State = 1)) : JobOK x := by
  first | assumption | (simp_all; done)
theorem c_impl_StepsToDone (w : World) (x : ScanJob) {Ax_Tiles : Option Addr} {nx_Tiles cx_Tiles Bx_Tiles : Nat} (hx_Tiles : SlR w Bx_Tiles encI 1 Ax_Tiles nx_Tiles cx_Tiles x.Tiles) : Calls Tryd.prog 28 #[.agg (List.toArray [.int .i64 x.State, .slice Ax_Tiles nx_Tiles cx_Tiles, .int .i64 x.Next, .int .i64 x.Fails, .int .i64 x.Size])] w fun e w' => e = .returned (.tuple (List.toArray [.int .i64 (doneN x), .bool (decide (JobOK x))])) ∧ Lo w w' := by
  refine calls_W 24 Tryd.func28 rfl rfl rfl ?_
  have hbdx_Tiles := hx_Tiles.bound
  have hlex_Tiles := hx_Tiles.len
  have hBbx_Tiles := hx_Tiles.bd
  refine W.seq ?_
  refine W.regS (SR.box (v := .agg (List.toArray _)) (l := [.int .i64 x.State, .slice Ax_Tiles nx_Tiles cx_Tiles, .int .i64 x.Next, .int .i64 x.Fails, .int .i64 x.Size]) rfl rfl ?_)
  intro g1 w2 hg3 hk4 hs5 hb6
  have hz7 := hk4.size
  have hB8 := (Lo.refl w).lo hk4
  refine SR.q' (r_as (v := .int .i64 0) rfl) <| SR.q' (r_as (v := .bool false) rfl) <| SR.nil ?_
  refine W.seq ?_
  refine W.seq ?_
  refine W.regS (SR.q' (r_lda (l := [.int .i64 x.State, .slice Ax_Tiles nx_Tiles cx_Tiles, .int .i64 x.Next, .int .i64 x.Fails, .int .i64 x.Size]) agg57 rfl (fun _ _ hu => (hb6).cell hu) rfl) <| SR.call ent39 (c_impl_IsScanJob w2 x (((hx_Tiles).lo hk4))) rfl ?_)
  rintro e w9 ⟨rfl, hk10⟩
  refine ⟨_, rfl, ?_⟩
  have hz11 := hk10.size
  have hB12 := hB8.lo hk10
  refine SR.q' (r_not rfl) <| SR.nil ?_
  refine W.cond_n rfl (fun h13 => ?_) (fun h13 => ?_)
  · refine W.seq ?_
    refine W.regS (SR.q' (r_as (v := .int .i64 0) rfl) <| SR.q' (r_as (v := .bool false) rfl) <| SR.nil ?_)
    refine W.ret ?_
    refine ret2 rfl (v := .int .i64 _) (v' := .bool _) rfl rfl ?_
    exact ⟨eR (eT2 (eI (z_c_impl_StepsToDone_14 x nx_Tiles hbdx_Tiles hlex_Tiles h13)) (eDF (z_c_impl_StepsToDone_15 x nx_Tiles hbdx_Tiles hlex_Tiles h13))), hB12⟩
  · have hq16 := job_rng h13
    refine W.skip ?_
    refine W.seq ?_
    refine W.regS (SR.q' (r_fa fa57_1 rfl) <| SR.q' (r_ld (v := .slice Ax_Tiles nx_Tiles cx_Tiles) sca38 rfl (((hb6).lo hk10).cell rfl)) <| SR.q' (r_len und38 rfl) <| SR.q' (r_fa fa57_2 rfl) <| SR.q' (r_ld (v := .int .i64 x.Next) sca3 rfl (((hb6).lo hk10).cell rfl)) <| SR.q' (r_sub rfl rfl (by omega)) <| SR.q' (r_as (v := .int .i64 _) rfl) <| SR.nil ?_)
    refine W.seq ?_
    refine W.seq ?_
    refine W.regS (SR.q' (r_fa fa57_0 rfl) <| SR.q' (r_ld (v := .int .i64 x.State) sca3 rfl (((hb6).lo hk10).cell rfl)) <| SR.nil ?_)
    refine W.block ?_
    refine W.seq ?_
    refine W.regS (SR.q' (r_eq rfl rfl) <| SR.q' (r_as (v := .bool _) rfl) <| SR.nil ?_)
    refine W.cond_d rfl (fun h17 => ?_) (fun h17 => ?_)
    · refine W.seq ?_
      refine W.regS (SR.q' (r_as (v := .int .i64 0) rfl) <| SR.q' (r_as (v := .bool true) rfl) <| SR.nil ?_)
      refine W.ret ?_
      refine ret2 rfl (v := .int .i64 _) (v' := .bool _) rfl rfl ?_
      exact ⟨eR (eT2 (eI (z_c_impl_StepsToDone_18 x nx_Tiles hbdx_Tiles hlex_Tiles h13 hq16 h17)) (eDT (z_c_impl_StepsToDone_19 x nx_Tiles hbdx_Tiles hlex_Tiles h13 hq16 h17))), hB12⟩
    · refine W.seq ?_
      refine W.regS (SR.q' (r_eq rfl rfl) <| SR.q' (r_as (v := .bool _) rfl) <| SR.nil ?_)
      refine W.cond_d rfl (fun h20 => ?_) (fun h20 => ?_)
      · refine W.seq ?_
        refine W.regS (SR.q' (r_mv (v := .int .i64 _) rfl) <| SR.q' (r_add rfl rfl (by omega)) <| SR.q' (r_as (v := .int .i64 _) rfl) <| SR.q' (r_as (v := .bool true) rfl) <| SR.nil ?_)
        refine W.ret ?_
        refine ret2 rfl (v := .int .i64 _) (v' := .bool _) rfl rfl ?_
        exact ⟨eR (eT2 (eI (z_c_impl_StepsToDone_21 x nx_Tiles hbdx_Tiles hlex_Tiles h13 hq16 h17 h20)) (eDT (z_c_impl_StepsToDone_22 x nx_Tiles hbdx_Tiles hlex_Tiles h13 hq16 h17 h20))), hB12⟩
      · refine W.skip ?_
        refine W.seq ?_
        refine W.regS (SR.q' (r_mv (v := .int .i64 _) rfl) <| SR.q' (r_add rfl rfl (by omega)) <| SR.q' (r_as (v := .int .i64 _) rfl) <| SR.q' (r_as (v := .bool true) rfl) <| SR.nil ?_)
        refine W.ret ?_
        refine ret2 rfl (v := .int .i64 _) (v' := .bool _) rfl rfl ?_
        exact ⟨eR (eT2 (eI (z_c_impl_StepsToDone_23 x nx_Tiles hbdx_Tiles hlex_Tiles h13 hq16 h17 h20)) (eDT (z_c_impl_StepsToDone_24 x nx_Tiles hbdx_Tiles hlex_Tiles h13 hq16 h17 h20))), hB12⟩

theorem z_c_spec_StepsToDone_14 (x : ScanJob) (nx_Tiles : Nat) (hbdx_Tiles : (nx_Tiles : Int) ≤ 9223372036854775807) (hlex_Tiles : nx_Tiles = x.Tiles.length) (h13 : ¬ (JobOK x)) : 0 = doneN x := by
  first | exact (done_no ‹_›).symm | exact (done_3 ‹JobOK x› (by omega)).symm | (rw [done_1 ‹JobOK x› (by omega)]; omega) | (rw [done_2 ‹JobOK x› (by omega) (by omega)]; omega) | (subst hlex_Tiles; exact done_lit ‹JobOK x› ‹_[_]? = some _›)
theorem z_c_spec_StepsToDone_15 (x : ScanJob) (nx_Tiles : Nat) (hbdx_Tiles : (nx_Tiles : Int) ≤ 9223372036854775807) (hlex_Tiles : nx_Tiles = x.Tiles.length) (h13 : ¬ (JobOK x)) : ¬ (JobOK x) := by
  first | assumption | (simp_all; done)
theorem z_c_spec_StepsToDone_26 (x : ScanJob) (nx_Tiles : Nat) (hbdx_Tiles : (nx_Tiles : Int) ≤ 9223372036854775807) (hlex_Tiles : nx_Tiles = x.Tiles.length) (h13 : JobOK x) (hq16 : x.Tiles.length ≤ 8 ∧ takenN x.Tiles ≤ x.Tiles.length ∧ (0 ≤ sumI x.Tiles ∧ sumI x.Tiles ≤ 800) ∧ (1 ≤ (x.Tiles.length : Int) ∧ x.Next = (takenN x.Tiles : Int) ∧ x.Size = 10 * sumI x.Tiles ∧ (0 ≤ x.State ∧ x.State ≤ 3) ∧ (0 ≤ x.Fails ∧ x.Fails ≤ 3) ∧ (x.Fails = 3 → x.State = 2) ∧ (x.State = 0 → takenN x.Tiles = 0 ∧ x.Fails = 0) ∧ (x.State = 3 → takenN x.Tiles = x.Tiles.length))) (hx25 : ([((nx_Tiles : Int) - x.Next) + 2, ((nx_Tiles : Int) - x.Next) + 1, ((nx_Tiles : Int) - x.Next) + 2, 0] : List Int)[x.State.toNat]? = some (gt ([((nx_Tiles : Int) - x.Next) + 2, ((nx_Tiles : Int) - x.Next) + 1, ((nx_Tiles : Int) - x.Next) + 2, 0] : List Int) x.State.toNat)) : (gt ([((nx_Tiles : Int) - x.Next) + 2, ((nx_Tiles : Int) - x.Next) + 1, ((nx_Tiles : Int) - x.Next) + 2, 0] : List Int) x.State.toNat) = doneN x := by
  first | exact (done_no ‹_›).symm | exact (done_3 ‹JobOK x› (by omega)).symm | (rw [done_1 ‹JobOK x› (by omega)]; omega) | (rw [done_2 ‹JobOK x› (by omega) (by omega)]; omega) | (subst hlex_Tiles; exact done_lit ‹JobOK x› ‹_[_]? = some _›)
theorem z_c_spec_StepsToDone_27 (x : ScanJob) (nx_Tiles : Nat) (hbdx_Tiles : (nx_Tiles : Int) ≤ 9223372036854775807) (hlex_Tiles : nx_Tiles = x.Tiles.length) (h13 : JobOK x) (hq16 : x.Tiles.length ≤ 8 ∧ takenN x.Tiles ≤ x.Tiles.length ∧ (0 ≤ sumI x.Tiles ∧ sumI x.Tiles ≤ 800) ∧ (1 ≤ (x.Tiles.length : Int) ∧ x.Next = (takenN x.Tiles : Int) ∧ x.Size = 10 * sumI x.Tiles ∧ (0 ≤ x.State ∧ x.State ≤ 3) ∧ (0 ≤ x.Fails ∧ x.Fails ≤ 3) ∧ (x.Fails = 3 → x.State = 2) ∧ (x.State = 0 → takenN x.Tiles = 0 ∧ x.Fails = 0) ∧ (x.State = 3 → takenN x.Tiles = x.Tiles.length))) (hx25 : ([((nx_Tiles : Int) - x.Next) + 2, ((nx_Tiles : Int) - x.Next) + 1, ((nx_Tiles : Int) - x.Next) + 2, 0] : List Int)[x.State.toNat]? = some (gt ([((nx_Tiles : Int) - x.Next) + 2, ((nx_Tiles : Int) - x.Next) + 1, ((nx_Tiles : Int) - x.Next) + 2, 0] : List Int) x.State.toNat)) : JobOK x := by
  first | assumption | (simp_all; done)
theorem c_spec_StepsToDone (w : World) (x : ScanJob) {Ax_Tiles : Option Addr} {nx_Tiles cx_Tiles Bx_Tiles : Nat} (hx_Tiles : SlR w Bx_Tiles encI 1 Ax_Tiles nx_Tiles cx_Tiles x.Tiles) : Calls Tryd.prog 29 #[.agg (List.toArray [.int .i64 x.State, .slice Ax_Tiles nx_Tiles cx_Tiles, .int .i64 x.Next, .int .i64 x.Fails, .int .i64 x.Size])] w fun e w' => e = .returned (.tuple (List.toArray [.int .i64 (doneN x), .bool (decide (JobOK x))])) ∧ Lo w w' := by
  refine calls_W 25 Tryd.func29 rfl rfl rfl ?_
  have hbdx_Tiles := hx_Tiles.bound
  have hlex_Tiles := hx_Tiles.len
  have hBbx_Tiles := hx_Tiles.bd
  refine W.seq ?_
  refine W.regS (SR.box (v := .agg (List.toArray _)) (l := [.int .i64 x.State, .slice Ax_Tiles nx_Tiles cx_Tiles, .int .i64 x.Next, .int .i64 x.Fails, .int .i64 x.Size]) rfl rfl ?_)
  intro g1 w2 hg3 hk4 hs5 hb6
  have hz7 := hk4.size
  have hB8 := (Lo.refl w).lo hk4
  refine SR.q' (r_as (v := .int .i64 0) rfl) <| SR.q' (r_as (v := .bool false) rfl) <| SR.nil ?_
  refine W.seq ?_
  refine W.seq ?_
  refine W.regS (SR.q' (r_lda (l := [.int .i64 x.State, .slice Ax_Tiles nx_Tiles cx_Tiles, .int .i64 x.Next, .int .i64 x.Fails, .int .i64 x.Size]) agg57 rfl (fun _ _ hu => (hb6).cell hu) rfl) <| SR.call ent69 (c_spec_l29Good w2 x (((hx_Tiles).lo hk4))) rfl ?_)
  rintro e w9 ⟨rfl, hk10⟩
  refine ⟨_, rfl, ?_⟩
  have hz11 := hk10.size
  have hB12 := hB8.lo hk10
  refine SR.q' (r_not rfl) <| SR.nil ?_
  refine W.cond_n rfl (fun h13 => ?_) (fun h13 => ?_)
  · refine W.seq ?_
    refine W.regS (SR.q' (r_as (v := .int .i64 0) rfl) <| SR.q' (r_as (v := .bool false) rfl) <| SR.nil ?_)
    refine W.ret ?_
    refine ret2 rfl (v := .int .i64 _) (v' := .bool _) rfl rfl ?_
    exact ⟨eR (eT2 (eI (z_c_spec_StepsToDone_14 x nx_Tiles hbdx_Tiles hlex_Tiles h13)) (eDF (z_c_spec_StepsToDone_15 x nx_Tiles hbdx_Tiles hlex_Tiles h13))), hB12⟩
  · have hq16 := job_rng h13
    refine W.skip ?_
    refine W.seq ?_
    refine W.regS (SR.q' (r_fa fa57_1 rfl) <| SR.q' (r_ld (v := .slice Ax_Tiles nx_Tiles cx_Tiles) sca38 rfl (((hb6).lo hk10).cell rfl)) <| SR.q' (r_len und38 rfl) <| SR.q' (r_fa fa57_2 rfl) <| SR.q' (r_ld (v := .int .i64 x.Next) sca3 rfl (((hb6).lo hk10).cell rfl)) <| SR.q' (r_sub rfl rfl (by omega)) <| SR.q' (r_as (v := .int .i64 _) rfl) <| SR.nil ?_)
    refine W.seq ?_
    refine W.regS (SR.q' (r_mv (v := .int .i64 _) rfl) <| SR.q' (r_add rfl rfl (by omega)) <| SR.q' (r_mv (v := .int .i64 _) rfl) <| SR.q' (r_add rfl rfl (by omega)) <| SR.q' (r_mv (v := .int .i64 _) rfl) <| SR.q' (r_add rfl rfl (by omega)) <| SR.lit (vs := [.int .i64 (((nx_Tiles : Int) - x.Next) + 2), .int .i64 (((nx_Tiles : Int) - x.Next) + 1), .int .i64 (((nx_Tiles : Int) - x.Next) + 2), .int .i64 0]) (L := ([((nx_Tiles : Int) - x.Next) + 2, ((nx_Tiles : Int) - x.Next) + 1, ((nx_Tiles : Int) - x.Next) + 2, 0] : List Int)) (enc := encI) tel38 (fun _ => rfl) rfl rfl rfl (by decide) ?_)
    intro g17 w18 hg19 hk20 hO21
    have hz22 := hk20.size
    have hB23 := hB12.lo hk20
    refine SR.q' (r_fa fa57_0 rfl) <| SR.q' (r_ld (v := .int .i64 x.State) sca3 rfl ((((hb6).lo hk10).lo hk20).cell rfl)) <| ?_
    have hx25 := ((hO21).rd).elem (i := x.State.toNat) (by omega)
    refine SR.q' (r_ixR tsl38 ((hO21).rd) rfl rfl (by omega)) <| SR.q' (r_ld (v := .int .i64 (gt ([((nx_Tiles : Int) - x.Next) + 2, ((nx_Tiles : Int) - x.Next) + 1, ((nx_Tiles : Int) - x.Next) + 2, 0] : List Int) x.State.toNat)) sca3 rfl (((hO21).rd).cell0 hx25 rfl)) <| SR.q' (r_as (v := .int .i64 _) rfl) <| SR.q' (r_as (v := .bool true) rfl) <| SR.nil ?_
    refine W.ret ?_
    refine ret2 rfl (v := .int .i64 _) (v' := .bool _) rfl rfl ?_
    exact ⟨eR (eT2 (eI (z_c_spec_StepsToDone_26 x nx_Tiles hbdx_Tiles hlex_Tiles h13 hq16 hx25)) (eDT (z_c_spec_StepsToDone_27 x nx_Tiles hbdx_Tiles hlex_Tiles h13 hq16 hx25))), hB23⟩

theorem z_c_impl_JobText_14 (x : ScanJob) (nx_Tiles : Nat) (hbdx_Tiles : (nx_Tiles : Int) ≤ 9223372036854775807) (hlex_Tiles : nx_Tiles = x.Tiles.length) (h13 : ¬ (JobOK x)) : ([] : List UInt8) = jX x := by
  first | exact jX_no ‹_› | exact jX_yes ‹JobOK x› (by omega)
theorem z_c_impl_JobText_15 (x : ScanJob) (nx_Tiles : Nat) (hbdx_Tiles : (nx_Tiles : Int) ≤ 9223372036854775807) (hlex_Tiles : nx_Tiles = x.Tiles.length) (h13 : ¬ (JobOK x)) : ¬ (JobOK x) := by
  first | assumption | (simp_all; done)
theorem z_c_impl_JobText_27 (x : ScanJob) (nx_Tiles : Nat) (hbdx_Tiles : (nx_Tiles : Int) ≤ 9223372036854775807) (hlex_Tiles : nx_Tiles = x.Tiles.length) (h13 : JobOK x) (hq16 : x.Tiles.length ≤ 8 ∧ takenN x.Tiles ≤ x.Tiles.length ∧ (0 ≤ sumI x.Tiles ∧ sumI x.Tiles ≤ 800) ∧ (1 ≤ (x.Tiles.length : Int) ∧ x.Next = (takenN x.Tiles : Int) ∧ x.Size = 10 * sumI x.Tiles ∧ (0 ≤ x.State ∧ x.State ≤ 3) ∧ (0 ≤ x.Fails ∧ x.Fails ≤ 3) ∧ (x.Fails = 3 → x.State = 2) ∧ (x.State = 0 → takenN x.Tiles = 0 ∧ x.Fails = 0) ∧ (x.State = 3 → takenN x.Tiles = x.Tiles.length))) (hx25 : ([([105, 100, 108, 101] : List UInt8), ([114, 117, 110, 115] : List UInt8), ([104, 101, 108, 100] : List UInt8), ([100, 111, 110, 101] : List UInt8)] : List (List UInt8))[x.State.toNat]? = some (gt ([([105, 100, 108, 101] : List UInt8), ([114, 117, 110, 115] : List UInt8), ([104, 101, 108, 100] : List UInt8), ([100, 111, 110, 101] : List UInt8)] : List (List UInt8)) x.State.toNat)) (hq26 : (gt ([([105, 100, 108, 101] : List UInt8), ([114, 117, 110, 115] : List UInt8), ([104, 101, 108, 100] : List UInt8), ([100, 111, 110, 101] : List UInt8)] : List (List UInt8)) x.State.toNat).length ≤ 40) : 0 ≤ nx_Tiles := by
  omega
theorem z_c_impl_JobText_40 (x : ScanJob) (nx_Tiles : Nat) (hbdx_Tiles : (nx_Tiles : Int) ≤ 9223372036854775807) (hlex_Tiles : nx_Tiles = x.Tiles.length) (h13 : JobOK x) (hq16 : x.Tiles.length ≤ 8 ∧ takenN x.Tiles ≤ x.Tiles.length ∧ (0 ≤ sumI x.Tiles ∧ sumI x.Tiles ≤ 800) ∧ (1 ≤ (x.Tiles.length : Int) ∧ x.Next = (takenN x.Tiles : Int) ∧ x.Size = 10 * sumI x.Tiles ∧ (0 ≤ x.State ∧ x.State ≤ 3) ∧ (0 ≤ x.Fails ∧ x.Fails ≤ 3) ∧ (x.Fails = 3 → x.State = 2) ∧ (x.State = 0 → takenN x.Tiles = 0 ∧ x.Fails = 0) ∧ (x.State = 3 → takenN x.Tiles = x.Tiles.length))) (hx25 : ([([105, 100, 108, 101] : List UInt8), ([114, 117, 110, 115] : List UInt8), ([104, 101, 108, 100] : List UInt8), ([100, 111, 110, 101] : List UInt8)] : List (List UInt8))[x.State.toNat]? = some (gt ([([105, 100, 108, 101] : List UInt8), ([114, 117, 110, 115] : List UInt8), ([104, 101, 108, 100] : List UInt8), ([100, 111, 110, 101] : List UInt8)] : List (List UInt8)) x.State.toNat)) (hq26 : (gt ([([105, 100, 108, 101] : List UInt8), ([114, 117, 110, 115] : List UInt8), ([104, 101, 108, 100] : List UInt8), ([100, 111, 110, 101] : List UInt8)] : List (List UInt8)) x.State.toNat).length ≤ 40) (k : Nat) (hi33 : k ≤ nx_Tiles) (hq34 : (jT x k).length ≤ 40 + 22 * k) (h35 : (k : Int) < (nx_Tiles : Int)) (hx37 : x.Tiles[k]? = some (gt x.Tiles k)) (hq38 : 0 ≤ (gt x.Tiles k) ∧ (gt x.Tiles k) ≤ 100) (h39 : (gt x.Tiles k) = 0) : k + 1 ≤ nx_Tiles := by
  omega
theorem z_c_impl_JobText_41 (x : ScanJob) (nx_Tiles : Nat) (hbdx_Tiles : (nx_Tiles : Int) ≤ 9223372036854775807) (hlex_Tiles : nx_Tiles = x.Tiles.length) (h13 : JobOK x) (hq16 : x.Tiles.length ≤ 8 ∧ takenN x.Tiles ≤ x.Tiles.length ∧ (0 ≤ sumI x.Tiles ∧ sumI x.Tiles ≤ 800) ∧ (1 ≤ (x.Tiles.length : Int) ∧ x.Next = (takenN x.Tiles : Int) ∧ x.Size = 10 * sumI x.Tiles ∧ (0 ≤ x.State ∧ x.State ≤ 3) ∧ (0 ≤ x.Fails ∧ x.Fails ≤ 3) ∧ (x.Fails = 3 → x.State = 2) ∧ (x.State = 0 → takenN x.Tiles = 0 ∧ x.Fails = 0) ∧ (x.State = 3 → takenN x.Tiles = x.Tiles.length))) (hx25 : ([([105, 100, 108, 101] : List UInt8), ([114, 117, 110, 115] : List UInt8), ([104, 101, 108, 100] : List UInt8), ([100, 111, 110, 101] : List UInt8)] : List (List UInt8))[x.State.toNat]? = some (gt ([([105, 100, 108, 101] : List UInt8), ([114, 117, 110, 115] : List UInt8), ([104, 101, 108, 100] : List UInt8), ([100, 111, 110, 101] : List UInt8)] : List (List UInt8)) x.State.toNat)) (hq26 : (gt ([([105, 100, 108, 101] : List UInt8), ([114, 117, 110, 115] : List UInt8), ([104, 101, 108, 100] : List UInt8), ([100, 111, 110, 101] : List UInt8)] : List (List UInt8)) x.State.toNat).length ≤ 40) (k : Nat) (hi33 : k ≤ nx_Tiles) (hq34 : (jT x k).length ≤ 40 + 22 * k) (h35 : (k : Int) < (nx_Tiles : Int)) (hx37 : x.Tiles[k]? = some (gt x.Tiles k)) (hq38 : 0 ≤ (gt x.Tiles k) ∧ (gt x.Tiles k) ≤ 100) (h39 : (gt x.Tiles k) = 0) : nx_Tiles - (k + 1) < nx_Tiles - k := by
  omega
theorem z_c_impl_JobText_47 (x : ScanJob) (nx_Tiles : Nat) (hbdx_Tiles : (nx_Tiles : Int) ≤ 9223372036854775807) (hlex_Tiles : nx_Tiles = x.Tiles.length) (h13 : JobOK x) (hq16 : x.Tiles.length ≤ 8 ∧ takenN x.Tiles ≤ x.Tiles.length ∧ (0 ≤ sumI x.Tiles ∧ sumI x.Tiles ≤ 800) ∧ (1 ≤ (x.Tiles.length : Int) ∧ x.Next = (takenN x.Tiles : Int) ∧ x.Size = 10 * sumI x.Tiles ∧ (0 ≤ x.State ∧ x.State ≤ 3) ∧ (0 ≤ x.Fails ∧ x.Fails ≤ 3) ∧ (x.Fails = 3 → x.State = 2) ∧ (x.State = 0 → takenN x.Tiles = 0 ∧ x.Fails = 0) ∧ (x.State = 3 → takenN x.Tiles = x.Tiles.length))) (hx25 : ([([105, 100, 108, 101] : List UInt8), ([114, 117, 110, 115] : List UInt8), ([104, 101, 108, 100] : List UInt8), ([100, 111, 110, 101] : List UInt8)] : List (List UInt8))[x.State.toNat]? = some (gt ([([105, 100, 108, 101] : List UInt8), ([114, 117, 110, 115] : List UInt8), ([104, 101, 108, 100] : List UInt8), ([100, 111, 110, 101] : List UInt8)] : List (List UInt8)) x.State.toNat)) (hq26 : (gt ([([105, 100, 108, 101] : List UInt8), ([114, 117, 110, 115] : List UInt8), ([104, 101, 108, 100] : List UInt8), ([100, 111, 110, 101] : List UInt8)] : List (List UInt8)) x.State.toNat).length ≤ 40) (k : Nat) (hi33 : k ≤ nx_Tiles) (hq34 : (jT x k).length ≤ 40 + 22 * k) (h35 : (k : Int) < (nx_Tiles : Int)) (hx37 : x.Tiles[k]? = some (gt x.Tiles k)) (hq38 : 0 ≤ (gt x.Tiles k) ∧ (gt x.Tiles k) ≤ 100) (h39 : ¬ ((gt x.Tiles k) = 0)) (hq46 : (Lib.itoa (gt x.Tiles k)).length ≤ 21) : k + 1 ≤ nx_Tiles := by
  omega
theorem z_c_impl_JobText_48 (x : ScanJob) (nx_Tiles : Nat) (hbdx_Tiles : (nx_Tiles : Int) ≤ 9223372036854775807) (hlex_Tiles : nx_Tiles = x.Tiles.length) (h13 : JobOK x) (hq16 : x.Tiles.length ≤ 8 ∧ takenN x.Tiles ≤ x.Tiles.length ∧ (0 ≤ sumI x.Tiles ∧ sumI x.Tiles ≤ 800) ∧ (1 ≤ (x.Tiles.length : Int) ∧ x.Next = (takenN x.Tiles : Int) ∧ x.Size = 10 * sumI x.Tiles ∧ (0 ≤ x.State ∧ x.State ≤ 3) ∧ (0 ≤ x.Fails ∧ x.Fails ≤ 3) ∧ (x.Fails = 3 → x.State = 2) ∧ (x.State = 0 → takenN x.Tiles = 0 ∧ x.Fails = 0) ∧ (x.State = 3 → takenN x.Tiles = x.Tiles.length))) (hx25 : ([([105, 100, 108, 101] : List UInt8), ([114, 117, 110, 115] : List UInt8), ([104, 101, 108, 100] : List UInt8), ([100, 111, 110, 101] : List UInt8)] : List (List UInt8))[x.State.toNat]? = some (gt ([([105, 100, 108, 101] : List UInt8), ([114, 117, 110, 115] : List UInt8), ([104, 101, 108, 100] : List UInt8), ([100, 111, 110, 101] : List UInt8)] : List (List UInt8)) x.State.toNat)) (hq26 : (gt ([([105, 100, 108, 101] : List UInt8), ([114, 117, 110, 115] : List UInt8), ([104, 101, 108, 100] : List UInt8), ([100, 111, 110, 101] : List UInt8)] : List (List UInt8)) x.State.toNat).length ≤ 40) (k : Nat) (hi33 : k ≤ nx_Tiles) (hq34 : (jT x k).length ≤ 40 + 22 * k) (h35 : (k : Int) < (nx_Tiles : Int)) (hx37 : x.Tiles[k]? = some (gt x.Tiles k)) (hq38 : 0 ≤ (gt x.Tiles k) ∧ (gt x.Tiles k) ≤ 100) (h39 : ¬ ((gt x.Tiles k) = 0)) (hq46 : (Lib.itoa (gt x.Tiles k)).length ≤ 21) : nx_Tiles - (k + 1) < nx_Tiles - k := by
  omega
theorem z_c_impl_JobText_49 (x : ScanJob) (nx_Tiles : Nat) (hbdx_Tiles : (nx_Tiles : Int) ≤ 9223372036854775807) (hlex_Tiles : nx_Tiles = x.Tiles.length) (h13 : JobOK x) (hq16 : x.Tiles.length ≤ 8 ∧ takenN x.Tiles ≤ x.Tiles.length ∧ (0 ≤ sumI x.Tiles ∧ sumI x.Tiles ≤ 800) ∧ (1 ≤ (x.Tiles.length : Int) ∧ x.Next = (takenN x.Tiles : Int) ∧ x.Size = 10 * sumI x.Tiles ∧ (0 ≤ x.State ∧ x.State ≤ 3) ∧ (0 ≤ x.Fails ∧ x.Fails ≤ 3) ∧ (x.Fails = 3 → x.State = 2) ∧ (x.State = 0 → takenN x.Tiles = 0 ∧ x.Fails = 0) ∧ (x.State = 3 → takenN x.Tiles = x.Tiles.length))) (hx25 : ([([105, 100, 108, 101] : List UInt8), ([114, 117, 110, 115] : List UInt8), ([104, 101, 108, 100] : List UInt8), ([100, 111, 110, 101] : List UInt8)] : List (List UInt8))[x.State.toNat]? = some (gt ([([105, 100, 108, 101] : List UInt8), ([114, 117, 110, 115] : List UInt8), ([104, 101, 108, 100] : List UInt8), ([100, 111, 110, 101] : List UInt8)] : List (List UInt8)) x.State.toNat)) (hq26 : (gt ([([105, 100, 108, 101] : List UInt8), ([114, 117, 110, 115] : List UInt8), ([104, 101, 108, 100] : List UInt8), ([100, 111, 110, 101] : List UInt8)] : List (List UInt8)) x.State.toNat).length ≤ 40) (k : Nat) (hi33 : k ≤ nx_Tiles) (hq34 : (jT x k).length ≤ 40 + 22 * k) (h35 : ¬ ((k : Int) < (nx_Tiles : Int))) : jT x k = jX x := by
  first | exact jX_no ‹_› | exact jX_yes ‹JobOK x› (by omega)
theorem z_c_impl_JobText_50 (x : ScanJob) (nx_Tiles : Nat) (hbdx_Tiles : (nx_Tiles : Int) ≤ 9223372036854775807) (hlex_Tiles : nx_Tiles = x.Tiles.length) (h13 : JobOK x) (hq16 : x.Tiles.length ≤ 8 ∧ takenN x.Tiles ≤ x.Tiles.length ∧ (0 ≤ sumI x.Tiles ∧ sumI x.Tiles ≤ 800) ∧ (1 ≤ (x.Tiles.length : Int) ∧ x.Next = (takenN x.Tiles : Int) ∧ x.Size = 10 * sumI x.Tiles ∧ (0 ≤ x.State ∧ x.State ≤ 3) ∧ (0 ≤ x.Fails ∧ x.Fails ≤ 3) ∧ (x.Fails = 3 → x.State = 2) ∧ (x.State = 0 → takenN x.Tiles = 0 ∧ x.Fails = 0) ∧ (x.State = 3 → takenN x.Tiles = x.Tiles.length))) (hx25 : ([([105, 100, 108, 101] : List UInt8), ([114, 117, 110, 115] : List UInt8), ([104, 101, 108, 100] : List UInt8), ([100, 111, 110, 101] : List UInt8)] : List (List UInt8))[x.State.toNat]? = some (gt ([([105, 100, 108, 101] : List UInt8), ([114, 117, 110, 115] : List UInt8), ([104, 101, 108, 100] : List UInt8), ([100, 111, 110, 101] : List UInt8)] : List (List UInt8)) x.State.toNat)) (hq26 : (gt ([([105, 100, 108, 101] : List UInt8), ([114, 117, 110, 115] : List UInt8), ([104, 101, 108, 100] : List UInt8), ([100, 111, 110, 101] : List UInt8)] : List (List UInt8)) x.State.toNat).length ≤ 40) (k : Nat) (hi33 : k ≤ nx_Tiles) (hq34 : (jT x k).length ≤ 40 + 22 * k) (h35 : ¬ ((k : Int) < (nx_Tiles : Int))) : JobOK x := by
  first | assumption | (simp_all; done)
theorem c_impl_JobText (w : World) (x : ScanJob) {Ax_Tiles : Option Addr} {nx_Tiles cx_Tiles Bx_Tiles : Nat} (hx_Tiles : SlR w Bx_Tiles encI 1 Ax_Tiles nx_Tiles cx_Tiles x.Tiles) (hE : EnvW w) : Calls Tryd.prog 37 #[.agg (List.toArray [.int .i64 x.State, .slice Ax_Tiles nx_Tiles cx_Tiles, .int .i64 x.Next, .int .i64 x.Fails, .int .i64 x.Size])] w fun e w' => e = .returned (.tuple (List.toArray [str (jX x), .bool (decide (JobOK x))])) ∧ Lo w w' := by
  refine calls_W 33 Tryd.func37 rfl rfl rfl ?_
  have hbdx_Tiles := hx_Tiles.bound
  have hlex_Tiles := hx_Tiles.len
  have hBbx_Tiles := hx_Tiles.bd
  refine W.seq ?_
  refine W.regS (SR.box (v := .agg (List.toArray _)) (l := [.int .i64 x.State, .slice Ax_Tiles nx_Tiles cx_Tiles, .int .i64 x.Next, .int .i64 x.Fails, .int .i64 x.Size]) rfl rfl ?_)
  intro g1 w2 hg3 hk4 hs5 hb6
  have hz7 := hk4.size
  have hB8 := (Lo.refl w).lo hk4
  refine SR.q' (r_as (v := str ([] : List UInt8)) rfl) <| SR.q' (r_as (v := .bool false) rfl) <| SR.nil ?_
  refine W.seq ?_
  refine W.seq ?_
  refine W.regS (SR.q' (r_lda (l := [.int .i64 x.State, .slice Ax_Tiles nx_Tiles cx_Tiles, .int .i64 x.Next, .int .i64 x.Fails, .int .i64 x.Size]) agg57 rfl (fun _ _ hu => (hb6).cell hu) rfl) <| SR.call ent39 (c_impl_IsScanJob w2 x (((hx_Tiles).lo hk4))) rfl ?_)
  rintro e w9 ⟨rfl, hk10⟩
  refine ⟨_, rfl, ?_⟩
  have hz11 := hk10.size
  have hB12 := hB8.lo hk10
  refine SR.q' (r_not rfl) <| SR.nil ?_
  refine W.cond_n rfl (fun h13 => ?_) (fun h13 => ?_)
  · refine W.seq ?_
    refine W.regS (SR.q' (r_as (v := str ([] : List UInt8)) rfl) <| SR.q' (r_as (v := .bool false) rfl) <| SR.nil ?_)
    refine W.ret ?_
    refine ret2 rfl (v := str _) (v' := .bool _) rfl rfl ?_
    exact ⟨eR (eT2 (eS (z_c_impl_JobText_14 x nx_Tiles hbdx_Tiles hlex_Tiles h13)) (eDF (z_c_impl_JobText_15 x nx_Tiles hbdx_Tiles hlex_Tiles h13))), hB12⟩
  · have hq16 := job_rng h13
    refine W.skip ?_
    refine W.seq ?_
    refine W.regS (SR.lit (vs := [str ([105, 100, 108, 101] : List UInt8), str ([114, 117, 110, 115] : List UInt8), str ([104, 101, 108, 100] : List UInt8), str ([100, 111, 110, 101] : List UInt8)]) (L := ([([105, 100, 108, 101] : List UInt8), ([114, 117, 110, 115] : List UInt8), ([104, 101, 108, 100] : List UInt8), ([100, 111, 110, 101] : List UInt8)] : List (List UInt8))) (enc := encS) tel92 (fun _ => rfl) rfl rfl rfl (by decide) ?_)
    intro g17 w18 hg19 hk20 hO21
    have hz22 := hk20.size
    have hB23 := hB12.lo hk20
    refine SR.q' (r_fa fa57_0 rfl) <| SR.q' (r_ld (v := .int .i64 x.State) sca3 rfl ((((hb6).lo hk10).lo hk20).cell rfl)) <| ?_
    have hx25 := ((hO21).rd).elem (i := x.State.toNat) (by omega)
    have hq26 := mem_le (n := 40) (by decide) (List.mem_of_getElem? hx25)
    refine SR.q' (r_ixR tsl92 ((hO21).rd) rfl rfl (by omega)) <| SR.q' (r_ld (v := str (gt ([([105, 100, 108, 101] : List UInt8), ([114, 117, 110, 115] : List UInt8), ([104, 101, 108, 100] : List UInt8), ([100, 111, 110, 101] : List UInt8)] : List (List UInt8)) x.State.toNat)) sca9 rfl (((hO21).rd).cell0 hx25 rfl)) <| SR.q' (r_as (v := str _) rfl) <| SR.nil ?_
    refine W.seq ?_
    refine W.seq ?_
    refine W.regS (SR.q' (r_fa fa57_1 rfl) <| SR.q' (r_ld (v := .slice Ax_Tiles nx_Tiles cx_Tiles) sca38 rfl ((((hb6).lo hk10).lo hk20).cell rfl)) <| SR.q' (r_len und38 rfl) <| SR.q' (r_mv (v := .int .i64 0) rfl) <| SR.nil ?_)
    refine W.block ?_
    refine W.loop (σ := Nat) (fun g => [(2, str ([] : List UInt8)), (3, .bool false), (4, str (jT x g)), (16, .slice Ax_Tiles nx_Tiles cx_Tiles), (17, .int .i64 (nx_Tiles : Int)), (18, .int .i64 (g : Int))]) (fun g w' => (Lo w w') ∧ (SlR w' Bx_Tiles encI 1 Ax_Tiles nx_Tiles cx_Tiles x.Tiles) ∧ (g ≤ nx_Tiles)) (fun g => nx_Tiles - g) 0 ?_ ?_ ?_
    · exact ⟨rfl, rfl, (eS (by first | (first | omega | rfl | exact j_zero ‹_[_]? = some _› | exact j_none ‹_[_]? = some _› ‹_› | exact j_next ‹_[_]? = some _› ‹_›) | (dsimp only; (first | omega | rfl | exact j_zero ‹_[_]? = some _› | exact j_none ‹_[_]? = some _› ‹_› | exact j_next ‹_[_]? = some _› ‹_›)))), rfl, rfl, (eI (by first | (first | omega | rfl | exact j_zero ‹_[_]? = some _› | exact j_none ‹_[_]? = some _› ‹_› | exact j_next ‹_[_]? = some _› ‹_›) | (dsimp only; (first | omega | rfl | exact j_zero ‹_[_]? = some _› | exact j_none ‹_[_]? = some _› ‹_› | exact j_next ‹_[_]? = some _› ‹_›)))), trivial⟩
    · exact ⟨hB23, (((hx_Tiles).lo hk4).lo hk10).lo hk20, (z_c_impl_JobText_27 x nx_Tiles hbdx_Tiles hlex_Tiles h13 hq16 hx25 hq26)⟩
    · rintro k f28 w29 hP31
      obtain ⟨hB30, hm32, hi33⟩ : (Lo w w29) ∧ (SlR w29 Bx_Tiles encI 1 Ax_Tiles nx_Tiles cx_Tiles x.Tiles) ∧ (k ≤ nx_Tiles) := hP31
      refine (?_ : W _ _ _ _ _ (act _ (sets f28 [(2, str ([] : List UInt8)), (3, .bool false), (4, str (jT x k)), (16, .slice Ax_Tiles nx_Tiles cx_Tiles), (17, .int .i64 (nx_Tiles : Int)), (18, .int .i64 (k : Int))])) _)
      have hzw29 := hB30.size
      have hq34 : (jT x k).length ≤ 40 + 22 * k := j_len ‹JobOK x› k
      refine W.seq ?_
      refine W.regS (SR.q' (r_lt rfl rfl) <| SR.nil ?_)
      refine W.seq ?_
      refine W.cond_d rfl (fun h35 => ?_) (fun h35 => ?_)
      · refine W.skip ?_
        refine W.seq ?_
        refine W.block ?_
        refine W.seq ?_
        have hx37 := (hm32).elem (i := k) (by omega)
        have hq38 := tile_at ‹JobOK x› hx37
        refine W.regS (SR.q' (r_ixR tsl38 (hm32) rfl rfl (by omega)) <| SR.q' (r_ld (v := .int .i64 (gt x.Tiles k)) sca3 rfl ((hm32).cell0 hx37 rfl)) <| SR.q' (r_as (v := .int .i64 _) rfl) <| SR.nil ?_)
        refine W.seq ?_
        refine W.regS (SR.q' (r_mv (v := .int .i64 _) rfl) <| SR.q' (r_eq rfl rfl) <| SR.nil ?_)
        refine W.cond_d rfl (fun h39 => ?_) (fun h39 => ?_)
        · refine W.regS (SR.q' (r_mv (v := str _) rfl) <| SR.q' (r_cat rfl rfl (by first | omega | (simp only [List.length_append, List.length_cons, List.length_nil, List.length_take, List.length_drop]; omega) | (simp only [List.length_append, List.length_cons, List.length_nil, List.length_take, List.length_drop] at *; omega))) <| SR.q' (r_as (v := str _) rfl) <| SR.nil ?_)
          refine W.regS (SR.q' (r_add rfl rfl (by omega)) <| SR.q' (r_mv (v := .int .i64 _) rfl) <| SR.nil ?_)
          refine ⟨k + 1, _, rfl, ⟨rfl, rfl, (eS (by first | (first | omega | rfl | exact j_zero ‹_[_]? = some _› | exact j_none ‹_[_]? = some _› ‹_› | exact j_next ‹_[_]? = some _› ‹_›) | (dsimp only; (first | omega | rfl | exact j_zero ‹_[_]? = some _› | exact j_none ‹_[_]? = some _› ‹_› | exact j_next ‹_[_]? = some _› ‹_›)))), rfl, rfl, (eI (by first | (first | omega | rfl | exact j_zero ‹_[_]? = some _› | exact j_none ‹_[_]? = some _› ‹_› | exact j_next ‹_[_]? = some _› ‹_›) | (dsimp only; (first | omega | rfl | exact j_zero ‹_[_]? = some _› | exact j_none ‹_[_]? = some _› ‹_› | exact j_next ‹_[_]? = some _› ‹_›)))), trivial⟩, ⟨hB30, hm32, ?_⟩, ?_⟩
          · exact (z_c_impl_JobText_40 x nx_Tiles hbdx_Tiles hlex_Tiles h13 hq16 hx25 hq26 k hi33 hq34 h35 hx37 hq38 h39)
          · exact (z_c_impl_JobText_41 x nx_Tiles hbdx_Tiles hlex_Tiles h13 hq16 hx25 hq26 k hi33 hq34 h35 hx37 hq38 h39)
        · refine W.regS (SR.q' (r_mv (v := str _) rfl) <| SR.q' (r_mv (v := .int .i64 _) rfl) <| SR.call ent49 (c_impl_text w29 (gt x.Tiles k) (by omega) (hE.lo (hB30))) rfl ?_)
          rintro e w42 ⟨rfl, hk43⟩
          refine ⟨_, rfl, ?_⟩
          have hz44 := hk43.size
          have hB45 := hB30.lo hk43
          have hq46 : (Lib.itoa (gt x.Tiles k)).length ≤ 21 := itoa_len (n := (gt x.Tiles k)) (by omega) (by omega)
          refine SR.q' (r_cat rfl rfl (by first | omega | (simp only [List.length_append, List.length_cons, List.length_nil, List.length_take, List.length_drop]; omega) | (simp only [List.length_append, List.length_cons, List.length_nil, List.length_take, List.length_drop] at *; omega))) <| SR.q' (r_cat rfl rfl (by first | omega | (simp only [List.length_append, List.length_cons, List.length_nil, List.length_take, List.length_drop]; omega) | (simp only [List.length_append, List.length_cons, List.length_nil, List.length_take, List.length_drop] at *; omega))) <| SR.q' (r_as (v := str _) rfl) <| SR.nil ?_
          refine W.regS (SR.q' (r_add rfl rfl (by omega)) <| SR.q' (r_mv (v := .int .i64 _) rfl) <| SR.nil ?_)
          refine ⟨k + 1, _, rfl, ⟨rfl, rfl, (eS (by first | (first | omega | rfl | exact j_zero ‹_[_]? = some _› | exact j_none ‹_[_]? = some _› ‹_› | exact j_next ‹_[_]? = some _› ‹_›) | (dsimp only; (first | omega | rfl | exact j_zero ‹_[_]? = some _› | exact j_none ‹_[_]? = some _› ‹_› | exact j_next ‹_[_]? = some _› ‹_›)))), rfl, rfl, (eI (by first | (first | omega | rfl | exact j_zero ‹_[_]? = some _› | exact j_none ‹_[_]? = some _› ‹_› | exact j_next ‹_[_]? = some _› ‹_›) | (dsimp only; (first | omega | rfl | exact j_zero ‹_[_]? = some _› | exact j_none ‹_[_]? = some _› ‹_› | exact j_next ‹_[_]? = some _› ‹_›)))), trivial⟩, ⟨hB45, (hm32).lo hk43, ?_⟩, ?_⟩
          · exact (z_c_impl_JobText_47 x nx_Tiles hbdx_Tiles hlex_Tiles h13 hq16 hx25 hq26 k hi33 hq34 h35 hx37 hq38 h39 hq46)
          · exact (z_c_impl_JobText_48 x nx_Tiles hbdx_Tiles hlex_Tiles h13 hq16 hx25 hq26 k hi33 hq34 h35 hx37 hq38 h39 hq46)
      · refine W.exit (xin_here ?_)
        refine W.seq ?_
        refine W.regS (SR.q' (r_mv (v := str _) rfl) <| SR.q' (r_as (v := str _) rfl) <| SR.q' (r_as (v := .bool true) rfl) <| SR.nil ?_)
        refine W.ret ?_
        refine ret2 rfl (v := str _) (v' := .bool _) rfl rfl ?_
        exact ⟨eR (eT2 (eS (z_c_impl_JobText_49 x nx_Tiles hbdx_Tiles hlex_Tiles h13 hq16 hx25 hq26 k hi33 hq34 h35)) (eDT (z_c_impl_JobText_50 x nx_Tiles hbdx_Tiles hlex_Tiles h13 hq16 hx25 hq26 k hi33 hq34 h35))), hB30⟩

theorem z_c_spec_JobText_14 (x : ScanJob) (nx_Tiles : Nat) (hbdx_Tiles : (nx_Tiles : Int) ≤ 9223372036854775807) (hlex_Tiles : nx_Tiles = x.Tiles.length) (h13 : ¬ (JobOK x)) : ([] : List UInt8) = jX x := by
  first | exact jX_no ‹_› | exact jX_yes ‹JobOK x› (by omega)
theorem z_c_spec_JobText_15 (x : ScanJob) (nx_Tiles : Nat) (hbdx_Tiles : (nx_Tiles : Int) ≤ 9223372036854775807) (hlex_Tiles : nx_Tiles = x.Tiles.length) (h13 : ¬ (JobOK x)) : ¬ (JobOK x) := by
  first | assumption | (simp_all; done)
theorem z_c_spec_JobText_27 (x : ScanJob) (nx_Tiles : Nat) (hbdx_Tiles : (nx_Tiles : Int) ≤ 9223372036854775807) (hlex_Tiles : nx_Tiles = x.Tiles.length) (h13 : JobOK x) (hq16 : x.Tiles.length ≤ 8 ∧ takenN x.Tiles ≤ x.Tiles.length ∧ (0 ≤ sumI x.Tiles ∧ sumI x.Tiles ≤ 800) ∧ (1 ≤ (x.Tiles.length : Int) ∧ x.Next = (takenN x.Tiles : Int) ∧ x.Size = 10 * sumI x.Tiles ∧ (0 ≤ x.State ∧ x.State ≤ 3) ∧ (0 ≤ x.Fails ∧ x.Fails ≤ 3) ∧ (x.Fails = 3 → x.State = 2) ∧ (x.State = 0 → takenN x.Tiles = 0 ∧ x.Fails = 0) ∧ (x.State = 3 → takenN x.Tiles = x.Tiles.length))) (hx25 : ([([105, 100, 108, 101] : List UInt8), ([114, 117, 110, 115] : List UInt8), ([104, 101, 108, 100] : List UInt8), ([100, 111, 110, 101] : List UInt8)] : List (List UInt8))[x.State.toNat]? = some (gt ([([105, 100, 108, 101] : List UInt8), ([114, 117, 110, 115] : List UInt8), ([104, 101, 108, 100] : List UInt8), ([100, 111, 110, 101] : List UInt8)] : List (List UInt8)) x.State.toNat)) (hq26 : (gt ([([105, 100, 108, 101] : List UInt8), ([114, 117, 110, 115] : List UInt8), ([104, 101, 108, 100] : List UInt8), ([100, 111, 110, 101] : List UInt8)] : List (List UInt8)) x.State.toNat).length ≤ 40) : 0 ≤ nx_Tiles := by
  omega
theorem z_c_spec_JobText_42 (x : ScanJob) (nx_Tiles : Nat) (hbdx_Tiles : (nx_Tiles : Int) ≤ 9223372036854775807) (hlex_Tiles : nx_Tiles = x.Tiles.length) (h13 : JobOK x) (hq16 : x.Tiles.length ≤ 8 ∧ takenN x.Tiles ≤ x.Tiles.length ∧ (0 ≤ sumI x.Tiles ∧ sumI x.Tiles ≤ 800) ∧ (1 ≤ (x.Tiles.length : Int) ∧ x.Next = (takenN x.Tiles : Int) ∧ x.Size = 10 * sumI x.Tiles ∧ (0 ≤ x.State ∧ x.State ≤ 3) ∧ (0 ≤ x.Fails ∧ x.Fails ≤ 3) ∧ (x.Fails = 3 → x.State = 2) ∧ (x.State = 0 → takenN x.Tiles = 0 ∧ x.Fails = 0) ∧ (x.State = 3 → takenN x.Tiles = x.Tiles.length))) (hx25 : ([([105, 100, 108, 101] : List UInt8), ([114, 117, 110, 115] : List UInt8), ([104, 101, 108, 100] : List UInt8), ([100, 111, 110, 101] : List UInt8)] : List (List UInt8))[x.State.toNat]? = some (gt ([([105, 100, 108, 101] : List UInt8), ([114, 117, 110, 115] : List UInt8), ([104, 101, 108, 100] : List UInt8), ([100, 111, 110, 101] : List UInt8)] : List (List UInt8)) x.State.toNat)) (hq26 : (gt ([([105, 100, 108, 101] : List UInt8), ([114, 117, 110, 115] : List UInt8), ([104, 101, 108, 100] : List UInt8), ([100, 111, 110, 101] : List UInt8)] : List (List UInt8)) x.State.toNat).length ≤ 40) (k : Nat) (hi34 : k ≤ nx_Tiles) (hq36 : (jT x k).length ≤ 40 + 22 * k) (h37 : (k : Int) < (nx_Tiles : Int)) (hx39 : x.Tiles[k]? = some (gt x.Tiles k)) (hq40 : 0 ≤ (gt x.Tiles k) ∧ (gt x.Tiles k) ≤ 100) (h41 : (gt x.Tiles k) = 0) : k + 1 ≤ nx_Tiles := by
  omega
theorem z_c_spec_JobText_43 (x : ScanJob) (nx_Tiles : Nat) (hbdx_Tiles : (nx_Tiles : Int) ≤ 9223372036854775807) (hlex_Tiles : nx_Tiles = x.Tiles.length) (h13 : JobOK x) (hq16 : x.Tiles.length ≤ 8 ∧ takenN x.Tiles ≤ x.Tiles.length ∧ (0 ≤ sumI x.Tiles ∧ sumI x.Tiles ≤ 800) ∧ (1 ≤ (x.Tiles.length : Int) ∧ x.Next = (takenN x.Tiles : Int) ∧ x.Size = 10 * sumI x.Tiles ∧ (0 ≤ x.State ∧ x.State ≤ 3) ∧ (0 ≤ x.Fails ∧ x.Fails ≤ 3) ∧ (x.Fails = 3 → x.State = 2) ∧ (x.State = 0 → takenN x.Tiles = 0 ∧ x.Fails = 0) ∧ (x.State = 3 → takenN x.Tiles = x.Tiles.length))) (hx25 : ([([105, 100, 108, 101] : List UInt8), ([114, 117, 110, 115] : List UInt8), ([104, 101, 108, 100] : List UInt8), ([100, 111, 110, 101] : List UInt8)] : List (List UInt8))[x.State.toNat]? = some (gt ([([105, 100, 108, 101] : List UInt8), ([114, 117, 110, 115] : List UInt8), ([104, 101, 108, 100] : List UInt8), ([100, 111, 110, 101] : List UInt8)] : List (List UInt8)) x.State.toNat)) (hq26 : (gt ([([105, 100, 108, 101] : List UInt8), ([114, 117, 110, 115] : List UInt8), ([104, 101, 108, 100] : List UInt8), ([100, 111, 110, 101] : List UInt8)] : List (List UInt8)) x.State.toNat).length ≤ 40) (k : Nat) (hi34 : k ≤ nx_Tiles) (hq36 : (jT x k).length ≤ 40 + 22 * k) (h37 : (k : Int) < (nx_Tiles : Int)) (hx39 : x.Tiles[k]? = some (gt x.Tiles k)) (hq40 : 0 ≤ (gt x.Tiles k) ∧ (gt x.Tiles k) ≤ 100) (h41 : (gt x.Tiles k) = 0) : nx_Tiles - (k + 1) < nx_Tiles - k := by
  omega
theorem z_c_spec_JobText_49 (x : ScanJob) (nx_Tiles : Nat) (hbdx_Tiles : (nx_Tiles : Int) ≤ 9223372036854775807) (hlex_Tiles : nx_Tiles = x.Tiles.length) (h13 : JobOK x) (hq16 : x.Tiles.length ≤ 8 ∧ takenN x.Tiles ≤ x.Tiles.length ∧ (0 ≤ sumI x.Tiles ∧ sumI x.Tiles ≤ 800) ∧ (1 ≤ (x.Tiles.length : Int) ∧ x.Next = (takenN x.Tiles : Int) ∧ x.Size = 10 * sumI x.Tiles ∧ (0 ≤ x.State ∧ x.State ≤ 3) ∧ (0 ≤ x.Fails ∧ x.Fails ≤ 3) ∧ (x.Fails = 3 → x.State = 2) ∧ (x.State = 0 → takenN x.Tiles = 0 ∧ x.Fails = 0) ∧ (x.State = 3 → takenN x.Tiles = x.Tiles.length))) (hx25 : ([([105, 100, 108, 101] : List UInt8), ([114, 117, 110, 115] : List UInt8), ([104, 101, 108, 100] : List UInt8), ([100, 111, 110, 101] : List UInt8)] : List (List UInt8))[x.State.toNat]? = some (gt ([([105, 100, 108, 101] : List UInt8), ([114, 117, 110, 115] : List UInt8), ([104, 101, 108, 100] : List UInt8), ([100, 111, 110, 101] : List UInt8)] : List (List UInt8)) x.State.toNat)) (hq26 : (gt ([([105, 100, 108, 101] : List UInt8), ([114, 117, 110, 115] : List UInt8), ([104, 101, 108, 100] : List UInt8), ([100, 111, 110, 101] : List UInt8)] : List (List UInt8)) x.State.toNat).length ≤ 40) (k : Nat) (hi34 : k ≤ nx_Tiles) (hq36 : (jT x k).length ≤ 40 + 22 * k) (h37 : (k : Int) < (nx_Tiles : Int)) (hx39 : x.Tiles[k]? = some (gt x.Tiles k)) (hq40 : 0 ≤ (gt x.Tiles k) ∧ (gt x.Tiles k) ≤ 100) (h41 : ¬ ((gt x.Tiles k) = 0)) (hq48 : (Lib.itoa (gt x.Tiles k)).length ≤ 21) : k + 1 ≤ nx_Tiles := by
  omega
theorem z_c_spec_JobText_50 (x : ScanJob) (nx_Tiles : Nat) (hbdx_Tiles : (nx_Tiles : Int) ≤ 9223372036854775807) (hlex_Tiles : nx_Tiles = x.Tiles.length) (h13 : JobOK x) (hq16 : x.Tiles.length ≤ 8 ∧ takenN x.Tiles ≤ x.Tiles.length ∧ (0 ≤ sumI x.Tiles ∧ sumI x.Tiles ≤ 800) ∧ (1 ≤ (x.Tiles.length : Int) ∧ x.Next = (takenN x.Tiles : Int) ∧ x.Size = 10 * sumI x.Tiles ∧ (0 ≤ x.State ∧ x.State ≤ 3) ∧ (0 ≤ x.Fails ∧ x.Fails ≤ 3) ∧ (x.Fails = 3 → x.State = 2) ∧ (x.State = 0 → takenN x.Tiles = 0 ∧ x.Fails = 0) ∧ (x.State = 3 → takenN x.Tiles = x.Tiles.length))) (hx25 : ([([105, 100, 108, 101] : List UInt8), ([114, 117, 110, 115] : List UInt8), ([104, 101, 108, 100] : List UInt8), ([100, 111, 110, 101] : List UInt8)] : List (List UInt8))[x.State.toNat]? = some (gt ([([105, 100, 108, 101] : List UInt8), ([114, 117, 110, 115] : List UInt8), ([104, 101, 108, 100] : List UInt8), ([100, 111, 110, 101] : List UInt8)] : List (List UInt8)) x.State.toNat)) (hq26 : (gt ([([105, 100, 108, 101] : List UInt8), ([114, 117, 110, 115] : List UInt8), ([104, 101, 108, 100] : List UInt8), ([100, 111, 110, 101] : List UInt8)] : List (List UInt8)) x.State.toNat).length ≤ 40) (k : Nat) (hi34 : k ≤ nx_Tiles) (hq36 : (jT x k).length ≤ 40 + 22 * k) (h37 : (k : Int) < (nx_Tiles : Int)) (hx39 : x.Tiles[k]? = some (gt x.Tiles k)) (hq40 : 0 ≤ (gt x.Tiles k) ∧ (gt x.Tiles k) ≤ 100) (h41 : ¬ ((gt x.Tiles k) = 0)) (hq48 : (Lib.itoa (gt x.Tiles k)).length ≤ 21) : nx_Tiles - (k + 1) < nx_Tiles - k := by
  omega
theorem z_c_spec_JobText_51 (x : ScanJob) (nx_Tiles : Nat) (hbdx_Tiles : (nx_Tiles : Int) ≤ 9223372036854775807) (hlex_Tiles : nx_Tiles = x.Tiles.length) (h13 : JobOK x) (hq16 : x.Tiles.length ≤ 8 ∧ takenN x.Tiles ≤ x.Tiles.length ∧ (0 ≤ sumI x.Tiles ∧ sumI x.Tiles ≤ 800) ∧ (1 ≤ (x.Tiles.length : Int) ∧ x.Next = (takenN x.Tiles : Int) ∧ x.Size = 10 * sumI x.Tiles ∧ (0 ≤ x.State ∧ x.State ≤ 3) ∧ (0 ≤ x.Fails ∧ x.Fails ≤ 3) ∧ (x.Fails = 3 → x.State = 2) ∧ (x.State = 0 → takenN x.Tiles = 0 ∧ x.Fails = 0) ∧ (x.State = 3 → takenN x.Tiles = x.Tiles.length))) (hx25 : ([([105, 100, 108, 101] : List UInt8), ([114, 117, 110, 115] : List UInt8), ([104, 101, 108, 100] : List UInt8), ([100, 111, 110, 101] : List UInt8)] : List (List UInt8))[x.State.toNat]? = some (gt ([([105, 100, 108, 101] : List UInt8), ([114, 117, 110, 115] : List UInt8), ([104, 101, 108, 100] : List UInt8), ([100, 111, 110, 101] : List UInt8)] : List (List UInt8)) x.State.toNat)) (hq26 : (gt ([([105, 100, 108, 101] : List UInt8), ([114, 117, 110, 115] : List UInt8), ([104, 101, 108, 100] : List UInt8), ([100, 111, 110, 101] : List UInt8)] : List (List UInt8)) x.State.toNat).length ≤ 40) (k : Nat) (hi34 : k ≤ nx_Tiles) (hq36 : (jT x k).length ≤ 40 + 22 * k) (h37 : ¬ ((k : Int) < (nx_Tiles : Int))) : jT x k = jX x := by
  first | exact jX_no ‹_› | exact jX_yes ‹JobOK x› (by omega)
theorem z_c_spec_JobText_52 (x : ScanJob) (nx_Tiles : Nat) (hbdx_Tiles : (nx_Tiles : Int) ≤ 9223372036854775807) (hlex_Tiles : nx_Tiles = x.Tiles.length) (h13 : JobOK x) (hq16 : x.Tiles.length ≤ 8 ∧ takenN x.Tiles ≤ x.Tiles.length ∧ (0 ≤ sumI x.Tiles ∧ sumI x.Tiles ≤ 800) ∧ (1 ≤ (x.Tiles.length : Int) ∧ x.Next = (takenN x.Tiles : Int) ∧ x.Size = 10 * sumI x.Tiles ∧ (0 ≤ x.State ∧ x.State ≤ 3) ∧ (0 ≤ x.Fails ∧ x.Fails ≤ 3) ∧ (x.Fails = 3 → x.State = 2) ∧ (x.State = 0 → takenN x.Tiles = 0 ∧ x.Fails = 0) ∧ (x.State = 3 → takenN x.Tiles = x.Tiles.length))) (hx25 : ([([105, 100, 108, 101] : List UInt8), ([114, 117, 110, 115] : List UInt8), ([104, 101, 108, 100] : List UInt8), ([100, 111, 110, 101] : List UInt8)] : List (List UInt8))[x.State.toNat]? = some (gt ([([105, 100, 108, 101] : List UInt8), ([114, 117, 110, 115] : List UInt8), ([104, 101, 108, 100] : List UInt8), ([100, 111, 110, 101] : List UInt8)] : List (List UInt8)) x.State.toNat)) (hq26 : (gt ([([105, 100, 108, 101] : List UInt8), ([114, 117, 110, 115] : List UInt8), ([104, 101, 108, 100] : List UInt8), ([100, 111, 110, 101] : List UInt8)] : List (List UInt8)) x.State.toNat).length ≤ 40) (k : Nat) (hi34 : k ≤ nx_Tiles) (hq36 : (jT x k).length ≤ 40 + 22 * k) (h37 : ¬ ((k : Int) < (nx_Tiles : Int))) : JobOK x := by
  first | assumption | (simp_all; done)
theorem c_spec_JobText (w : World) (x : ScanJob) {Ax_Tiles : Option Addr} {nx_Tiles cx_Tiles Bx_Tiles : Nat} (hx_Tiles : SlR w Bx_Tiles encI 1 Ax_Tiles nx_Tiles cx_Tiles x.Tiles) : Calls Tryd.prog 38 #[.agg (List.toArray [.int .i64 x.State, .slice Ax_Tiles nx_Tiles cx_Tiles, .int .i64 x.Next, .int .i64 x.Fails, .int .i64 x.Size])] w fun e w' => e = .returned (.tuple (List.toArray [str (jX x), .bool (decide (JobOK x))])) ∧ Lo w w' := by
  refine calls_W 39 Tryd.func38 rfl rfl rfl ?_
  have hbdx_Tiles := hx_Tiles.bound
  have hlex_Tiles := hx_Tiles.len
  have hBbx_Tiles := hx_Tiles.bd
  refine W.seq ?_
  refine W.regS (SR.box (v := .agg (List.toArray _)) (l := [.int .i64 x.State, .slice Ax_Tiles nx_Tiles cx_Tiles, .int .i64 x.Next, .int .i64 x.Fails, .int .i64 x.Size]) rfl rfl ?_)
  intro g1 w2 hg3 hk4 hs5 hb6
  have hz7 := hk4.size
  have hB8 := (Lo.refl w).lo hk4
  refine SR.q' (r_as (v := str ([] : List UInt8)) rfl) <| SR.q' (r_as (v := .bool false) rfl) <| SR.nil ?_
  refine W.seq ?_
  refine W.seq ?_
  refine W.regS (SR.q' (r_lda (l := [.int .i64 x.State, .slice Ax_Tiles nx_Tiles cx_Tiles, .int .i64 x.Next, .int .i64 x.Fails, .int .i64 x.Size]) agg57 rfl (fun _ _ hu => (hb6).cell hu) rfl) <| SR.call ent69 (c_spec_l29Good w2 x (((hx_Tiles).lo hk4))) rfl ?_)
  rintro e w9 ⟨rfl, hk10⟩
  refine ⟨_, rfl, ?_⟩
  have hz11 := hk10.size
  have hB12 := hB8.lo hk10
  refine SR.q' (r_not rfl) <| SR.nil ?_
  refine W.cond_n rfl (fun h13 => ?_) (fun h13 => ?_)
  · refine W.seq ?_
    refine W.regS (SR.q' (r_as (v := str ([] : List UInt8)) rfl) <| SR.q' (r_as (v := .bool false) rfl) <| SR.nil ?_)
    refine W.ret ?_
    refine ret2 rfl (v := str _) (v' := .bool _) rfl rfl ?_
    exact ⟨eR (eT2 (eS (z_c_spec_JobText_14 x nx_Tiles hbdx_Tiles hlex_Tiles h13)) (eDF (z_c_spec_JobText_15 x nx_Tiles hbdx_Tiles hlex_Tiles h13))), hB12⟩
  · have hq16 := job_rng h13
    refine W.skip ?_
    refine W.seq ?_
    refine W.regS (SR.lit (vs := [str ([105, 100, 108, 101] : List UInt8), str ([114, 117, 110, 115] : List UInt8), str ([104, 101, 108, 100] : List UInt8), str ([100, 111, 110, 101] : List UInt8)]) (L := ([([105, 100, 108, 101] : List UInt8), ([114, 117, 110, 115] : List UInt8), ([104, 101, 108, 100] : List UInt8), ([100, 111, 110, 101] : List UInt8)] : List (List UInt8))) (enc := encS) tel92 (fun _ => rfl) rfl rfl rfl (by decide) ?_)
    intro g17 w18 hg19 hk20 hO21
    have hz22 := hk20.size
    have hB23 := hB12.lo hk20
    refine SR.q' (r_fa fa57_0 rfl) <| SR.q' (r_ld (v := .int .i64 x.State) sca3 rfl ((((hb6).lo hk10).lo hk20).cell rfl)) <| ?_
    have hx25 := ((hO21).rd).elem (i := x.State.toNat) (by omega)
    have hq26 := mem_le (n := 40) (by decide) (List.mem_of_getElem? hx25)
    refine SR.q' (r_ixR tsl92 ((hO21).rd) rfl rfl (by omega)) <| SR.q' (r_ld (v := str (gt ([([105, 100, 108, 101] : List UInt8), ([114, 117, 110, 115] : List UInt8), ([104, 101, 108, 100] : List UInt8), ([100, 111, 110, 101] : List UInt8)] : List (List UInt8)) x.State.toNat)) sca9 rfl (((hO21).rd).cell0 hx25 rfl)) <| SR.q' (r_as (v := str _) rfl) <| SR.nil ?_
    refine W.seq ?_
    refine W.seq ?_
    refine W.regS (SR.q' (r_as (v := .int .i64 0) rfl) <| SR.nil ?_)
    refine W.block ?_
    refine W.loop (σ := Nat) (fun g => [(1, .pointer (some ((⟨g1, 0, none⟩ : Addr)))), (2, str ([] : List UInt8)), (3, .bool false), (4, str (jT x g)), (5, .int .i64 (g : Int))]) (fun g w' => (Lo w w') ∧ (Blk w' g1 57 [.int .i64 x.State, .slice Ax_Tiles nx_Tiles cx_Tiles, .int .i64 x.Next, .int .i64 x.Fails, .int .i64 x.Size]) ∧ (SlR w' Bx_Tiles encI 1 Ax_Tiles nx_Tiles cx_Tiles x.Tiles) ∧ (g ≤ nx_Tiles)) (fun g => nx_Tiles - g) 0 ?_ ?_ ?_
    · exact ⟨rfl, rfl, rfl, (eS (by first | (first | omega | rfl | exact j_zero ‹_[_]? = some _› | exact j_none ‹_[_]? = some _› ‹_› | exact j_nextS ‹_[_]? = some _› ‹_›) | (dsimp only; (first | omega | rfl | exact j_zero ‹_[_]? = some _› | exact j_none ‹_[_]? = some _› ‹_› | exact j_nextS ‹_[_]? = some _› ‹_›)))), (eI (by first | (first | omega | rfl | exact j_zero ‹_[_]? = some _› | exact j_none ‹_[_]? = some _› ‹_› | exact j_nextS ‹_[_]? = some _› ‹_›) | (dsimp only; (first | omega | rfl | exact j_zero ‹_[_]? = some _› | exact j_none ‹_[_]? = some _› ‹_› | exact j_nextS ‹_[_]? = some _› ‹_›)))), trivial⟩
    · exact ⟨hB23, ((hb6).lo hk10).lo hk20, (((hx_Tiles).lo hk4).lo hk10).lo hk20, (z_c_spec_JobText_27 x nx_Tiles hbdx_Tiles hlex_Tiles h13 hq16 hx25 hq26)⟩
    · rintro k f28 w29 hP31
      obtain ⟨hB30, hm32, hm33, hi34⟩ : (Lo w w29) ∧ (Blk w29 g1 57 [.int .i64 x.State, .slice Ax_Tiles nx_Tiles cx_Tiles, .int .i64 x.Next, .int .i64 x.Fails, .int .i64 x.Size]) ∧ (SlR w29 Bx_Tiles encI 1 Ax_Tiles nx_Tiles cx_Tiles x.Tiles) ∧ (k ≤ nx_Tiles) := hP31
      refine (?_ : W _ _ _ _ _ (act _ (sets f28 [(1, .pointer (some ((⟨g1, 0, none⟩ : Addr)))), (2, str ([] : List UInt8)), (3, .bool false), (4, str (jT x k)), (5, .int .i64 (k : Int))])) _)
      have hzw29 := hB30.size
      have hl35 := hm32.lt
      have hq36 : (jT x k).length ≤ 40 + 22 * k := j_len ‹JobOK x› k
      refine W.seq ?_
      refine W.seq ?_
      refine W.regS (SR.q' (r_mv (v := .int .i64 _) rfl) <| SR.q' (r_fa fa57_1 rfl) <| SR.q' (r_ld (v := .slice Ax_Tiles nx_Tiles cx_Tiles) sca38 rfl ((hm32).cell rfl)) <| SR.q' (r_len und38 rfl) <| SR.q' (r_lt rfl rfl) <| SR.nil ?_)
      refine W.cond_d rfl (fun h37 => ?_) (fun h37 => ?_)
      · refine W.skip ?_
        refine W.seq ?_
        refine W.block ?_
        refine W.seq ?_
        refine W.regS (SR.q' (r_fa fa57_1 rfl) <| SR.q' (r_ld (v := .slice Ax_Tiles nx_Tiles cx_Tiles) sca38 rfl ((hm32).cell rfl)) <| SR.q' (r_mv (v := .int .i64 _) rfl) <| ?_)
        have hx39 := (hm33).elem (i := k) (by omega)
        have hq40 := tile_at ‹JobOK x› hx39
        refine SR.q' (r_ixR tsl38 (hm33) rfl rfl (by omega)) <| SR.q' (r_ld (v := .int .i64 (gt x.Tiles k)) sca3 rfl ((hm33).cell0 hx39 rfl)) <| SR.q' (r_eq rfl rfl) <| SR.nil ?_
        refine W.cond_d rfl (fun h41 => ?_) (fun h41 => ?_)
        · refine W.regS (SR.q' (r_mv (v := str _) rfl) <| SR.q' (r_cat rfl rfl (by first | omega | (simp only [List.length_append, List.length_cons, List.length_nil, List.length_take, List.length_drop]; omega) | (simp only [List.length_append, List.length_cons, List.length_nil, List.length_take, List.length_drop] at *; omega))) <| SR.q' (r_as (v := str _) rfl) <| SR.nil ?_)
          refine W.regS (SR.q' (r_mv (v := .int .i64 _) rfl) <| SR.q' (r_add rfl rfl (by omega)) <| SR.q' (r_as (v := .int .i64 _) rfl) <| SR.nil ?_)
          refine ⟨k + 1, _, rfl, ⟨rfl, rfl, rfl, (eS (by first | (first | omega | rfl | exact j_zero ‹_[_]? = some _› | exact j_none ‹_[_]? = some _› ‹_› | exact j_nextS ‹_[_]? = some _› ‹_›) | (dsimp only; (first | omega | rfl | exact j_zero ‹_[_]? = some _› | exact j_none ‹_[_]? = some _› ‹_› | exact j_nextS ‹_[_]? = some _› ‹_›)))), (eI (by first | (first | omega | rfl | exact j_zero ‹_[_]? = some _› | exact j_none ‹_[_]? = some _› ‹_› | exact j_nextS ‹_[_]? = some _› ‹_›) | (dsimp only; (first | omega | rfl | exact j_zero ‹_[_]? = some _› | exact j_none ‹_[_]? = some _› ‹_› | exact j_nextS ‹_[_]? = some _› ‹_›)))), trivial⟩, ⟨hB30, hm32, hm33, ?_⟩, ?_⟩
          · exact (z_c_spec_JobText_42 x nx_Tiles hbdx_Tiles hlex_Tiles h13 hq16 hx25 hq26 k hi34 hq36 h37 hx39 hq40 h41)
          · exact (z_c_spec_JobText_43 x nx_Tiles hbdx_Tiles hlex_Tiles h13 hq16 hx25 hq26 k hi34 hq36 h37 hx39 hq40 h41)
        · refine W.regS (SR.q' (r_mv (v := str _) rfl) <| SR.q' (r_cat rfl rfl (by first | omega | (simp only [List.length_append, List.length_cons, List.length_nil, List.length_take, List.length_drop]; omega) | (simp only [List.length_append, List.length_cons, List.length_nil, List.length_take, List.length_drop] at *; omega))) <| SR.q' (r_fa fa57_1 rfl) <| SR.q' (r_ld (v := .slice Ax_Tiles nx_Tiles cx_Tiles) sca38 rfl ((hm32).cell rfl)) <| SR.q' (r_mv (v := .int .i64 _) rfl) <| SR.q' (r_ixR tsl38 (hm33) rfl rfl (by omega)) <| SR.q' (r_ld (v := .int .i64 (gt x.Tiles k)) sca3 rfl ((hm33).cell0 hx39 rfl)) <| SR.call ent63 (c_spec_l1Num w29 (gt x.Tiles k) (by omega)) rfl ?_)
          rintro e w44 ⟨rfl, hk45⟩
          refine ⟨_, rfl, ?_⟩
          have hz46 := hk45.size
          have hB47 := hB30.lo hk45
          have hq48 : (Lib.itoa (gt x.Tiles k)).length ≤ 21 := itoa_len (n := (gt x.Tiles k)) (by omega) (by omega)
          refine SR.q' (r_cat rfl rfl (by first | omega | (simp only [List.length_append, List.length_cons, List.length_nil, List.length_take, List.length_drop]; omega) | (simp only [List.length_append, List.length_cons, List.length_nil, List.length_take, List.length_drop] at *; omega))) <| SR.q' (r_as (v := str _) rfl) <| SR.nil ?_
          refine W.regS (SR.q' (r_mv (v := .int .i64 _) rfl) <| SR.q' (r_add rfl rfl (by omega)) <| SR.q' (r_as (v := .int .i64 _) rfl) <| SR.nil ?_)
          refine ⟨k + 1, _, rfl, ⟨rfl, rfl, rfl, (eS (by first | (first | omega | rfl | exact j_zero ‹_[_]? = some _› | exact j_none ‹_[_]? = some _› ‹_› | exact j_nextS ‹_[_]? = some _› ‹_›) | (dsimp only; (first | omega | rfl | exact j_zero ‹_[_]? = some _› | exact j_none ‹_[_]? = some _› ‹_› | exact j_nextS ‹_[_]? = some _› ‹_›)))), (eI (by first | (first | omega | rfl | exact j_zero ‹_[_]? = some _› | exact j_none ‹_[_]? = some _› ‹_› | exact j_nextS ‹_[_]? = some _› ‹_›) | (dsimp only; (first | omega | rfl | exact j_zero ‹_[_]? = some _› | exact j_none ‹_[_]? = some _› ‹_› | exact j_nextS ‹_[_]? = some _› ‹_›)))), trivial⟩, ⟨hB47, (hm32).lo hk45, (hm33).lo hk45, ?_⟩, ?_⟩
          · exact (z_c_spec_JobText_49 x nx_Tiles hbdx_Tiles hlex_Tiles h13 hq16 hx25 hq26 k hi34 hq36 h37 hx39 hq40 h41 hq48)
          · exact (z_c_spec_JobText_50 x nx_Tiles hbdx_Tiles hlex_Tiles h13 hq16 hx25 hq26 k hi34 hq36 h37 hx39 hq40 h41 hq48)
      · refine W.exit (xin_here ?_)
        refine W.seq ?_
        refine W.regS (SR.q' (r_mv (v := str _) rfl) <| SR.q' (r_as (v := str _) rfl) <| SR.q' (r_as (v := .bool true) rfl) <| SR.nil ?_)
        refine W.ret ?_
        refine ret2 rfl (v := str _) (v' := .bool _) rfl rfl ?_
        exact ⟨eR (eT2 (eS (z_c_spec_JobText_51 x nx_Tiles hbdx_Tiles hlex_Tiles h13 hq16 hx25 hq26 k hi34 hq36 h37)) (eDT (z_c_spec_JobText_52 x nx_Tiles hbdx_Tiles hlex_Tiles h13 hq16 hx25 hq26 k hi34 hq36 h37))), hB30⟩

theorem z_c_spec_DrawIsScanJob_39 (L : List UInt8) (nL : Nat) (hbdL : (nL : Int) ≤ 9223372036854775807) (hleL : nL = L.length) (hp0 : (nL : Int) ≤ 65536) (v23 : ScanJob) (t24 : Int) (s25 : Int) (ht27 : 0 ≤ t24 ∧ t24 ≤ 0 + 170) (hq28 : v23.Tiles.length ≤ 9) (n20 : Nat) (hl31 : n20 = (v23.Tiles).length) (hl32 : (n20 : Int) ≤ 9223372036854775807) : v23.Tiles.length ≤ 9 := by
  first | omega | (simp only [List.length_append, List.length_cons, List.length_nil]; omega)
theorem c_spec_DrawIsScanJob (w : World) {AL : Option Addr} {nL cL BL : Nat}  (L : List UInt8) (hL : SlR w BL encB 1 AL nL cL L) (hp0 : (nL : Int) ≤ 65536) : Calls Tryd.prog 68 #[.slice AL nL cL] w fun e w' => ∃ (A1' : Option Addr) (n1' c1' : Nat) (x : ScanJob), e = .returned (.agg (List.toArray [.int .i64 x.State, .slice A1' n1' c1', .int .i64 x.Next, .int .i64 x.Fails, .int .i64 x.Size])) ∧ SlO w' w.heap.size encI 1 3 A1' n1' c1' x.Tiles ∧ (x.Tiles.length ≤ 9) ∧ Lo w w' := by
  refine calls_W 9 Tryd.func68 rfl rfl rfl ?_
  have hbdL := hL.bound
  have hleL := hL.len
  have hBbL := hL.bd
  refine W.seq ?_
  refine W.regS (SR.alloc (l := [.int .i64 0, .slice none 0 0, .int .i64 0, .int .i64 0, .int .i64 0]) tz57 rfl ?_)
  intro g1 w2 hg3 hk4 hs5 hb6
  have hz7 := hk4.size
  have hB8 := (Lo.refl w).lo hk4
  refine SR.nil ?_
  refine W.seq ?_
  refine W.regS (SR.q' (r_mv (v := .slice _ _ _) rfl) <| SR.q' (r_build (vs := [(0, .slice AL nL cL)]) rfl (bld85_0 _ _ _)) <| SR.box (v := .agg (List.toArray _)) (l := [.slice AL nL cL, .int .i64 0, .int .u64 0]) rfl rfl ?_)
  intro g9 w10 hg11 hk12 hs13 hb14
  have hz15 := hk12.size
  have hB16 := hB8.lo hk12
  refine SR.q' (r_as (v := .pointer (some _)) rfl) <| SR.nil ?_
  refine W.seq ?_
  refine W.regS (SR.q' (r_mv (v := .pointer (some _)) rfl) <| SR.call ent105 (c___spec_l1Cur__scanJob w10 L 0 0 (hb14) ((((hL).lo hk4).lo hk12)) (by omega) (by omega)) rfl ?_)
  rintro e w17 ⟨A19, n20, c21, v23, t24, s25, rfl, hO22, hb26, ht27, hq28, hk18⟩
  refine ⟨_, rfl, ?_⟩
  have hz29 := hk18.size
  have hB30 := hB16.new hk18 (by omega)
  have hl31 := hO22.len
  have hl32 := hO22.rd.bound
  refine SR.store (o := 0) (vs := [.int .i64 v23.State, .slice A19 n20 c21, .int .i64 v23.Next, .int .i64 v23.Fails, .int .i64 v23.Size]) agg57.2 rfl rfl rfl rfl (((hb6).lo hk12).kp hk18 (fun e' => by have e'' : g1 = g9 := e'; omega)) (Nat.le_of_ble_eq_true rfl) rfl ?_
  intro w33 hk34 hs35 hb36
  have hz37 := hk34.size
  have hB38 := hB30.new hk34 (by omega)
  refine SR.nil ?_
  refine W.ret ?_
  refine retC rfl rfl agg57 (hb36) rfl ?_
  exact ⟨A19, n20, c21, v23, eR rfl, (((hO22).kp hk34 (fun b_ hb e' => by have e'' : b_ = g1 := e'; have := (hO22).base_le hb; omega)).down (by omega)), (z_c_spec_DrawIsScanJob_39 L nL hbdL hleL hp0 v23 t24 s25 ht27 hq28 n20 hl31 hl32), hB38⟩

theorem z_c_spec_DrawStepsToDone_27 (L : List UInt8) (nL : Nat) (hbdL : (nL : Int) ≤ 9223372036854775807) (hleL : nL = L.length) (hp0 : (nL : Int) ≤ 65536) (v15 : ScanJob) (hq16 : v15.Tiles.length ≤ 9) (n12 : Nat) (hl19 : n12 = (v15.Tiles).length) (hl20 : (n12 : Int) ≤ 9223372036854775807) : v15.Tiles.length ≤ 9 := by
  first | omega | (simp only [List.length_append, List.length_cons, List.length_nil]; omega)
theorem c_spec_DrawStepsToDone (w : World) {AL : Option Addr} {nL cL BL : Nat}  (L : List UInt8) (hL : SlR w BL encB 1 AL nL cL L) (hp0 : (nL : Int) ≤ 65536) : Calls Tryd.prog 27 #[.slice AL nL cL] w fun e w' => ∃ (A1' : Option Addr) (n1' c1' : Nat) (x : ScanJob), e = .returned (.agg (List.toArray [.int .i64 x.State, .slice A1' n1' c1', .int .i64 x.Next, .int .i64 x.Fails, .int .i64 x.Size])) ∧ SlO w' w.heap.size encI 1 3 A1' n1' c1' x.Tiles ∧ (x.Tiles.length ≤ 9) ∧ Lo w w' := by
  refine calls_W 5 Tryd.func27 rfl rfl rfl ?_
  have hbdL := hL.bound
  have hleL := hL.len
  have hBbL := hL.bd
  refine W.seq ?_
  refine W.regS (SR.alloc (l := [.int .i64 0, .slice none 0 0, .int .i64 0, .int .i64 0, .int .i64 0]) tz57 rfl ?_)
  intro g1 w2 hg3 hk4 hs5 hb6
  have hz7 := hk4.size
  have hB8 := (Lo.refl w).lo hk4
  refine SR.nil ?_
  refine W.seq ?_
  refine W.regS (SR.q' (r_mv (v := .slice _ _ _) rfl) <| SR.call ent68 (c_spec_DrawIsScanJob w2 L (((hL).lo hk4)) (by omega)) rfl ?_)
  rintro e w9 ⟨A11, n12, c13, v15, rfl, hO14, hq16, hk10⟩
  refine ⟨_, rfl, ?_⟩
  have hz17 := hk10.size
  have hB18 := hB8.lo hk10
  have hl19 := hO14.len
  have hl20 := hO14.rd.bound
  refine SR.store (o := 0) (vs := [.int .i64 v15.State, .slice A11 n12 c13, .int .i64 v15.Next, .int .i64 v15.Fails, .int .i64 v15.Size]) agg57.2 rfl rfl rfl rfl ((hb6).lo hk10) (Nat.le_of_ble_eq_true rfl) rfl ?_
  intro w21 hk22 hs23 hb24
  have hz25 := hk22.size
  have hB26 := hB18.new hk22 (by omega)
  refine SR.nil ?_
  refine W.ret ?_
  refine retC rfl rfl agg57 (hb24) rfl ?_
  exact ⟨A11, n12, c13, v15, eR rfl, (((hO14).kp hk22 (fun b_ hb e' => by have e'' : b_ = g1 := e'; have := (hO14).base_le hb; omega)).down (by omega)), (z_c_spec_DrawStepsToDone_27 L nL hbdL hleL hp0 v15 hq16 n12 hl19 hl20), hB26⟩

theorem z_c_spec_DrawWorstTile_27 (L : List UInt8) (nL : Nat) (hbdL : (nL : Int) ≤ 9223372036854775807) (hleL : nL = L.length) (hp0 : (nL : Int) ≤ 65536) (v15 : ScanJob) (hq16 : v15.Tiles.length ≤ 9) (n12 : Nat) (hl19 : n12 = (v15.Tiles).length) (hl20 : (n12 : Int) ≤ 9223372036854775807) : v15.Tiles.length ≤ 9 := by
  first | omega | (simp only [List.length_append, List.length_cons, List.length_nil]; omega)
theorem c_spec_DrawWorstTile (w : World) {AL : Option Addr} {nL cL BL : Nat}  (L : List UInt8) (hL : SlR w BL encB 1 AL nL cL L) (hp0 : (nL : Int) ≤ 65536) : Calls Tryd.prog 33 #[.slice AL nL cL] w fun e w' => ∃ (A1' : Option Addr) (n1' c1' : Nat) (x : ScanJob), e = .returned (.agg (List.toArray [.int .i64 x.State, .slice A1' n1' c1', .int .i64 x.Next, .int .i64 x.Fails, .int .i64 x.Size])) ∧ SlO w' w.heap.size encI 1 3 A1' n1' c1' x.Tiles ∧ (x.Tiles.length ≤ 9) ∧ Lo w w' := by
  refine calls_W 5 Tryd.func33 rfl rfl rfl ?_
  have hbdL := hL.bound
  have hleL := hL.len
  have hBbL := hL.bd
  refine W.seq ?_
  refine W.regS (SR.alloc (l := [.int .i64 0, .slice none 0 0, .int .i64 0, .int .i64 0, .int .i64 0]) tz57 rfl ?_)
  intro g1 w2 hg3 hk4 hs5 hb6
  have hz7 := hk4.size
  have hB8 := (Lo.refl w).lo hk4
  refine SR.nil ?_
  refine W.seq ?_
  refine W.regS (SR.q' (r_mv (v := .slice _ _ _) rfl) <| SR.call ent68 (c_spec_DrawIsScanJob w2 L (((hL).lo hk4)) (by omega)) rfl ?_)
  rintro e w9 ⟨A11, n12, c13, v15, rfl, hO14, hq16, hk10⟩
  refine ⟨_, rfl, ?_⟩
  have hz17 := hk10.size
  have hB18 := hB8.lo hk10
  have hl19 := hO14.len
  have hl20 := hO14.rd.bound
  refine SR.store (o := 0) (vs := [.int .i64 v15.State, .slice A11 n12 c13, .int .i64 v15.Next, .int .i64 v15.Fails, .int .i64 v15.Size]) agg57.2 rfl rfl rfl rfl ((hb6).lo hk10) (Nat.le_of_ble_eq_true rfl) rfl ?_
  intro w21 hk22 hs23 hb24
  have hz25 := hk22.size
  have hB26 := hB18.new hk22 (by omega)
  refine SR.nil ?_
  refine W.ret ?_
  refine retC rfl rfl agg57 (hb24) rfl ?_
  exact ⟨A11, n12, c13, v15, eR rfl, (((hO14).kp hk22 (fun b_ hb e' => by have e'' : b_ = g1 := e'; have := (hO14).base_le hb; omega)).down (by omega)), (z_c_spec_DrawWorstTile_27 L nL hbdL hleL hp0 v15 hq16 n12 hl19 hl20), hB26⟩

theorem z_c_spec_DrawJobText_27 (L : List UInt8) (nL : Nat) (hbdL : (nL : Int) ≤ 9223372036854775807) (hleL : nL = L.length) (hp0 : (nL : Int) ≤ 65536) (v15 : ScanJob) (hq16 : v15.Tiles.length ≤ 9) (n12 : Nat) (hl19 : n12 = (v15.Tiles).length) (hl20 : (n12 : Int) ≤ 9223372036854775807) : v15.Tiles.length ≤ 9 := by
  first | omega | (simp only [List.length_append, List.length_cons, List.length_nil]; omega)
theorem c_spec_DrawJobText (w : World) {AL : Option Addr} {nL cL BL : Nat}  (L : List UInt8) (hL : SlR w BL encB 1 AL nL cL L) (hp0 : (nL : Int) ≤ 65536) : Calls Tryd.prog 36 #[.slice AL nL cL] w fun e w' => ∃ (A1' : Option Addr) (n1' c1' : Nat) (x : ScanJob), e = .returned (.agg (List.toArray [.int .i64 x.State, .slice A1' n1' c1', .int .i64 x.Next, .int .i64 x.Fails, .int .i64 x.Size])) ∧ SlO w' w.heap.size encI 1 3 A1' n1' c1' x.Tiles ∧ (x.Tiles.length ≤ 9) ∧ Lo w w' := by
  refine calls_W 5 Tryd.func36 rfl rfl rfl ?_
  have hbdL := hL.bound
  have hleL := hL.len
  have hBbL := hL.bd
  refine W.seq ?_
  refine W.regS (SR.alloc (l := [.int .i64 0, .slice none 0 0, .int .i64 0, .int .i64 0, .int .i64 0]) tz57 rfl ?_)
  intro g1 w2 hg3 hk4 hs5 hb6
  have hz7 := hk4.size
  have hB8 := (Lo.refl w).lo hk4
  refine SR.nil ?_
  refine W.seq ?_
  refine W.regS (SR.q' (r_mv (v := .slice _ _ _) rfl) <| SR.call ent68 (c_spec_DrawIsScanJob w2 L (((hL).lo hk4)) (by omega)) rfl ?_)
  rintro e w9 ⟨A11, n12, c13, v15, rfl, hO14, hq16, hk10⟩
  refine ⟨_, rfl, ?_⟩
  have hz17 := hk10.size
  have hB18 := hB8.lo hk10
  have hl19 := hO14.len
  have hl20 := hO14.rd.bound
  refine SR.store (o := 0) (vs := [.int .i64 v15.State, .slice A11 n12 c13, .int .i64 v15.Next, .int .i64 v15.Fails, .int .i64 v15.Size]) agg57.2 rfl rfl rfl rfl ((hb6).lo hk10) (Nat.le_of_ble_eq_true rfl) rfl ?_
  intro w21 hk22 hs23 hb24
  have hz25 := hk22.size
  have hB26 := hB18.new hk22 (by omega)
  refine SR.nil ?_
  refine W.ret ?_
  refine retC rfl rfl agg57 (hb24) rfl ?_
  exact ⟨A11, n12, c13, v15, eR rfl, (((hO14).kp hk22 (fun b_ hb e' => by have e'' : b_ = g1 := e'; have := (hO14).base_le hb; omega)).down (by omega)), (z_c_spec_DrawJobText_27 L nL hbdL hleL hp0 v15 hq16 n12 hl19 hl20), hB26⟩
end Go.Proofs.YtlpapeeaghmjpaaDoor
