/- Walks, printed by a program of this claim's author. -/
import Derived.Test.YtlpapeeaghmjpaaDoorChecked
import Derived.Test.YtlpapeeaghmjpaaDoorSd
import Derived.Test.YtlpapeeaghmjpaaDoorFu
import Derived.Test.YtlpapeeaghmjpaaDoorFs
import Derived.Test.YtlpapeeaghmjpaaDoorFq
import Derived.Test.YtlpapeeaghmjpaaDoorFo
import Derived.Test.YtlpapeeaghmjpaaDoorG29j
namespace Go.Proofs.YtlpapeeaghmjpaaDoor
open Go Go.RowKit Fw
set_option maxRecDepth 10000
set_option linter.unusedVariables false
theorem ent106 : Ent Tryd.prog 106 := ent_of Tryd.func106 (by decide +kernel) rfl
theorem ent58 : Ent Tryd.prog 58 := ent_of Tryd.func58 (by decide +kernel) rfl
theorem ent74 : Ent Tryd.prog 74 := ent_of Tryd.func74 (by decide +kernel) rfl
theorem ent75 : Ent Tryd.prog 75 := ent_of Tryd.func75 (by decide +kernel) rfl
theorem ent77 : Ent Tryd.prog 77 := ent_of Tryd.func77 (by decide +kernel) rfl
theorem fa57_0 : FA Tryd.prog 57 0 0 := fun _ _ => by kernel_rfl
theorem fa57_1 : FA Tryd.prog 57 1 1 := fun _ _ => by kernel_rfl
theorem fa57_2 : FA Tryd.prog 57 2 2 := fun _ _ => by kernel_rfl
theorem fa57_3 : FA Tryd.prog 57 3 3 := fun _ _ => by kernel_rfl
theorem fa57_4 : FA Tryd.prog 57 4 4 := fun _ _ => by kernel_rfl
theorem sca38 : TSca Tryd.prog 38 := ⟨fun _ => by kernel_rfl, fun _ => by kernel_rfl⟩

theorem z_c_impl_IsScanJob_35 (x : ScanJob) (nx_Tiles : Nat) (hbdx_Tiles : (nx_Tiles : Int) ≤ 9223372036854775807) (hlex_Tiles : nx_Tiles = x.Tiles.length) (hq13 : takenN x.Tiles ≤ x.Tiles.length) (h34 : (¬ (1 ≤ (nx_Tiles : Int) ∧ (nx_Tiles : Int) ≤ 8)) ∨ ((¬ (Trail x.Tiles)) ∨ ((¬ (x.Next = (takenN x.Tiles : Int))) ∨ ((¬ (0 ≤ x.Fails ∧ x.Fails ≤ 3)) ∨ (¬ (x.Size = (IntKind.i64.wrap (10 * (wsum x.Tiles))))))))) : ¬ (JobOK x) := by
  first | exact fun hh => absurd hh.1.2.1 (any_rng.1 ‹_›) | exact fun hh => tiles_bad (k := k) (by omega) (by omega) hh.1 | (have ht : TilesOK x.Tiles := (by first | exact TTo.end_ (And.right ‹_ ∧ TTo _ _›) (by omega) (by omega) | exact tiles_of (by omega) ‹_› ‹Trail _›); have hw := tiles_wrap ht; have hs := tiles_sum ht; rw [job_iff ht]; omega) | (intro hh; have ht := hh.1; have hw := tiles_wrap ht; have hs := tiles_sum ht; have h8 := ht.1; have htr := ht.2.2; have hj := hh.2; first | omega | ((rcases ‹_ ∨ _› with h | h | h | h | h) <;> first | exact h htr | omega))
theorem z_c_impl_IsScanJob_46 (x : ScanJob) (nx_Tiles : Nat) (hbdx_Tiles : (nx_Tiles : Int) ≤ 9223372036854775807) (hlex_Tiles : nx_Tiles = x.Tiles.length) (hq13 : takenN x.Tiles ≤ x.Tiles.length) (h34 : ¬ ((¬ (1 ≤ (nx_Tiles : Int) ∧ (nx_Tiles : Int) ≤ 8)) ∨ ((¬ (Trail x.Tiles)) ∨ ((¬ (x.Next = (takenN x.Tiles : Int))) ∨ ((¬ (0 ≤ x.Fails ∧ x.Fails ≤ 3)) ∨ (¬ (x.Size = (IntKind.i64.wrap (10 * (wsum x.Tiles)))))))))) (hq36 : 1 ≤ (nx_Tiles : Int) ∧ (nx_Tiles : Int) ≤ 8) (hq37 : Trail x.Tiles) (hq38 : x.Next = (takenN x.Tiles : Int)) (hq39 : 0 ≤ x.Fails ∧ x.Fails ≤ 3) (hq40 : x.Size = (IntKind.i64.wrap (10 * (wsum x.Tiles)))) (h45 : (x.Tiles.any (fun u_ : Int => (!decide (0 ≤ u_ ∧ u_ ≤ 100)))) = true) : ¬ (JobOK x) := by
  first | exact fun hh => absurd hh.1.2.1 (any_rng.1 ‹_›) | exact fun hh => tiles_bad (k := k) (by omega) (by omega) hh.1 | (have ht : TilesOK x.Tiles := (by first | exact TTo.end_ (And.right ‹_ ∧ TTo _ _›) (by omega) (by omega) | exact tiles_of (by omega) ‹_› ‹Trail _›); have hw := tiles_wrap ht; have hs := tiles_sum ht; rw [job_iff ht]; omega) | (intro hh; have ht := hh.1; have hw := tiles_wrap ht; have hs := tiles_sum ht; have h8 := ht.1; have htr := ht.2.2; have hj := hh.2; first | omega | ((rcases ‹_ ∨ _› with h | h | h | h | h) <;> first | exact h htr | omega))
theorem z_c_impl_IsScanJob_55 (x : ScanJob) (nx_Tiles : Nat) (hbdx_Tiles : (nx_Tiles : Int) ≤ 9223372036854775807) (hlex_Tiles : nx_Tiles = x.Tiles.length) (hq13 : takenN x.Tiles ≤ x.Tiles.length) (h34 : ¬ ((¬ (1 ≤ (nx_Tiles : Int) ∧ (nx_Tiles : Int) ≤ 8)) ∨ ((¬ (Trail x.Tiles)) ∨ ((¬ (x.Next = (takenN x.Tiles : Int))) ∨ ((¬ (0 ≤ x.Fails ∧ x.Fails ≤ 3)) ∨ (¬ (x.Size = (IntKind.i64.wrap (10 * (wsum x.Tiles)))))))))) (hq36 : 1 ≤ (nx_Tiles : Int) ∧ (nx_Tiles : Int) ≤ 8) (hq37 : Trail x.Tiles) (hq38 : x.Next = (takenN x.Tiles : Int)) (hq39 : 0 ≤ x.Fails ∧ x.Fails ≤ 3) (hq40 : x.Size = (IntKind.i64.wrap (10 * (wsum x.Tiles)))) (h45 : (x.Tiles.any (fun u_ : Int => (!decide (0 ≤ u_ ∧ u_ ≤ 100)))) = false) (h47 : x.State = 0) : (((takenN x.Tiles : Int) = 0) ∧ (x.Fails = 0)) ↔ (JobOK x) := by
  first | exact fun hh => absurd hh.1.2.1 (any_rng.1 ‹_›) | exact fun hh => tiles_bad (k := k) (by omega) (by omega) hh.1 | (have ht : TilesOK x.Tiles := (by first | exact TTo.end_ (And.right ‹_ ∧ TTo _ _›) (by omega) (by omega) | exact tiles_of (by omega) ‹_› ‹Trail _›); have hw := tiles_wrap ht; have hs := tiles_sum ht; rw [job_iff ht]; omega) | (intro hh; have ht := hh.1; have hw := tiles_wrap ht; have hs := tiles_sum ht; have h8 := ht.1; have htr := ht.2.2; have hj := hh.2; first | omega | ((rcases ‹_ ∨ _› with h | h | h | h | h) <;> first | exact h htr | omega))
theorem z_c_impl_IsScanJob_57 (x : ScanJob) (nx_Tiles : Nat) (hbdx_Tiles : (nx_Tiles : Int) ≤ 9223372036854775807) (hlex_Tiles : nx_Tiles = x.Tiles.length) (hq13 : takenN x.Tiles ≤ x.Tiles.length) (h34 : ¬ ((¬ (1 ≤ (nx_Tiles : Int) ∧ (nx_Tiles : Int) ≤ 8)) ∨ ((¬ (Trail x.Tiles)) ∨ ((¬ (x.Next = (takenN x.Tiles : Int))) ∨ ((¬ (0 ≤ x.Fails ∧ x.Fails ≤ 3)) ∨ (¬ (x.Size = (IntKind.i64.wrap (10 * (wsum x.Tiles)))))))))) (hq36 : 1 ≤ (nx_Tiles : Int) ∧ (nx_Tiles : Int) ≤ 8) (hq37 : Trail x.Tiles) (hq38 : x.Next = (takenN x.Tiles : Int)) (hq39 : 0 ≤ x.Fails ∧ x.Fails ≤ 3) (hq40 : x.Size = (IntKind.i64.wrap (10 * (wsum x.Tiles)))) (h45 : (x.Tiles.any (fun u_ : Int => (!decide (0 ≤ u_ ∧ u_ ≤ 100)))) = false) (h47 : ¬ (x.State = 0)) (h56 : x.State = 1) : (x.Fails < 3) ↔ (JobOK x) := by
  first | exact fun hh => absurd hh.1.2.1 (any_rng.1 ‹_›) | exact fun hh => tiles_bad (k := k) (by omega) (by omega) hh.1 | (have ht : TilesOK x.Tiles := (by first | exact TTo.end_ (And.right ‹_ ∧ TTo _ _›) (by omega) (by omega) | exact tiles_of (by omega) ‹_› ‹Trail _›); have hw := tiles_wrap ht; have hs := tiles_sum ht; rw [job_iff ht]; omega) | (intro hh; have ht := hh.1; have hw := tiles_wrap ht; have hs := tiles_sum ht; have h8 := ht.1; have htr := ht.2.2; have hj := hh.2; first | omega | ((rcases ‹_ ∨ _› with h | h | h | h | h) <;> first | exact h htr | omega))
theorem z_c_impl_IsScanJob_59 (x : ScanJob) (nx_Tiles : Nat) (hbdx_Tiles : (nx_Tiles : Int) ≤ 9223372036854775807) (hlex_Tiles : nx_Tiles = x.Tiles.length) (hq13 : takenN x.Tiles ≤ x.Tiles.length) (h34 : ¬ ((¬ (1 ≤ (nx_Tiles : Int) ∧ (nx_Tiles : Int) ≤ 8)) ∨ ((¬ (Trail x.Tiles)) ∨ ((¬ (x.Next = (takenN x.Tiles : Int))) ∨ ((¬ (0 ≤ x.Fails ∧ x.Fails ≤ 3)) ∨ (¬ (x.Size = (IntKind.i64.wrap (10 * (wsum x.Tiles)))))))))) (hq36 : 1 ≤ (nx_Tiles : Int) ∧ (nx_Tiles : Int) ≤ 8) (hq37 : Trail x.Tiles) (hq38 : x.Next = (takenN x.Tiles : Int)) (hq39 : 0 ≤ x.Fails ∧ x.Fails ≤ 3) (hq40 : x.Size = (IntKind.i64.wrap (10 * (wsum x.Tiles)))) (h45 : (x.Tiles.any (fun u_ : Int => (!decide (0 ≤ u_ ∧ u_ ≤ 100)))) = false) (h47 : ¬ (x.State = 0)) (h56 : ¬ (x.State = 1)) (h58 : x.State = 2) : JobOK x := by
  first | exact fun hh => absurd hh.1.2.1 (any_rng.1 ‹_›) | exact fun hh => tiles_bad (k := k) (by omega) (by omega) hh.1 | (have ht : TilesOK x.Tiles := (by first | exact TTo.end_ (And.right ‹_ ∧ TTo _ _›) (by omega) (by omega) | exact tiles_of (by omega) ‹_› ‹Trail _›); have hw := tiles_wrap ht; have hs := tiles_sum ht; rw [job_iff ht]; omega) | (intro hh; have ht := hh.1; have hw := tiles_wrap ht; have hs := tiles_sum ht; have h8 := ht.1; have htr := ht.2.2; have hj := hh.2; first | omega | ((rcases ‹_ ∨ _› with h | h | h | h | h) <;> first | exact h htr | omega))
theorem z_c_impl_IsScanJob_68 (x : ScanJob) (nx_Tiles : Nat) (hbdx_Tiles : (nx_Tiles : Int) ≤ 9223372036854775807) (hlex_Tiles : nx_Tiles = x.Tiles.length) (hq13 : takenN x.Tiles ≤ x.Tiles.length) (h34 : ¬ ((¬ (1 ≤ (nx_Tiles : Int) ∧ (nx_Tiles : Int) ≤ 8)) ∨ ((¬ (Trail x.Tiles)) ∨ ((¬ (x.Next = (takenN x.Tiles : Int))) ∨ ((¬ (0 ≤ x.Fails ∧ x.Fails ≤ 3)) ∨ (¬ (x.Size = (IntKind.i64.wrap (10 * (wsum x.Tiles)))))))))) (hq36 : 1 ≤ (nx_Tiles : Int) ∧ (nx_Tiles : Int) ≤ 8) (hq37 : Trail x.Tiles) (hq38 : x.Next = (takenN x.Tiles : Int)) (hq39 : 0 ≤ x.Fails ∧ x.Fails ≤ 3) (hq40 : x.Size = (IntKind.i64.wrap (10 * (wsum x.Tiles)))) (h45 : (x.Tiles.any (fun u_ : Int => (!decide (0 ≤ u_ ∧ u_ ≤ 100)))) = false) (h47 : ¬ (x.State = 0)) (h56 : ¬ (x.State = 1)) (h58 : ¬ (x.State = 2)) : ((x.State = 3) ∧ (((takenN x.Tiles : Int) = (nx_Tiles : Int)) ∧ (x.Fails < 3))) ↔ (JobOK x) := by
  first | exact fun hh => absurd hh.1.2.1 (any_rng.1 ‹_›) | exact fun hh => tiles_bad (k := k) (by omega) (by omega) hh.1 | (have ht : TilesOK x.Tiles := (by first | exact TTo.end_ (And.right ‹_ ∧ TTo _ _›) (by omega) (by omega) | exact tiles_of (by omega) ‹_› ‹Trail _›); have hw := tiles_wrap ht; have hs := tiles_sum ht; rw [job_iff ht]; omega) | (intro hh; have ht := hh.1; have hw := tiles_wrap ht; have hs := tiles_sum ht; have h8 := ht.1; have htr := ht.2.2; have hj := hh.2; first | omega | ((rcases ‹_ ∨ _› with h | h | h | h | h) <;> first | exact h htr | omega))
theorem c_impl_IsScanJob (w : World) (x : ScanJob) {Ax_Tiles : Option Addr} {nx_Tiles cx_Tiles Bx_Tiles : Nat} (hx_Tiles : SlR w Bx_Tiles encI 1 Ax_Tiles nx_Tiles cx_Tiles x.Tiles) : Calls Tryd.prog 39 #[.agg (List.toArray [.int .i64 x.State, .slice Ax_Tiles nx_Tiles cx_Tiles, .int .i64 x.Next, .int .i64 x.Fails, .int .i64 x.Size])] w fun e w' => e = .returned (.bool (decide (JobOK x))) ∧ Lo w w' := by
  refine calls_W 77 Tryd.func39 rfl rfl rfl ?_
  have hbdx_Tiles := hx_Tiles.bound
  have hlex_Tiles := hx_Tiles.len
  have hBbx_Tiles := hx_Tiles.bd
  refine W.seq ?_
  refine W.regS (SR.box (v := .agg (List.toArray _)) (l := [.int .i64 x.State, .slice Ax_Tiles nx_Tiles cx_Tiles, .int .i64 x.Next, .int .i64 x.Fails, .int .i64 x.Size]) rfl rfl ?_)
  intro g1 w2 hg3 hk4 hs5 hb6
  have hz7 := hk4.size
  have hB8 := (Lo.refl w).lo hk4
  refine SR.q' (r_as (v := .bool false) rfl) <| SR.nil ?_
  refine W.seq ?_
  refine W.regS (SR.q' (r_fa fa57_1 rfl) <| SR.q' (r_ld (v := .slice Ax_Tiles nx_Tiles cx_Tiles) sca38 rfl ((hb6).cell rfl)) <| SR.call ent74 (c_impl_taken w2 x.Tiles (((hx_Tiles).lo hk4))) rfl ?_)
  rintro e w9 ⟨rfl, hk10⟩
  refine ⟨_, rfl, ?_⟩
  have hz11 := hk10.size
  have hB12 := hB8.lo hk10
  have hq13 : takenN x.Tiles ≤ x.Tiles.length := taken_le _
  refine SR.q' (r_mv (v := .tuple (List.toArray _)) rfl) <| SR.q' (r_ext (v := .int .i64 _) rfl rfl) <| SR.q' (r_ext (v := .bool _) rfl rfl) <| SR.q' (r_as (v := .int .i64 _) rfl) <| SR.q' (r_as (v := .bool _) rfl) <| SR.nil ?_
  refine W.seq ?_
  refine W.seq ?_
  refine W.regJD mo (by kernel_rfl) (fun f' w' => At f' [(1, .pointer (some ((⟨g1, 0, none⟩ : Addr)))), (2, .bool false), (3, .int .i64 (takenN x.Tiles : Int)), (40, .bool (decide ((¬ (1 ≤ (nx_Tiles : Int) ∧ (nx_Tiles : Int) ≤ 8)) ∨ ((¬ (Trail x.Tiles)) ∨ ((¬ (x.Next = (takenN x.Tiles : Int))) ∨ ((¬ (0 ≤ x.Fails ∧ x.Fails ≤ 3)) ∨ (¬ (x.Size = (IntKind.i64.wrap (10 * (wsum x.Tiles)))))))))))] ∧ Lo w9 w') ?_ ?_
  · refine QR.q' (fun w' hw' => r_fa fa57_1 rfl) <| QR.q' (fun w' hw' => r_ld (v := .slice Ax_Tiles nx_Tiles cx_Tiles) sca38 rfl ((((hb6).lo hk10).lo hw').cell rfl)) <| QR.q' (fun w' hw' => r_len und38 rfl) <| QR.call ent55 (fun w' hw' => (c_impl_within w' (nx_Tiles : Int) 1 8).mono fun _ _ h => ⟨h.1, hw'.trans h.2⟩) rfl <| QR.q' (fun w' hw' => r_not rfl) <| QR.q' (fun w' hw' => r_mv (v := .bool _) rfl) <| QR.splitN (fun h14 => ?_) (fun h14 => ?_)
    · refine QR.s' rfl <| QR.s' rfl <| QR.q' (fun w' hw' => r_pick true rfl (v := .bool true) rfl) <| QR.q' (fun w' hw' => r_mv (v := .bool _) rfl) <| QR.s' rfl <| QR.s' rfl <| QR.s' rfl <| QR.s' rfl <| QR.q' (fun w' hw' => r_pick true rfl (v := .bool true) rfl) <| QR.q' (fun w' hw' => r_mv (v := .bool _) rfl) <| QR.s' rfl <| QR.s' rfl <| QR.s' rfl <| QR.s' rfl <| QR.q' (fun w' hw' => r_pick true rfl (v := .bool true) rfl) <| QR.q' (fun w' hw' => r_mv (v := .bool _) rfl) <| QR.s' rfl <| QR.s' rfl <| QR.s' rfl <| QR.s' rfl <| QR.s' rfl <| QR.s' rfl <| QR.s' rfl <| QR.q' (fun w' hw' => r_pick true rfl (v := .bool true) rfl) <| QR.nil ?_
      intro w15 hk16
      exact ⟨⟨rfl, rfl, rfl, (eDT ((jmf h14).1 trivial)), trivial⟩, hk16⟩
    · refine QR.g' rfl (fun w' hw' => r_mv (v := .bool _) rfl) <| QR.g' rfl (fun w' hw' => r_not rfl) <| QR.q' (fun w' hw' => r_pick false rfl (v := .bool _) rfl) <| QR.q' (fun w' hw' => r_mv (v := .bool _) rfl) <| QR.splitN (fun h17 => ?_) (fun h17 => ?_)
      · refine QR.s' rfl <| QR.s' rfl <| QR.s' rfl <| QR.s' rfl <| QR.q' (fun w' hw' => r_pick true rfl (v := .bool true) rfl) <| QR.q' (fun w' hw' => r_mv (v := .bool _) rfl) <| QR.s' rfl <| QR.s' rfl <| QR.s' rfl <| QR.s' rfl <| QR.q' (fun w' hw' => r_pick true rfl (v := .bool true) rfl) <| QR.q' (fun w' hw' => r_mv (v := .bool _) rfl) <| QR.s' rfl <| QR.s' rfl <| QR.s' rfl <| QR.s' rfl <| QR.s' rfl <| QR.s' rfl <| QR.s' rfl <| QR.q' (fun w' hw' => r_pick true rfl (v := .bool true) rfl) <| QR.nil ?_
        intro w18 hk19
        exact ⟨⟨rfl, rfl, rfl, (eDT (((jmf h17).trans (jmt h14)).1 trivial)), trivial⟩, hk19⟩
      · refine QR.g' rfl (fun w' hw' => r_fa fa57_2 rfl) <| QR.g' rfl (fun w' hw' => r_ld (v := .int .i64 x.Next) sca3 rfl ((((hb6).lo hk10).lo hw').cell rfl)) <| QR.g' rfl (fun w' hw' => r_mv (v := .int .i64 _) rfl) <| QR.g' rfl (fun w' hw' => r_ne rfl rfl) <| QR.q' (fun w' hw' => r_pick false rfl (v := .bool _) rfl) <| QR.q' (fun w' hw' => r_mv (v := .bool _) rfl) <| QR.splitN (fun h20 => ?_) (fun h20 => ?_)
        · refine QR.s' rfl <| QR.s' rfl <| QR.s' rfl <| QR.s' rfl <| QR.q' (fun w' hw' => r_pick true rfl (v := .bool true) rfl) <| QR.q' (fun w' hw' => r_mv (v := .bool _) rfl) <| QR.s' rfl <| QR.s' rfl <| QR.s' rfl <| QR.s' rfl <| QR.s' rfl <| QR.s' rfl <| QR.s' rfl <| QR.q' (fun w' hw' => r_pick true rfl (v := .bool true) rfl) <| QR.nil ?_
          intro w21 hk22
          exact ⟨⟨rfl, rfl, rfl, (eDT ((((jmf h20).trans (jmt h17)).trans (jmt h14)).1 trivial)), trivial⟩, hk22⟩
        · refine QR.g' rfl (fun w' hw' => r_fa fa57_3 rfl) <| QR.g' rfl (fun w' hw' => r_ld (v := .int .i64 x.Fails) sca3 rfl ((((hb6).lo hk10).lo hw').cell rfl)) <| QR.gcall rfl ent55 (fun w' hw' => (c_impl_within w' x.Fails 0 3).mono fun _ _ h => ⟨h.1, hw'.trans h.2⟩) rfl <| QR.g' rfl (fun w' hw' => r_not rfl) <| QR.q' (fun w' hw' => r_pick false rfl (v := .bool _) rfl) <| QR.q' (fun w' hw' => r_mv (v := .bool _) rfl) <| QR.splitN (fun h23 => ?_) (fun h23 => ?_)
          · refine QR.s' rfl <| QR.s' rfl <| QR.s' rfl <| QR.s' rfl <| QR.s' rfl <| QR.s' rfl <| QR.s' rfl <| QR.q' (fun w' hw' => r_pick true rfl (v := .bool true) rfl) <| QR.nil ?_
            intro w24 hk25
            exact ⟨⟨rfl, rfl, rfl, (eDT (((((jmf h23).trans (jmt h20)).trans (jmt h17)).trans (jmt h14)).1 trivial)), trivial⟩, hk25⟩
          · refine QR.g' rfl (fun w' hw' => r_fa fa57_4 rfl) <| QR.g' rfl (fun w' hw' => r_ld (v := .int .i64 x.Size) sca3 rfl ((((hb6).lo hk10).lo hw').cell rfl)) <| QR.g' rfl (fun w' hw' => r_fa fa57_1 rfl) <| QR.g' rfl (fun w' hw' => r_ld (v := .slice Ax_Tiles nx_Tiles cx_Tiles) sca38 rfl ((((hb6).lo hk10).lo hw').cell rfl)) <| QR.gcall rfl ent75 (fun w' hw' => (c_impl_sum w' x.Tiles ((((((hx_Tiles).lo hk4).lo hk10).lo hw')))).mono fun _ _ h => ⟨h.1, hw'.trans h.2⟩) rfl <| QR.g' rfl (fun w' hw' => r_mulW rfl rfl) <| QR.g' rfl (fun w' hw' => r_ne rfl rfl) <| QR.q' (fun w' hw' => r_pick false rfl (v := .bool _) rfl) <| QR.nil ?_
            intro w26 hk27
            exact ⟨⟨rfl, rfl, rfl, (eND ((((jmt h23).trans (jmt h20)).trans (jmt h17)).trans (jmt h14))), trivial⟩, hk27⟩
  rintro f28 w29 ⟨hat30, hk31⟩
  rw [← sets_of_at hat30]
  have hz32 := hk31.size
  have hB33 := hB12.lo hk31
  refine W.cond_d rfl (fun h34 => ?_) (fun h34 => ?_)
  · refine W.seq ?_
    refine W.regS (SR.q' (r_as (v := .bool false) rfl) <| SR.nil ?_)
    refine W.ret ?_
    refine ret1 rfl (v := .bool _) rfl ?_
    exact ⟨eR (eDF (z_c_impl_IsScanJob_35 x nx_Tiles hbdx_Tiles hlex_Tiles hq13 h34)), hB33⟩
  · have hq36 : 1 ≤ (nx_Tiles : Int) ∧ (nx_Tiles : Int) ≤ 8 := (Classical.not_not.1 (not_or.1 h34).1)
    have hq37 : Trail x.Tiles := (Classical.not_not.1 (not_or.1 (not_or.1 h34).2).1)
    have hq38 : x.Next = (takenN x.Tiles : Int) := (Classical.not_not.1 (not_or.1 (not_or.1 (not_or.1 h34).2).2).1)
    have hq39 : 0 ≤ x.Fails ∧ x.Fails ≤ 3 := (Classical.not_not.1 (not_or.1 (not_or.1 (not_or.1 (not_or.1 h34).2).2).2).1)
    have hq40 : x.Size = (IntKind.i64.wrap (10 * (wsum x.Tiles))) := (Classical.not_not.1 (not_or.1 (not_or.1 (not_or.1 (not_or.1 h34).2).2).2).2)
    refine W.skip ?_
    refine W.seq ?_
    refine W.seq ?_
    refine W.regS (SR.q' (r_fa fa57_1 rfl) <| SR.q' (r_ld (v := .slice Ax_Tiles nx_Tiles cx_Tiles) sca38 rfl ((((hb6).lo hk10).lo hk31).cell rfl)) <| SR.call ent76 (c_slices_ContainsFunc___int_int_ w29 x.Tiles (((((hx_Tiles).lo hk4).lo hk10).lo hk31)) (fun u_ : Int => (!decide (0 ≤ u_ ∧ u_ ≤ 100))) ⟨ent77, fun w'' hw'' x => (c_impl_IsScanJob_1 w'' x).mono fun _ _ h => ⟨h.1, h.2⟩⟩) rfl ?_)
    rintro e w41 ⟨rfl, hk42⟩
    refine ⟨_, rfl, ?_⟩
    have hz43 := hk42.size
    have hB44 := hB33.lo hk42
    refine SR.nil ?_
    refine W.cond_b rfl (fun h45 => ?_) (fun h45 => ?_)
    · refine W.seq ?_
      refine W.regS (SR.q' (r_as (v := .bool false) rfl) <| SR.nil ?_)
      refine W.ret ?_
      refine ret1 rfl (v := .bool _) rfl ?_
      exact ⟨eR (eDF (z_c_impl_IsScanJob_46 x nx_Tiles hbdx_Tiles hlex_Tiles hq13 h34 hq36 hq37 hq38 hq39 hq40 h45)), hB44⟩
    · refine W.skip ?_
      refine W.seq ?_
      refine W.seq ?_
      refine W.regS (SR.q' (r_fa fa57_0 rfl) <| SR.q' (r_ld (v := .int .i64 x.State) sca3 rfl (((((hb6).lo hk10).lo hk31).lo hk42).cell rfl)) <| SR.nil ?_)
      refine W.block ?_
      refine W.seq ?_
      refine W.regS (SR.q' (r_eq rfl rfl) <| SR.q' (r_as (v := .bool _) rfl) <| SR.nil ?_)
      refine W.cond_d rfl (fun h47 => ?_) (fun h47 => ?_)
      · refine W.seq ?_
        refine W.regJS (fun f' w' => At f' [(1, .pointer (some ((⟨g1, 0, none⟩ : Addr)))), (2, .bool (decide (((takenN x.Tiles : Int) = 0) ∧ (x.Fails = 0)))), (3, .int .i64 (takenN x.Tiles : Int))] ∧ Lo w41 w') ?_ ?_
        · refine SR.q' (r_mv (v := .int .i64 _) rfl) <| SR.q' (r_eq rfl rfl) <| SR.q' (r_mv (v := .bool _) rfl) <| SR.splitD (fun h48 => ?_) (fun h48 => ?_)
          · refine SR.g' rfl (r_fa fa57_3 rfl) <| SR.g' rfl (r_ld (v := .int .i64 x.Fails) sca3 rfl (((((hb6).lo hk10).lo hk31).lo hk42).cell rfl)) <| SR.g' rfl (r_eq rfl rfl) <| SR.q' (r_pick true rfl (v := .bool _) rfl) <| SR.q' (r_as (v := .bool _) rfl) <| SR.nil ?_
            exact ⟨_, rfl, ⟨⟨rfl, (eDD (jat h48)), rfl, trivial⟩, (Lo.refl _)⟩⟩
          · refine SR.s' rfl <| SR.s' rfl <| SR.s' rfl <| SR.q' (r_pick false rfl (v := .bool false) rfl) <| SR.q' (r_as (v := .bool _) rfl) <| SR.nil ?_
            exact ⟨_, rfl, ⟨⟨rfl, (eDF (jaf h48).2), rfl, trivial⟩, (Lo.refl _)⟩⟩
        rintro f49 w50 ⟨hat51, hk52⟩
        rw [← sets_of_at hat51]
        have hz53 := hk52.size
        have hB54 := hB44.lo hk52
        refine W.ret ?_
        refine ret1 rfl (v := .bool _) rfl ?_
        exact ⟨eR (eDD (z_c_impl_IsScanJob_55 x nx_Tiles hbdx_Tiles hlex_Tiles hq13 h34 hq36 hq37 hq38 hq39 hq40 h45 h47)), hB54⟩
      · refine W.seq ?_
        refine W.regS (SR.q' (r_eq rfl rfl) <| SR.q' (r_as (v := .bool _) rfl) <| SR.nil ?_)
        refine W.cond_d rfl (fun h56 => ?_) (fun h56 => ?_)
        · refine W.seq ?_
          refine W.regS (SR.q' (r_fa fa57_3 rfl) <| SR.q' (r_ld (v := .int .i64 x.Fails) sca3 rfl (((((hb6).lo hk10).lo hk31).lo hk42).cell rfl)) <| SR.q' (r_lt rfl rfl) <| SR.q' (r_as (v := .bool _) rfl) <| SR.nil ?_)
          refine W.ret ?_
          refine ret1 rfl (v := .bool _) rfl ?_
          exact ⟨eR (eDD (z_c_impl_IsScanJob_57 x nx_Tiles hbdx_Tiles hlex_Tiles hq13 h34 hq36 hq37 hq38 hq39 hq40 h45 h47 h56)), hB44⟩
        · refine W.seq ?_
          refine W.regS (SR.q' (r_eq rfl rfl) <| SR.q' (r_as (v := .bool _) rfl) <| SR.nil ?_)
          refine W.cond_d rfl (fun h58 => ?_) (fun h58 => ?_)
          · refine W.seq ?_
            refine W.regS (SR.q' (r_as (v := .bool true) rfl) <| SR.nil ?_)
            refine W.ret ?_
            refine ret1 rfl (v := .bool _) rfl ?_
            exact ⟨eR (eDT (z_c_impl_IsScanJob_59 x nx_Tiles hbdx_Tiles hlex_Tiles hq13 h34 hq36 hq37 hq38 hq39 hq40 h45 h47 h56 h58)), hB44⟩
          · refine W.skip ?_
            refine W.seq ?_
            refine W.regJS (fun f' w' => At f' [(2, .bool (decide ((x.State = 3) ∧ (((takenN x.Tiles : Int) = (nx_Tiles : Int)) ∧ (x.Fails < 3)))))] ∧ Lo w41 w') ?_ ?_
            · refine SR.q' (r_fa fa57_0 rfl) <| SR.q' (r_ld (v := .int .i64 x.State) sca3 rfl (((((hb6).lo hk10).lo hk31).lo hk42).cell rfl)) <| SR.q' (r_eq rfl rfl) <| SR.q' (r_mv (v := .bool _) rfl) <| SR.splitD (fun h60 => ?_) (fun h60 => ?_)
              · refine SR.g' rfl (r_mv (v := .int .i64 _) rfl) <| SR.g' rfl (r_fa fa57_1 rfl) <| SR.g' rfl (r_ld (v := .slice Ax_Tiles nx_Tiles cx_Tiles) sca38 rfl (((((hb6).lo hk10).lo hk31).lo hk42).cell rfl)) <| SR.g' rfl (r_len und38 rfl) <| SR.g' rfl (r_eq rfl rfl) <| SR.q' (r_pick true rfl (v := .bool _) rfl) <| SR.q' (r_mv (v := .bool _) rfl) <| SR.splitD (fun h61 => ?_) (fun h61 => ?_)
                · refine SR.g' rfl (r_fa fa57_3 rfl) <| SR.g' rfl (r_ld (v := .int .i64 x.Fails) sca3 rfl (((((hb6).lo hk10).lo hk31).lo hk42).cell rfl)) <| SR.g' rfl (r_lt rfl rfl) <| SR.q' (r_pick true rfl (v := .bool _) rfl) <| SR.q' (r_as (v := .bool _) rfl) <| SR.nil ?_
                  exact ⟨_, rfl, ⟨⟨(eDD ((jat h61).trans (jat h60))), trivial⟩, (Lo.refl _)⟩⟩
                · refine SR.s' rfl <| SR.s' rfl <| SR.s' rfl <| SR.q' (r_pick false rfl (v := .bool false) rfl) <| SR.q' (r_as (v := .bool _) rfl) <| SR.nil ?_
                  exact ⟨_, rfl, ⟨⟨(eDF ((jaf h61).trans (jat h60)).2), trivial⟩, (Lo.refl _)⟩⟩
              · refine SR.s' rfl <| SR.s' rfl <| SR.s' rfl <| SR.s' rfl <| SR.s' rfl <| SR.q' (r_pick false rfl (v := .bool false) rfl) <| SR.q' (r_mv (v := .bool _) rfl) <| SR.s' rfl <| SR.s' rfl <| SR.s' rfl <| SR.q' (r_pick false rfl (v := .bool false) rfl) <| SR.q' (r_as (v := .bool _) rfl) <| SR.nil ?_
                exact ⟨_, rfl, ⟨⟨(eDF (jaf h60).2), trivial⟩, (Lo.refl _)⟩⟩
            rintro f62 w63 ⟨hat64, hk65⟩
            rw [← sets_of_at hat64]
            have hz66 := hk65.size
            have hB67 := hB44.lo hk65
            refine W.ret ?_
            refine ret1 rfl (v := .bool _) rfl ?_
            exact ⟨eR (eDD (z_c_impl_IsScanJob_68 x nx_Tiles hbdx_Tiles hlex_Tiles hq13 h34 hq36 hq37 hq38 hq39 hq40 h45 h47 h56 h58)), hB67⟩

theorem z_c_spec_l29Good_30 (x : ScanJob) (nx_Tiles : Nat) (hbdx_Tiles : (nx_Tiles : Int) ≤ 9223372036854775807) (hlex_Tiles : nx_Tiles = x.Tiles.length) (h29 : (¬ (1 ≤ (nx_Tiles : Int) ∧ (nx_Tiles : Int) ≤ 8)) ∨ ((¬ (0 ≤ x.State ∧ x.State ≤ 3)) ∨ (¬ (0 ≤ x.Fails ∧ x.Fails ≤ 3)))) : ¬ (JobOK x) := by
  first | exact fun hh => absurd hh.1.2.1 (any_rng.1 ‹_›) | exact fun hh => tiles_bad (k := k) (by omega) (by omega) hh.1 | (have ht : TilesOK x.Tiles := (by first | exact TTo.end_ (And.right ‹_ ∧ TTo _ _›) (by omega) (by omega) | exact tiles_of (by omega) ‹_› ‹Trail _›); have hw := tiles_wrap ht; have hs := tiles_sum ht; rw [job_iff ht]; omega) | (intro hh; have ht := hh.1; have hw := tiles_wrap ht; have hs := tiles_sum ht; have h8 := ht.1; have htr := ht.2.2; have hj := hh.2; first | omega | ((rcases ‹_ ∨ _› with h | h | h | h | h) <;> first | exact h htr | omega))
theorem z_c_spec_l29Good_39 (x : ScanJob) (nx_Tiles : Nat) (hbdx_Tiles : (nx_Tiles : Int) ≤ 9223372036854775807) (hlex_Tiles : nx_Tiles = x.Tiles.length) (h29 : ¬ ((¬ (1 ≤ (nx_Tiles : Int) ∧ (nx_Tiles : Int) ≤ 8)) ∨ ((¬ (0 ≤ x.State ∧ x.State ≤ 3)) ∨ (¬ (0 ≤ x.Fails ∧ x.Fails ≤ 3))))) (hq31 : 1 ≤ (nx_Tiles : Int) ∧ (nx_Tiles : Int) ≤ 8) (hq32 : 0 ≤ x.State ∧ x.State ≤ 3) (hq33 : 0 ≤ x.Fails ∧ x.Fails ≤ 3) (hq38 : takenN x.Tiles ≤ x.Tiles.length) : 0 ≤ nx_Tiles ∧ TTo x.Tiles 0 := by
  exact ⟨Nat.zero_le _, TTo.zero⟩
theorem z_c_spec_l29Good_65 (x : ScanJob) (nx_Tiles : Nat) (hbdx_Tiles : (nx_Tiles : Int) ≤ 9223372036854775807) (hlex_Tiles : nx_Tiles = x.Tiles.length) (h29 : ¬ ((¬ (1 ≤ (nx_Tiles : Int) ∧ (nx_Tiles : Int) ≤ 8)) ∨ ((¬ (0 ≤ x.State ∧ x.State ≤ 3)) ∨ (¬ (0 ≤ x.Fails ∧ x.Fails ≤ 3))))) (hq31 : 1 ≤ (nx_Tiles : Int) ∧ (nx_Tiles : Int) ≤ 8) (hq32 : 0 ≤ x.State ∧ x.State ≤ 3) (hq33 : 0 ≤ x.Fails ∧ x.Fails ≤ 3) (hq38 : takenN x.Tiles ≤ x.Tiles.length) (k : Nat) (hi46 : k ≤ nx_Tiles ∧ TTo x.Tiles k) (h48 : (k : Int) < (nx_Tiles : Int)) (hq61 : x.Tiles[k]? = some (gt x.Tiles k)) (h64 : (¬ (0 ≤ (gt x.Tiles k) ∧ (gt x.Tiles k) ≤ 100)) ∨ (((takenN x.Tiles : Int) < (k : Int)) ∧ (¬ ((gt x.Tiles k) = 0)))) : ¬ (JobOK x) := by
  first | exact fun hh => absurd hh.1.2.1 (any_rng.1 ‹_›) | exact fun hh => tiles_bad (k := k) (by omega) (by omega) hh.1 | (have ht : TilesOK x.Tiles := (by first | exact TTo.end_ (And.right ‹_ ∧ TTo _ _›) (by omega) (by omega) | exact tiles_of (by omega) ‹_› ‹Trail _›); have hw := tiles_wrap ht; have hs := tiles_sum ht; rw [job_iff ht]; omega) | (intro hh; have ht := hh.1; have hw := tiles_wrap ht; have hs := tiles_sum ht; have h8 := ht.1; have htr := ht.2.2; have hj := hh.2; first | omega | ((rcases ‹_ ∨ _› with h | h | h | h | h) <;> first | exact h htr | omega))
theorem z_c_spec_l29Good_68 (x : ScanJob) (nx_Tiles : Nat) (hbdx_Tiles : (nx_Tiles : Int) ≤ 9223372036854775807) (hlex_Tiles : nx_Tiles = x.Tiles.length) (h29 : ¬ ((¬ (1 ≤ (nx_Tiles : Int) ∧ (nx_Tiles : Int) ≤ 8)) ∨ ((¬ (0 ≤ x.State ∧ x.State ≤ 3)) ∨ (¬ (0 ≤ x.Fails ∧ x.Fails ≤ 3))))) (hq31 : 1 ≤ (nx_Tiles : Int) ∧ (nx_Tiles : Int) ≤ 8) (hq32 : 0 ≤ x.State ∧ x.State ≤ 3) (hq33 : 0 ≤ x.Fails ∧ x.Fails ≤ 3) (hq38 : takenN x.Tiles ≤ x.Tiles.length) (k : Nat) (hi46 : k ≤ nx_Tiles ∧ TTo x.Tiles k) (h48 : (k : Int) < (nx_Tiles : Int)) (hq61 : x.Tiles[k]? = some (gt x.Tiles k)) (h64 : ¬ ((¬ (0 ≤ (gt x.Tiles k) ∧ (gt x.Tiles k) ≤ 100)) ∨ (((takenN x.Tiles : Int) < (k : Int)) ∧ (¬ ((gt x.Tiles k) = 0))))) (hq66 : 0 ≤ (gt x.Tiles k) ∧ (gt x.Tiles k) ≤ 100) (hq67 : ¬ (((takenN x.Tiles : Int) < (k : Int)) ∧ (¬ ((gt x.Tiles k) = 0)))) : k + 1 ≤ nx_Tiles ∧ TTo x.Tiles (k + 1) := by
  exact ⟨by omega, TTo.next (And.right ‹_ ∧ TTo _ _›) (by omega) (by omega)⟩
theorem z_c_spec_l29Good_69 (x : ScanJob) (nx_Tiles : Nat) (hbdx_Tiles : (nx_Tiles : Int) ≤ 9223372036854775807) (hlex_Tiles : nx_Tiles = x.Tiles.length) (h29 : ¬ ((¬ (1 ≤ (nx_Tiles : Int) ∧ (nx_Tiles : Int) ≤ 8)) ∨ ((¬ (0 ≤ x.State ∧ x.State ≤ 3)) ∨ (¬ (0 ≤ x.Fails ∧ x.Fails ≤ 3))))) (hq31 : 1 ≤ (nx_Tiles : Int) ∧ (nx_Tiles : Int) ≤ 8) (hq32 : 0 ≤ x.State ∧ x.State ≤ 3) (hq33 : 0 ≤ x.Fails ∧ x.Fails ≤ 3) (hq38 : takenN x.Tiles ≤ x.Tiles.length) (k : Nat) (hi46 : k ≤ nx_Tiles ∧ TTo x.Tiles k) (h48 : (k : Int) < (nx_Tiles : Int)) (hq61 : x.Tiles[k]? = some (gt x.Tiles k)) (h64 : ¬ ((¬ (0 ≤ (gt x.Tiles k) ∧ (gt x.Tiles k) ≤ 100)) ∨ (((takenN x.Tiles : Int) < (k : Int)) ∧ (¬ ((gt x.Tiles k) = 0))))) (hq66 : 0 ≤ (gt x.Tiles k) ∧ (gt x.Tiles k) ≤ 100) (hq67 : ¬ (((takenN x.Tiles : Int) < (k : Int)) ∧ (¬ ((gt x.Tiles k) = 0)))) : nx_Tiles - (k + 1) < nx_Tiles - k := by
  omega
theorem z_c_spec_l29Good_80 (x : ScanJob) (nx_Tiles : Nat) (hbdx_Tiles : (nx_Tiles : Int) ≤ 9223372036854775807) (hlex_Tiles : nx_Tiles = x.Tiles.length) (h29 : ¬ ((¬ (1 ≤ (nx_Tiles : Int) ∧ (nx_Tiles : Int) ≤ 8)) ∨ ((¬ (0 ≤ x.State ∧ x.State ≤ 3)) ∨ (¬ (0 ≤ x.Fails ∧ x.Fails ≤ 3))))) (hq31 : 1 ≤ (nx_Tiles : Int) ∧ (nx_Tiles : Int) ≤ 8) (hq32 : 0 ≤ x.State ∧ x.State ≤ 3) (hq33 : 0 ≤ x.Fails ∧ x.Fails ≤ 3) (hq38 : takenN x.Tiles ≤ x.Tiles.length) (k : Nat) (hi46 : k ≤ nx_Tiles ∧ TTo x.Tiles k) (h48 : ¬ ((k : Int) < (nx_Tiles : Int))) (h79 : (¬ (x.Next = (takenN x.Tiles : Int))) ∨ ((¬ (x.Size = (IntKind.i64.wrap (10 * (wsum (x.Tiles.take (takenN x.Tiles))))))) ∨ ((x.Fails = 3) ∧ (¬ (x.State = 2))))) : ¬ (JobOK x) := by
  first | exact fun hh => absurd hh.1.2.1 (any_rng.1 ‹_›) | exact fun hh => tiles_bad (k := k) (by omega) (by omega) hh.1 | (have ht : TilesOK x.Tiles := (by first | exact TTo.end_ (And.right ‹_ ∧ TTo _ _›) (by omega) (by omega) | exact tiles_of (by omega) ‹_› ‹Trail _›); have hw := tiles_wrap ht; have hs := tiles_sum ht; rw [job_iff ht]; omega) | (intro hh; have ht := hh.1; have hw := tiles_wrap ht; have hs := tiles_sum ht; have h8 := ht.1; have htr := ht.2.2; have hj := hh.2; first | omega | ((rcases ‹_ ∨ _› with h | h | h | h | h) <;> first | exact h htr | omega))
theorem z_c_spec_l29Good_92 (x : ScanJob) (nx_Tiles : Nat) (hbdx_Tiles : (nx_Tiles : Int) ≤ 9223372036854775807) (hlex_Tiles : nx_Tiles = x.Tiles.length) (h29 : ¬ ((¬ (1 ≤ (nx_Tiles : Int) ∧ (nx_Tiles : Int) ≤ 8)) ∨ ((¬ (0 ≤ x.State ∧ x.State ≤ 3)) ∨ (¬ (0 ≤ x.Fails ∧ x.Fails ≤ 3))))) (hq31 : 1 ≤ (nx_Tiles : Int) ∧ (nx_Tiles : Int) ≤ 8) (hq32 : 0 ≤ x.State ∧ x.State ≤ 3) (hq33 : 0 ≤ x.Fails ∧ x.Fails ≤ 3) (hq38 : takenN x.Tiles ≤ x.Tiles.length) (k : Nat) (hi46 : k ≤ nx_Tiles ∧ TTo x.Tiles k) (h48 : ¬ ((k : Int) < (nx_Tiles : Int))) (h79 : ¬ ((¬ (x.Next = (takenN x.Tiles : Int))) ∨ ((¬ (x.Size = (IntKind.i64.wrap (10 * (wsum (x.Tiles.take (takenN x.Tiles))))))) ∨ ((x.Fails = 3) ∧ (¬ (x.State = 2)))))) (hq81 : x.Next = (takenN x.Tiles : Int)) (hq82 : x.Size = (IntKind.i64.wrap (10 * (wsum (x.Tiles.take (takenN x.Tiles)))))) (hq83 : ¬ ((x.Fails = 3) ∧ (¬ (x.State = 2)))) (h84 : x.State = 0) : (((takenN x.Tiles : Int) = 0) ∧ (x.Fails = 0)) ↔ (JobOK x) := by
  first | exact fun hh => absurd hh.1.2.1 (any_rng.1 ‹_›) | exact fun hh => tiles_bad (k := k) (by omega) (by omega) hh.1 | (have ht : TilesOK x.Tiles := (by first | exact TTo.end_ (And.right ‹_ ∧ TTo _ _›) (by omega) (by omega) | exact tiles_of (by omega) ‹_› ‹Trail _›); have hw := tiles_wrap ht; have hs := tiles_sum ht; rw [job_iff ht]; omega) | (intro hh; have ht := hh.1; have hw := tiles_wrap ht; have hs := tiles_sum ht; have h8 := ht.1; have htr := ht.2.2; have hj := hh.2; first | omega | ((rcases ‹_ ∨ _› with h | h | h | h | h) <;> first | exact h htr | omega))
theorem z_c_spec_l29Good_94 (x : ScanJob) (nx_Tiles : Nat) (hbdx_Tiles : (nx_Tiles : Int) ≤ 9223372036854775807) (hlex_Tiles : nx_Tiles = x.Tiles.length) (h29 : ¬ ((¬ (1 ≤ (nx_Tiles : Int) ∧ (nx_Tiles : Int) ≤ 8)) ∨ ((¬ (0 ≤ x.State ∧ x.State ≤ 3)) ∨ (¬ (0 ≤ x.Fails ∧ x.Fails ≤ 3))))) (hq31 : 1 ≤ (nx_Tiles : Int) ∧ (nx_Tiles : Int) ≤ 8) (hq32 : 0 ≤ x.State ∧ x.State ≤ 3) (hq33 : 0 ≤ x.Fails ∧ x.Fails ≤ 3) (hq38 : takenN x.Tiles ≤ x.Tiles.length) (k : Nat) (hi46 : k ≤ nx_Tiles ∧ TTo x.Tiles k) (h48 : ¬ ((k : Int) < (nx_Tiles : Int))) (h79 : ¬ ((¬ (x.Next = (takenN x.Tiles : Int))) ∨ ((¬ (x.Size = (IntKind.i64.wrap (10 * (wsum (x.Tiles.take (takenN x.Tiles))))))) ∨ ((x.Fails = 3) ∧ (¬ (x.State = 2)))))) (hq81 : x.Next = (takenN x.Tiles : Int)) (hq82 : x.Size = (IntKind.i64.wrap (10 * (wsum (x.Tiles.take (takenN x.Tiles)))))) (hq83 : ¬ ((x.Fails = 3) ∧ (¬ (x.State = 2)))) (h84 : ¬ (x.State = 0)) (h93 : x.State = 3) : ((takenN x.Tiles : Int) = (nx_Tiles : Int)) ↔ (JobOK x) := by
  first | exact fun hh => absurd hh.1.2.1 (any_rng.1 ‹_›) | exact fun hh => tiles_bad (k := k) (by omega) (by omega) hh.1 | (have ht : TilesOK x.Tiles := (by first | exact TTo.end_ (And.right ‹_ ∧ TTo _ _›) (by omega) (by omega) | exact tiles_of (by omega) ‹_› ‹Trail _›); have hw := tiles_wrap ht; have hs := tiles_sum ht; rw [job_iff ht]; omega) | (intro hh; have ht := hh.1; have hw := tiles_wrap ht; have hs := tiles_sum ht; have h8 := ht.1; have htr := ht.2.2; have hj := hh.2; first | omega | ((rcases ‹_ ∨ _› with h | h | h | h | h) <;> first | exact h htr | omega))
theorem z_c_spec_l29Good_95 (x : ScanJob) (nx_Tiles : Nat) (hbdx_Tiles : (nx_Tiles : Int) ≤ 9223372036854775807) (hlex_Tiles : nx_Tiles = x.Tiles.length) (h29 : ¬ ((¬ (1 ≤ (nx_Tiles : Int) ∧ (nx_Tiles : Int) ≤ 8)) ∨ ((¬ (0 ≤ x.State ∧ x.State ≤ 3)) ∨ (¬ (0 ≤ x.Fails ∧ x.Fails ≤ 3))))) (hq31 : 1 ≤ (nx_Tiles : Int) ∧ (nx_Tiles : Int) ≤ 8) (hq32 : 0 ≤ x.State ∧ x.State ≤ 3) (hq33 : 0 ≤ x.Fails ∧ x.Fails ≤ 3) (hq38 : takenN x.Tiles ≤ x.Tiles.length) (k : Nat) (hi46 : k ≤ nx_Tiles ∧ TTo x.Tiles k) (h48 : ¬ ((k : Int) < (nx_Tiles : Int))) (h79 : ¬ ((¬ (x.Next = (takenN x.Tiles : Int))) ∨ ((¬ (x.Size = (IntKind.i64.wrap (10 * (wsum (x.Tiles.take (takenN x.Tiles))))))) ∨ ((x.Fails = 3) ∧ (¬ (x.State = 2)))))) (hq81 : x.Next = (takenN x.Tiles : Int)) (hq82 : x.Size = (IntKind.i64.wrap (10 * (wsum (x.Tiles.take (takenN x.Tiles)))))) (hq83 : ¬ ((x.Fails = 3) ∧ (¬ (x.State = 2)))) (h84 : ¬ (x.State = 0)) (h93 : ¬ (x.State = 3)) : JobOK x := by
  first | exact fun hh => absurd hh.1.2.1 (any_rng.1 ‹_›) | exact fun hh => tiles_bad (k := k) (by omega) (by omega) hh.1 | (have ht : TilesOK x.Tiles := (by first | exact TTo.end_ (And.right ‹_ ∧ TTo _ _›) (by omega) (by omega) | exact tiles_of (by omega) ‹_› ‹Trail _›); have hw := tiles_wrap ht; have hs := tiles_sum ht; rw [job_iff ht]; omega) | (intro hh; have ht := hh.1; have hw := tiles_wrap ht; have hs := tiles_sum ht; have h8 := ht.1; have htr := ht.2.2; have hj := hh.2; first | omega | ((rcases ‹_ ∨ _› with h | h | h | h | h) <;> first | exact h htr | omega))
theorem c_spec_l29Good (w : World) (x : ScanJob) {Ax_Tiles : Option Addr} {nx_Tiles cx_Tiles Bx_Tiles : Nat} (hx_Tiles : SlR w Bx_Tiles encI 1 Ax_Tiles nx_Tiles cx_Tiles x.Tiles) : Calls Tryd.prog 69 #[.agg (List.toArray [.int .i64 x.State, .slice Ax_Tiles nx_Tiles cx_Tiles, .int .i64 x.Next, .int .i64 x.Fails, .int .i64 x.Size])] w fun e w' => e = .returned (.bool (decide (JobOK x))) ∧ Lo w w' := by
  refine calls_W 95 Tryd.func69 rfl rfl rfl ?_
  have hbdx_Tiles := hx_Tiles.bound
  have hlex_Tiles := hx_Tiles.len
  have hBbx_Tiles := hx_Tiles.bd
  refine W.seq ?_
  refine W.regS (SR.box (v := .agg (List.toArray _)) (l := [.int .i64 x.State, .slice Ax_Tiles nx_Tiles cx_Tiles, .int .i64 x.Next, .int .i64 x.Fails, .int .i64 x.Size]) rfl rfl ?_)
  intro g1 w2 hg3 hk4 hs5 hb6
  have hz7 := hk4.size
  have hB8 := (Lo.refl w).lo hk4
  refine SR.q' (r_as (v := .bool false) rfl) <| SR.nil ?_
  refine W.seq ?_
  refine W.seq ?_
  refine W.regJS (fun f' w' => At f' [(1, .pointer (some ((⟨g1, 0, none⟩ : Addr)))), (2, .bool false), (22, .bool (decide ((¬ (1 ≤ (nx_Tiles : Int) ∧ (nx_Tiles : Int) ≤ 8)) ∨ ((¬ (0 ≤ x.State ∧ x.State ≤ 3)) ∨ (¬ (0 ≤ x.Fails ∧ x.Fails ≤ 3))))))] ∧ Lo w2 w') ?_ ?_
  · refine SR.q' (r_fa fa57_1 rfl) <| SR.q' (r_ld (v := .slice Ax_Tiles nx_Tiles cx_Tiles) sca38 rfl ((hb6).cell rfl)) <| SR.q' (r_len und38 rfl) <| SR.call ent58 (c_spec_l1In w2 (nx_Tiles : Int) 1 8) rfl ?_
    rintro e w9 ⟨rfl, hk10⟩
    refine ⟨_, rfl, ?_⟩
    have hz11 := hk10.size
    have hB12 := hB8.lo hk10
    refine SR.q' (r_not rfl) <| SR.q' (r_mv (v := .bool _) rfl) <| SR.splitN (fun h13 => ?_) (fun h13 => ?_)
    · refine SR.s' rfl <| SR.s' rfl <| SR.s' rfl <| SR.s' rfl <| SR.q' (r_pick true rfl (v := .bool true) rfl) <| SR.q' (r_mv (v := .bool _) rfl) <| SR.s' rfl <| SR.s' rfl <| SR.s' rfl <| SR.s' rfl <| SR.q' (r_pick true rfl (v := .bool true) rfl) <| SR.nil ?_
      exact ⟨_, rfl, ⟨⟨rfl, rfl, (eDT ((jmf h13).1 trivial)), trivial⟩, (hk10)⟩⟩
    · refine SR.g' rfl (r_fa fa57_0 rfl) <| SR.g' rfl (r_ld (v := .int .i64 x.State) sca3 rfl (((hb6).lo hk10).cell rfl)) <| SR.gcall rfl ent58 (c_spec_l1In w9 x.State 0 3) rfl ?_
      rintro e w14 ⟨rfl, hk15⟩
      refine ⟨_, rfl, ?_⟩
      have hz16 := hk15.size
      have hB17 := hB12.lo hk15
      refine SR.g' rfl (r_not rfl) <| SR.q' (r_pick false rfl (v := .bool _) rfl) <| SR.q' (r_mv (v := .bool _) rfl) <| SR.splitN (fun h18 => ?_) (fun h18 => ?_)
      · refine SR.s' rfl <| SR.s' rfl <| SR.s' rfl <| SR.s' rfl <| SR.q' (r_pick true rfl (v := .bool true) rfl) <| SR.nil ?_
        exact ⟨_, rfl, ⟨⟨rfl, rfl, (eDT (((jmf h18).trans (jmt h13)).1 trivial)), trivial⟩, ((hk10).trans hk15)⟩⟩
      · refine SR.g' rfl (r_fa fa57_3 rfl) <| SR.g' rfl (r_ld (v := .int .i64 x.Fails) sca3 rfl ((((hb6).lo hk10).lo hk15).cell rfl)) <| SR.gcall rfl ent58 (c_spec_l1In w14 x.Fails 0 3) rfl ?_
        rintro e w19 ⟨rfl, hk20⟩
        refine ⟨_, rfl, ?_⟩
        have hz21 := hk20.size
        have hB22 := hB17.lo hk20
        refine SR.g' rfl (r_not rfl) <| SR.q' (r_pick false rfl (v := .bool _) rfl) <| SR.nil ?_
        exact ⟨_, rfl, ⟨⟨rfl, rfl, (eND ((jmt h18).trans (jmt h13))), trivial⟩, (((hk10).trans hk15).trans hk20)⟩⟩
  rintro f23 w24 ⟨hat25, hk26⟩
  rw [← sets_of_at hat25]
  have hz27 := hk26.size
  have hB28 := hB8.lo hk26
  refine W.cond_d rfl (fun h29 => ?_) (fun h29 => ?_)
  · refine W.seq ?_
    refine W.regS (SR.q' (r_as (v := .bool false) rfl) <| SR.nil ?_)
    refine W.ret ?_
    refine ret1 rfl (v := .bool _) rfl ?_
    exact ⟨eR (eDF (z_c_spec_l29Good_30 x nx_Tiles hbdx_Tiles hlex_Tiles h29)), hB28⟩
  · have hq31 : 1 ≤ (nx_Tiles : Int) ∧ (nx_Tiles : Int) ≤ 8 := (Classical.not_not.1 (not_or.1 h29).1)
    have hq32 : 0 ≤ x.State ∧ x.State ≤ 3 := (Classical.not_not.1 (not_or.1 (not_or.1 h29).2).1)
    have hq33 : 0 ≤ x.Fails ∧ x.Fails ≤ 3 := (Classical.not_not.1 (not_or.1 (not_or.1 h29).2).2)
    refine W.skip ?_
    refine W.seq ?_
    refine W.regS (SR.q' (r_fa fa57_1 rfl) <| SR.q' (r_ld (v := .slice Ax_Tiles nx_Tiles cx_Tiles) sca38 rfl (((hb6).lo hk26).cell rfl)) <| SR.call ent106 (c_spec_l29Taken w24 x.Tiles ((((hx_Tiles).lo hk4).lo hk26))) rfl ?_)
    rintro e w34 ⟨rfl, hk35⟩
    refine ⟨_, rfl, ?_⟩
    have hz36 := hk35.size
    have hB37 := hB28.lo hk35
    have hq38 : takenN x.Tiles ≤ x.Tiles.length := taken_le _
    refine SR.q' (r_mv (v := .tuple (List.toArray _)) rfl) <| SR.q' (r_ext (v := .int .i64 _) rfl rfl) <| SR.q' (r_ext (v := .int .i64 _) rfl rfl) <| SR.q' (r_as (v := .int .i64 _) rfl) <| SR.q' (r_as (v := .int .i64 _) rfl) <| SR.nil ?_
    refine W.seq ?_
    refine W.seq ?_
    refine W.regS (SR.q' (r_as (v := .int .i64 0) rfl) <| SR.nil ?_)
    refine W.block ?_
    refine W.loop (σ := Nat) (fun g => [(1, .pointer (some ((⟨g1, 0, none⟩ : Addr)))), (3, .int .i64 (takenN x.Tiles : Int)), (4, .int .i64 (wsum (x.Tiles.take (takenN x.Tiles)))), (5, .int .i64 (g : Int))]) (fun g w' => (Lo w w') ∧ (Blk w' g1 57 [.int .i64 x.State, .slice Ax_Tiles nx_Tiles cx_Tiles, .int .i64 x.Next, .int .i64 x.Fails, .int .i64 x.Size]) ∧ (SlR w' Bx_Tiles encI 1 Ax_Tiles nx_Tiles cx_Tiles x.Tiles) ∧ (g ≤ nx_Tiles ∧ TTo x.Tiles g)) (fun g => nx_Tiles - g) 0 ?_ ?_ ?_
    · exact ⟨rfl, rfl, rfl, rfl, trivial⟩
    · exact ⟨hB37, ((hb6).lo hk26).lo hk35, (((hx_Tiles).lo hk4).lo hk26).lo hk35, (z_c_spec_l29Good_39 x nx_Tiles hbdx_Tiles hlex_Tiles h29 hq31 hq32 hq33 hq38)⟩
    · rintro k f40 w41 hP43
      obtain ⟨hB42, hm44, hm45, hi46⟩ : (Lo w w41) ∧ (Blk w41 g1 57 [.int .i64 x.State, .slice Ax_Tiles nx_Tiles cx_Tiles, .int .i64 x.Next, .int .i64 x.Fails, .int .i64 x.Size]) ∧ (SlR w41 Bx_Tiles encI 1 Ax_Tiles nx_Tiles cx_Tiles x.Tiles) ∧ (k ≤ nx_Tiles ∧ TTo x.Tiles k) := hP43
      refine (?_ : W _ _ _ _ _ (act _ (sets f40 [(1, .pointer (some ((⟨g1, 0, none⟩ : Addr)))), (3, .int .i64 (takenN x.Tiles : Int)), (4, .int .i64 (wsum (x.Tiles.take (takenN x.Tiles)))), (5, .int .i64 (k : Int))])) _)
      have hzw41 := hB42.size
      have hl47 := hm44.lt
      refine W.seq ?_
      refine W.seq ?_
      refine W.regS (SR.q' (r_mv (v := .int .i64 _) rfl) <| SR.q' (r_fa fa57_1 rfl) <| SR.q' (r_ld (v := .slice Ax_Tiles nx_Tiles cx_Tiles) sca38 rfl ((hm44).cell rfl)) <| SR.q' (r_len und38 rfl) <| SR.q' (r_lt rfl rfl) <| SR.nil ?_)
      refine W.cond_d rfl (fun h48 => ?_) (fun h48 => ?_)
      · refine W.skip ?_
        refine W.seq ?_
        refine W.block ?_
        refine W.seq ?_
        refine W.regJS (fun f' w' => At f' [(1, .pointer (some ((⟨g1, 0, none⟩ : Addr)))), (3, .int .i64 (takenN x.Tiles : Int)), (4, .int .i64 (wsum (x.Tiles.take (takenN x.Tiles)))), (5, .int .i64 (k : Int)), (55, .bool (decide ((¬ (0 ≤ (gt x.Tiles k) ∧ (gt x.Tiles k) ≤ 100)) ∨ (((takenN x.Tiles : Int) < (k : Int)) ∧ (¬ ((gt x.Tiles k) = 0))))))] ∧ Lo w41 w' ∧ (x.Tiles[k]? = some (gt x.Tiles k))) ?_ ?_
        · refine SR.q' (r_fa fa57_1 rfl) <| SR.q' (r_ld (v := .slice Ax_Tiles nx_Tiles cx_Tiles) sca38 rfl ((hm44).cell rfl)) <| SR.q' (r_mv (v := .int .i64 _) rfl) <| ?_
          have hx50 := (hm45).elem (i := k) (by omega)
          refine SR.q' (r_ixR tsl38 (hm45) rfl rfl (by omega)) <| SR.q' (r_ld (v := .int .i64 (gt x.Tiles k)) sca3 rfl ((hm45).cell0 hx50 rfl)) <| SR.call ent58 (c_spec_l1In w41 (gt x.Tiles k) 0 100) rfl ?_
          rintro e w51 ⟨rfl, hk52⟩
          refine ⟨_, rfl, ?_⟩
          have hz53 := hk52.size
          have hB54 := hB42.lo hk52
          refine SR.q' (r_not rfl) <| SR.q' (r_mv (v := .bool _) rfl) <| SR.splitN (fun h55 => ?_) (fun h55 => ?_)
          · refine SR.s' rfl <| SR.s' rfl <| SR.s' rfl <| SR.s' rfl <| SR.u' rfl <| SR.u' rfl <| SR.u' rfl <| SR.u' rfl <| SR.u' rfl <| SR.u' rfl <| SR.s' rfl <| SR.q' (r_pick true rfl (v := .bool true) rfl) <| SR.nil ?_
            exact ⟨_, rfl, ⟨⟨rfl, rfl, rfl, rfl, (eDT ((jmf h55).1 trivial)), trivial⟩, (hk52), hx50⟩⟩
          · refine SR.g' rfl (r_mv (v := .int .i64 _) rfl) <| SR.g' rfl (r_mv (v := .int .i64 _) rfl) <| SR.g' rfl (r_gt rfl rfl) <| SR.g' rfl (r_mv (v := .bool _) rfl) <| SR.splitD (fun h56 => ?_) (fun h56 => ?_)
            · refine SR.g' rfl (r_fa fa57_1 rfl) <| SR.g' rfl (r_ld (v := .slice Ax_Tiles nx_Tiles cx_Tiles) sca38 rfl (((hm44).lo hk52).cell rfl)) <| SR.g' rfl (r_mv (v := .int .i64 _) rfl) <| SR.g' rfl (r_ixR tsl38 ((hm45).lo hk52) rfl rfl (by omega)) <| SR.g' rfl (r_ld (v := .int .i64 (gt x.Tiles k)) sca3 rfl (((hm45).lo hk52).cell0 hx50 rfl)) <| SR.g' rfl (r_ne rfl rfl) <| SR.g' rfl (r_pick true rfl (v := .bool _) rfl) <| SR.q' (r_pick false rfl (v := .bool _) rfl) <| SR.nil ?_
              exact ⟨_, rfl, ⟨⟨rfl, rfl, rfl, rfl, (eND ((jat h56).trans (jmt h55))), trivial⟩, (hk52), hx50⟩⟩
            · refine SR.s' rfl <| SR.s' rfl <| SR.s' rfl <| SR.s' rfl <| SR.s' rfl <| SR.s' rfl <| SR.g' rfl (r_pick false rfl (v := .bool false) rfl) <| SR.q' (r_pick false rfl (v := .bool _) rfl) <| SR.nil ?_
              exact ⟨_, rfl, ⟨⟨rfl, rfl, rfl, rfl, (eDF ((jaf h56).trans (jmt h55)).2), trivial⟩, (hk52), hx50⟩⟩
        rintro f57 w58 ⟨hat59, hk60, hq61⟩
        rw [← sets_of_at hat59]
        have hz62 := hk60.size
        have hB63 := hB42.lo hk60
        refine W.cond_d rfl (fun h64 => ?_) (fun h64 => ?_)
        · refine W.seq ?_
          refine W.regS (SR.q' (r_as (v := .bool false) rfl) <| SR.nil ?_)
          refine W.ret ?_
          refine ret1 rfl (v := .bool _) rfl ?_
          exact ⟨eR (eDF (z_c_spec_l29Good_65 x nx_Tiles hbdx_Tiles hlex_Tiles h29 hq31 hq32 hq33 hq38 k hi46 h48 hq61 h64)), hB63⟩
        · have hq66 : 0 ≤ (gt x.Tiles k) ∧ (gt x.Tiles k) ≤ 100 := (Classical.not_not.1 (not_or.1 h64).1)
          have hq67 : ¬ (((takenN x.Tiles : Int) < (k : Int)) ∧ (¬ ((gt x.Tiles k) = 0))) := (not_or.1 h64).2
          refine W.skip ?_
          refine W.regS (SR.q' (r_mv (v := .int .i64 _) rfl) <| SR.q' (r_add rfl rfl (by omega)) <| SR.q' (r_as (v := .int .i64 _) rfl) <| SR.nil ?_)
          refine ⟨k + 1, _, rfl, ⟨rfl, rfl, rfl, rfl, trivial⟩, ⟨hB63, (hm44).lo hk60, (hm45).lo hk60, ?_⟩, ?_⟩
          · exact (z_c_spec_l29Good_68 x nx_Tiles hbdx_Tiles hlex_Tiles h29 hq31 hq32 hq33 hq38 k hi46 h48 hq61 h64 hq66 hq67)
          · exact (z_c_spec_l29Good_69 x nx_Tiles hbdx_Tiles hlex_Tiles h29 hq31 hq32 hq33 hq38 k hi46 h48 hq61 h64 hq66 hq67)
      · refine W.exit (xin_here ?_)
        refine W.seq ?_
        refine W.seq ?_
        refine W.regJS (fun f' w' => At f' [(1, .pointer (some ((⟨g1, 0, none⟩ : Addr)))), (3, .int .i64 (takenN x.Tiles : Int)), (76, .bool (decide ((¬ (x.Next = (takenN x.Tiles : Int))) ∨ ((¬ (x.Size = (IntKind.i64.wrap (10 * (wsum (x.Tiles.take (takenN x.Tiles))))))) ∨ ((x.Fails = 3) ∧ (¬ (x.State = 2)))))))] ∧ Lo w41 w') ?_ ?_
        · refine SR.q' (r_fa fa57_2 rfl) <| SR.q' (r_ld (v := .int .i64 x.Next) sca3 rfl ((hm44).cell rfl)) <| SR.q' (r_mv (v := .int .i64 _) rfl) <| SR.q' (r_ne rfl rfl) <| SR.q' (r_mv (v := .bool _) rfl) <| SR.splitN (fun h70 => ?_) (fun h70 => ?_)
          · refine SR.s' rfl <| SR.s' rfl <| SR.s' rfl <| SR.s' rfl <| SR.s' rfl <| SR.q' (r_pick true rfl (v := .bool true) rfl) <| SR.q' (r_mv (v := .bool _) rfl) <| SR.s' rfl <| SR.s' rfl <| SR.s' rfl <| SR.s' rfl <| SR.u' rfl <| SR.u' rfl <| SR.u' rfl <| SR.s' rfl <| SR.q' (r_pick true rfl (v := .bool true) rfl) <| SR.nil ?_
            exact ⟨_, rfl, ⟨⟨rfl, rfl, (eDT ((jmf h70).1 trivial)), trivial⟩, (Lo.refl _)⟩⟩
          · refine SR.g' rfl (r_fa fa57_4 rfl) <| SR.g' rfl (r_ld (v := .int .i64 x.Size) sca3 rfl ((hm44).cell rfl)) <| SR.g' rfl (r_mv (v := .int .i64 _) rfl) <| SR.g' rfl (r_mulW rfl rfl) <| SR.g' rfl (r_ne rfl rfl) <| SR.q' (r_pick false rfl (v := .bool _) rfl) <| SR.q' (r_mv (v := .bool _) rfl) <| SR.splitN (fun h71 => ?_) (fun h71 => ?_)
            · refine SR.s' rfl <| SR.s' rfl <| SR.s' rfl <| SR.s' rfl <| SR.u' rfl <| SR.u' rfl <| SR.u' rfl <| SR.s' rfl <| SR.q' (r_pick true rfl (v := .bool true) rfl) <| SR.nil ?_
              exact ⟨_, rfl, ⟨⟨rfl, rfl, (eDT (((jmf h71).trans (jmt h70)).1 trivial)), trivial⟩, (Lo.refl _)⟩⟩
            · refine SR.g' rfl (r_fa fa57_3 rfl) <| SR.g' rfl (r_ld (v := .int .i64 x.Fails) sca3 rfl ((hm44).cell rfl)) <| SR.g' rfl (r_eq rfl rfl) <| SR.g' rfl (r_mv (v := .bool _) rfl) <| SR.splitD (fun h72 => ?_) (fun h72 => ?_)
              · refine SR.g' rfl (r_fa fa57_0 rfl) <| SR.g' rfl (r_ld (v := .int .i64 x.State) sca3 rfl ((hm44).cell rfl)) <| SR.g' rfl (r_ne rfl rfl) <| SR.g' rfl (r_pick true rfl (v := .bool _) rfl) <| SR.q' (r_pick false rfl (v := .bool _) rfl) <| SR.nil ?_
                exact ⟨_, rfl, ⟨⟨rfl, rfl, (eND (((jat h72).trans (jmt h71)).trans (jmt h70))), trivial⟩, (Lo.refl _)⟩⟩
              · refine SR.s' rfl <| SR.s' rfl <| SR.s' rfl <| SR.g' rfl (r_pick false rfl (v := .bool false) rfl) <| SR.q' (r_pick false rfl (v := .bool _) rfl) <| SR.nil ?_
                exact ⟨_, rfl, ⟨⟨rfl, rfl, (eDF (((jaf h72).trans (jmt h71)).trans (jmt h70)).2), trivial⟩, (Lo.refl _)⟩⟩
        rintro f73 w74 ⟨hat75, hk76⟩
        rw [← sets_of_at hat75]
        have hz77 := hk76.size
        have hB78 := hB42.lo hk76
        refine W.cond_d rfl (fun h79 => ?_) (fun h79 => ?_)
        · refine W.seq ?_
          refine W.regS (SR.q' (r_as (v := .bool false) rfl) <| SR.nil ?_)
          refine W.ret ?_
          refine ret1 rfl (v := .bool _) rfl ?_
          exact ⟨eR (eDF (z_c_spec_l29Good_80 x nx_Tiles hbdx_Tiles hlex_Tiles h29 hq31 hq32 hq33 hq38 k hi46 h48 h79)), hB78⟩
        · have hq81 : x.Next = (takenN x.Tiles : Int) := (Classical.not_not.1 (not_or.1 h79).1)
          have hq82 : x.Size = (IntKind.i64.wrap (10 * (wsum (x.Tiles.take (takenN x.Tiles))))) := (Classical.not_not.1 (not_or.1 (not_or.1 h79).2).1)
          have hq83 : ¬ ((x.Fails = 3) ∧ (¬ (x.State = 2))) := (not_or.1 (not_or.1 h79).2).2
          refine W.skip ?_
          refine W.seq ?_
          refine W.seq ?_
          refine W.regS (SR.q' (r_fa fa57_0 rfl) <| SR.q' (r_ld (v := .int .i64 x.State) sca3 rfl (((hm44).lo hk76).cell rfl)) <| SR.nil ?_)
          refine W.block ?_
          refine W.seq ?_
          refine W.regS (SR.q' (r_eq rfl rfl) <| SR.q' (r_as (v := .bool _) rfl) <| SR.nil ?_)
          refine W.cond_d rfl (fun h84 => ?_) (fun h84 => ?_)
          · refine W.seq ?_
            refine W.regJS (fun f' w' => At f' [(2, .bool (decide (((takenN x.Tiles : Int) = 0) ∧ (x.Fails = 0))))] ∧ Lo w74 w') ?_ ?_
            · refine SR.q' (r_mv (v := .int .i64 _) rfl) <| SR.q' (r_eq rfl rfl) <| SR.q' (r_mv (v := .bool _) rfl) <| SR.splitD (fun h85 => ?_) (fun h85 => ?_)
              · refine SR.g' rfl (r_fa fa57_3 rfl) <| SR.g' rfl (r_ld (v := .int .i64 x.Fails) sca3 rfl (((hm44).lo hk76).cell rfl)) <| SR.g' rfl (r_eq rfl rfl) <| SR.q' (r_pick true rfl (v := .bool _) rfl) <| SR.q' (r_as (v := .bool _) rfl) <| SR.nil ?_
                exact ⟨_, rfl, ⟨⟨(eDD (jat h85)), trivial⟩, (Lo.refl _)⟩⟩
              · refine SR.s' rfl <| SR.s' rfl <| SR.s' rfl <| SR.q' (r_pick false rfl (v := .bool false) rfl) <| SR.q' (r_as (v := .bool _) rfl) <| SR.nil ?_
                exact ⟨_, rfl, ⟨⟨(eDF (jaf h85).2), trivial⟩, (Lo.refl _)⟩⟩
            rintro f86 w87 ⟨hat88, hk89⟩
            rw [← sets_of_at hat88]
            have hz90 := hk89.size
            have hB91 := hB78.lo hk89
            refine W.ret ?_
            refine ret1 rfl (v := .bool _) rfl ?_
            exact ⟨eR (eDD (z_c_spec_l29Good_92 x nx_Tiles hbdx_Tiles hlex_Tiles h29 hq31 hq32 hq33 hq38 k hi46 h48 h79 hq81 hq82 hq83 h84)), hB91⟩
          · refine W.seq ?_
            refine W.regS (SR.q' (r_eq rfl rfl) <| SR.q' (r_as (v := .bool _) rfl) <| SR.nil ?_)
            refine W.cond_d rfl (fun h93 => ?_) (fun h93 => ?_)
            · refine W.seq ?_
              refine W.regS (SR.q' (r_mv (v := .int .i64 _) rfl) <| SR.q' (r_fa fa57_1 rfl) <| SR.q' (r_ld (v := .slice Ax_Tiles nx_Tiles cx_Tiles) sca38 rfl (((hm44).lo hk76).cell rfl)) <| SR.q' (r_len und38 rfl) <| SR.q' (r_eq rfl rfl) <| SR.q' (r_as (v := .bool _) rfl) <| SR.nil ?_)
              refine W.ret ?_
              refine ret1 rfl (v := .bool _) rfl ?_
              exact ⟨eR (eDD (z_c_spec_l29Good_94 x nx_Tiles hbdx_Tiles hlex_Tiles h29 hq31 hq32 hq33 hq38 k hi46 h48 h79 hq81 hq82 hq83 h84 h93)), hB78⟩
            · refine W.skip ?_
              refine W.seq ?_
              refine W.regS (SR.q' (r_as (v := .bool true) rfl) <| SR.nil ?_)
              refine W.ret ?_
              refine ret1 rfl (v := .bool _) rfl ?_
              exact ⟨eR (eDT (z_c_spec_l29Good_95 x nx_Tiles hbdx_Tiles hlex_Tiles h29 hq31 hq32 hq33 hq38 k hi46 h48 h79 hq81 hq82 hq83 h84 h93)), hB78⟩
end Go.Proofs.YtlpapeeaghmjpaaDoor
