/- Walks, printed by a program of this claim's author. -/
import Derived.Test.YtgobbcilgcbkaaaDoorChecked
import Derived.Test.YtgobbcilgcbkaaaDoorUa
import Derived.Test.YtgobbcilgcbkaaaDoorFu
import Derived.Test.YtgobbcilgcbkaaaDoorFs
import Derived.Test.YtgobbcilgcbkaaaDoorFq
import Derived.Test.YtgobbcilgcbkaaaDoorFo
import Derived.Test.YtgobbcilgcbkaaaDoorDa
import Derived.Test.YtgobbcilgcbkaaaDoorG32b
namespace Go.Proofs.YtgobbcilgcbkaaaDoor
open Go Go.RowKit Fw
set_option maxRecDepth 10000
set_option maxHeartbeats 2000000
set_option linter.unusedVariables false
theorem agg27 : TAgg Tryd.prog 27 5 := ⟨fun _ => by kernel_rfl, fun _ => by kernel_rfl⟩
theorem agg57 : TAgg Tryd.prog 57 2 := ⟨fun _ => by kernel_rfl, fun _ => by kernel_rfl⟩
theorem ent27 : Ent Tryd.prog 27 := ent_of Tryd.func27 (by decide +kernel) rfl
theorem ent31 : Ent Tryd.prog 31 := ent_of Tryd.func31 (by decide +kernel) rfl
theorem ent33 : Ent Tryd.prog 33 := ent_of Tryd.func33 (by decide +kernel) rfl
theorem ent35 : Ent Tryd.prog 35 := ent_of Tryd.func35 (by decide +kernel) rfl
theorem ent36 : Ent Tryd.prog 36 := ent_of Tryd.func36 (by decide +kernel) rfl
theorem ent46 : Ent Tryd.prog 46 := ent_of Tryd.func46 (by decide +kernel) rfl
theorem ent48 : Ent Tryd.prog 48 := ent_of Tryd.func48 (by decide +kernel) rfl
theorem ent49 : Ent Tryd.prog 49 := ent_of Tryd.func49 (by decide +kernel) rfl
theorem ent50 : Ent Tryd.prog 50 := ent_of Tryd.func50 (by decide +kernel) rfl
theorem ent51 : Ent Tryd.prog 51 := ent_of Tryd.func51 (by decide +kernel) rfl
theorem ent52 : Ent Tryd.prog 52 := ent_of Tryd.func52 (by decide +kernel) rfl
theorem fa27_1 : FA Tryd.prog 27 1 1 := fun _ _ => by kernel_rfl
theorem fa27_2 : FA Tryd.prog 27 2 2 := fun _ _ => by kernel_rfl
theorem fa27_3 : FA Tryd.prog 27 3 3 := fun _ _ => by kernel_rfl
theorem fa27_4 : FA Tryd.prog 27 4 4 := fun _ _ => by kernel_rfl
theorem sca25 : TSca Tryd.prog 25 := ⟨fun _ => by kernel_rfl, fun _ => by kernel_rfl⟩
theorem tsl25 : TSl Tryd.prog 25 57 2 := ⟨by kernel_rfl, fun _ => by kernel_rfl⟩
theorem tz57 : TZ Tryd.prog 57 (.agg (List.toArray [.int .i64 0, .int .i64 0])) := fun _ => by kernel_rfl
theorem und25 : Tryd.prog.underlying 25 = some (.slice 57) := by kernel_rfl

theorem c_spec_l32Map (w : World) (x : Library) {Ax_Maps : Option Addr} {nx_Maps cx_Maps Bx_Maps : Nat} (hx_Maps : SlR w Bx_Maps encLMap 3 Ax_Maps nx_Maps cx_Maps x.Maps) {Ax_Away : Option Addr} {nx_Away cx_Away Bx_Away : Nat} (hx_Away : SlR w Bx_Away encAway 2 Ax_Away nx_Away cx_Away x.Away) (id : Int) : Calls Tryd.prog 31 #[.agg (List.toArray [.slice Ax_Maps nx_Maps cx_Maps, .slice Ax_Away nx_Away cx_Away, .int .i64 x.Bought, .int .i64 x.Dropped, .int .i64 x.Mended]), .int .i64 id] w fun e w' => e = .returned (.int .i64 (idxF (hasId id) x.Maps)) ∧ Lo w w' := by
  refine calls_W 22 Tryd.func31 rfl rfl rfl ?_
  have hbdx_Maps := hx_Maps.bound
  have hlex_Maps := hx_Maps.len
  have hBbx_Maps := hx_Maps.bd
  have hbdx_Away := hx_Away.bound
  have hlex_Away := hx_Away.len
  have hBbx_Away := hx_Away.bd
  refine W.seq ?_
  refine W.regS (SR.box (v := .agg (List.toArray _)) (l := [.slice Ax_Maps nx_Maps cx_Maps, .slice Ax_Away nx_Away cx_Away, .int .i64 x.Bought, .int .i64 x.Dropped, .int .i64 x.Mended]) rfl rfl ?_)
  intro g1 w2 hg3 hk4 hs5 hb6
  have hz7 := hk4.size
  have hB8 := (Lo.refl w).lo hk4
  refine SR.q' (r_as (v := .int .i64 0) rfl) <| SR.nil ?_
  refine W.seq ?_
  refine W.seq ?_
  refine W.regS (SR.q' (r_as (v := .int .i64 0) rfl) <| SR.nil ?_)
  refine W.block ?_
  refine W.loop (σ := Nat) (fun g => [(1, .int .i64 id), (2, .pointer (pA g1)), (5, .int .i64 (g : Int))]) (fun g w' => (Lo w w') ∧ (Blk w' g1 27 [.slice Ax_Maps nx_Maps cx_Maps, .slice Ax_Away nx_Away cx_Away, .int .i64 x.Bought, .int .i64 x.Dropped, .int .i64 x.Mended]) ∧ (SlR w' Bx_Maps encLMap 3 Ax_Maps nx_Maps cx_Maps x.Maps) ∧ (SlR w' Bx_Away encAway 2 Ax_Away nx_Away cx_Away x.Away) ∧ (g ≤ nx_Maps ∧ NoneTo (hasId id) x.Maps g)) (fun g => nx_Maps - g) 0 ?_ ?_ ?_
  · exact ⟨rfl, rfl, rfl, trivial⟩
  · exact ⟨hB8, hb6, (hx_Maps).lo hk4, (hx_Away).lo hk4, (by exact ⟨Nat.zero_le _, NoneTo.zero⟩)⟩
  · rintro k f9 w10 hP12
    obtain ⟨hB11, hm13, hm14, hm15, hi16⟩ : (Lo w w10) ∧ (Blk w10 g1 27 [.slice Ax_Maps nx_Maps cx_Maps, .slice Ax_Away nx_Away cx_Away, .int .i64 x.Bought, .int .i64 x.Dropped, .int .i64 x.Mended]) ∧ (SlR w10 Bx_Maps encLMap 3 Ax_Maps nx_Maps cx_Maps x.Maps) ∧ (SlR w10 Bx_Away encAway 2 Ax_Away nx_Away cx_Away x.Away) ∧ (k ≤ nx_Maps ∧ NoneTo (hasId id) x.Maps k) := hP12
    refine (?_ : W _ _ _ _ _ (act _ (sets f9 [(1, .int .i64 id), (2, .pointer (pA g1)), (5, .int .i64 (k : Int))])) _)
    have hzw10 := hB11.size
    have hl17 := hm13.lt
    refine W.seq ?_
    refine W.seq ?_
    refine W.regS (SR.q' (r_mv (v := .int .i64 _) rfl) <| SR.q' (r_fa fa27_0 rfl) <| SR.q' (r_ld (v := .slice Ax_Maps nx_Maps cx_Maps) sca24 rfl ((hm13).cell rfl)) <| SR.q' (r_len und24 rfl) <| SR.q' (r_lt rfl rfl) <| SR.nil ?_)
    refine W.cond_d rfl (fun h18 => ?_) (fun h18 => ?_)
    · refine W.skip ?_
      refine W.seq ?_
      refine W.block ?_
      refine W.seq ?_
      refine W.regS (SR.q' (r_fa fa27_0 rfl) <| SR.q' (r_ld (v := .slice Ax_Maps nx_Maps cx_Maps) sca24 rfl ((hm13).cell rfl)) <| SR.q' (r_mv (v := .int .i64 _) rfl) <| ?_)
      have hx20 := (hm14).elem (i := k) (by omega)
      refine SR.q' (r_ixR tsl24 (hm14) rfl rfl (by omega)) <| SR.q' (r_fa fa48_0 rfl) <| SR.q' (r_ld (v := .int .i64 ((gt x.Maps k).Id)) sca3 rfl ((hm14).cell hx20 rfl)) <| SR.q' (r_mv (v := .int .i64 _) rfl) <| SR.q' (r_eq rfl rfl) <| SR.nil ?_
      refine W.cond_d rfl (fun h21 => ?_) (fun h21 => ?_)
      · refine W.seq ?_
        refine W.regS (SR.q' (r_mv (v := .int .i64 _) rfl) <| SR.q' (r_as (v := .int .i64 _) rfl) <| SR.nil ?_)
        refine W.ret ?_
        refine ret1 rfl (v := .int .i64 _) rfl ?_
        exact ⟨eR (eI (by first | exact idx_at (And.right ‹_ ∧ NoneTo _ _ _›) ‹x.Maps[k]? = some _› (by simpa [hasId] using ‹_›) | exact idx_no (And.right ‹_ ∧ NoneTo _ _ _›) hlex_Maps ‹_›)), hB11⟩
      · refine W.skip ?_
        refine W.regS (SR.q' (r_mv (v := .int .i64 _) rfl) <| SR.q' (r_add rfl rfl (by omega)) <| SR.q' (r_as (v := .int .i64 _) rfl) <| SR.nil ?_)
        refine ⟨k + 1, _, rfl, ⟨rfl, rfl, rfl, trivial⟩, ⟨hB11, hm13, hm14, hm15, ?_⟩, ?_⟩
        · exact (by exact ⟨by omega, NoneTo.next (And.right ‹_ ∧ NoneTo _ _ _›) ‹x.Maps[k]? = some _› (by simpa [hasId] using ‹_›)⟩)
        · exact (by omega)
    · refine W.exit (xin_here ?_)
      refine W.seq ?_
      refine W.regS (SR.q' (r_as (v := .int .i64 (-1)) rfl) <| SR.nil ?_)
      refine W.ret ?_
      refine ret1 rfl (v := .int .i64 _) rfl ?_
      exact ⟨eR (eI (by first | exact idx_at (And.right ‹_ ∧ NoneTo _ _ _›) ‹x.Maps[k]? = some _› (by simpa [hasId] using ‹_›) | exact idx_no (And.right ‹_ ∧ NoneTo _ _ _›) hlex_Maps ‹_›)), hB11⟩

theorem c_spec_l32Maps (w : World) (x : Library) {Ax_Maps : Option Addr} {nx_Maps cx_Maps Bx_Maps : Nat} (hx_Maps : SlR w Bx_Maps encLMap 3 Ax_Maps nx_Maps cx_Maps x.Maps) {Ax_Away : Option Addr} {nx_Away cx_Away Bx_Away : Nat} (hx_Away : SlR w Bx_Away encAway 2 Ax_Away nx_Away cx_Away x.Away) : Calls Tryd.prog 50 #[.agg (List.toArray [.slice Ax_Maps nx_Maps cx_Maps, .slice Ax_Away nx_Away cx_Away, .int .i64 x.Bought, .int .i64 x.Dropped, .int .i64 x.Mended])] w fun e w' => e = .returned (.bool (decide (MapsOK x.Maps ∧ x.Maps.length ≤ 8))) ∧ Lo w w' := by
  refine calls_W 55 Tryd.func50 rfl rfl rfl ?_
  have hbdx_Maps := hx_Maps.bound
  have hlex_Maps := hx_Maps.len
  have hBbx_Maps := hx_Maps.bd
  have hbdx_Away := hx_Away.bound
  have hlex_Away := hx_Away.len
  have hBbx_Away := hx_Away.bd
  refine W.seq ?_
  refine W.regS (SR.box (v := .agg (List.toArray _)) (l := [.slice Ax_Maps nx_Maps cx_Maps, .slice Ax_Away nx_Away cx_Away, .int .i64 x.Bought, .int .i64 x.Dropped, .int .i64 x.Mended]) rfl rfl ?_)
  intro g1 w2 hg3 hk4 hs5 hb6
  have hz7 := hk4.size
  have hB8 := (Lo.refl w).lo hk4
  refine SR.q' (r_as (v := .bool false) rfl) <| SR.nil ?_
  refine W.seq ?_
  refine W.seq ?_
  refine W.regS (SR.q' (r_as (v := .int .i64 0) rfl) <| SR.nil ?_)
  refine W.block ?_
  refine W.loop (σ := Nat) (fun g => [(1, .pointer (pA g1)), (3, .int .i64 (g : Int))]) (fun g w' => (Lo w w') ∧ (Blk w' g1 27 [.slice Ax_Maps nx_Maps cx_Maps, .slice Ax_Away nx_Away cx_Away, .int .i64 x.Bought, .int .i64 x.Dropped, .int .i64 x.Mended]) ∧ (SlR w' Bx_Maps encLMap 3 Ax_Maps nx_Maps cx_Maps x.Maps) ∧ (SlR w' Bx_Away encAway 2 Ax_Away nx_Away cx_Away x.Away) ∧ (g ≤ nx_Maps ∧ MTo x.Maps g)) (fun g => nx_Maps - g) 0 ?_ ?_ ?_
  · exact ⟨rfl, rfl, trivial⟩
  · exact ⟨hB8, hb6, (hx_Maps).lo hk4, (hx_Away).lo hk4, (by exact ⟨Nat.zero_le _, MTo.zero⟩)⟩
  · rintro k f9 w10 hP12
    obtain ⟨hB11, hm13, hm14, hm15, hi16⟩ : (Lo w w10) ∧ (Blk w10 g1 27 [.slice Ax_Maps nx_Maps cx_Maps, .slice Ax_Away nx_Away cx_Away, .int .i64 x.Bought, .int .i64 x.Dropped, .int .i64 x.Mended]) ∧ (SlR w10 Bx_Maps encLMap 3 Ax_Maps nx_Maps cx_Maps x.Maps) ∧ (SlR w10 Bx_Away encAway 2 Ax_Away nx_Away cx_Away x.Away) ∧ (k ≤ nx_Maps ∧ MTo x.Maps k) := hP12
    refine (?_ : W _ _ _ _ _ (act _ (sets f9 [(1, .pointer (pA g1)), (3, .int .i64 (k : Int))])) _)
    have hzw10 := hB11.size
    have hl17 := hm13.lt
    refine W.seq ?_
    refine W.seq ?_
    refine W.regS (SR.q' (r_mv (v := .int .i64 _) rfl) <| SR.q' (r_fa fa27_0 rfl) <| SR.q' (r_ld (v := .slice Ax_Maps nx_Maps cx_Maps) sca24 rfl ((hm13).cell rfl)) <| SR.q' (r_len und24 rfl) <| SR.q' (r_lt rfl rfl) <| SR.nil ?_)
    refine W.cond_d rfl (fun h18 => ?_) (fun h18 => ?_)
    · refine W.skip ?_
      refine W.seq ?_
      refine W.block ?_
      refine W.seq ?_
      refine W.regS (SR.q' (r_fa fa27_0 rfl) <| SR.q' (r_ld (v := .slice Ax_Maps nx_Maps cx_Maps) sca24 rfl ((hm13).cell rfl)) <| SR.q' (r_mv (v := .int .i64 _) rfl) <| ?_)
      have hx20 := (hm14).elem (i := k) (by omega)
      refine SR.q' (r_ixR tsl24 (hm14) rfl rfl (by omega)) <| SR.q' (r_lda (l := encLMap (gt x.Maps k)) agg48 rfl (fun _ _ hu => (hm14).cell hx20 hu) ((hm14).esz _)) <| SR.alloc (l := [.int .i64 0, .int .i64 0, .int .i64 0]) tz48 rfl ?_
      intro g21 w22 hg23 hk24 hs25 hb26
      have hz27 := hk24.size
      have hB28 := hB11.lo hk24
      refine SR.store (o := 0) (vs := [.int .i64 ((gt x.Maps k).Id), .int .i64 ((gt x.Maps k).Copies), .int .i64 ((gt x.Maps k).Torn)]) agg48.2 rfl rfl rfl rfl (hb26) (Nat.le_of_ble_eq_true rfl) rfl ?_
      intro w29 hk30 hs31 hb32
      have hz33 := hk30.size
      have hB34 := hB28.new hk30 (by omega)
      refine SR.nil ?_
      refine W.seq ?_
      have hm35 := ((hm13).lo hk24).kn hk30 (by omega)
      have hm36 := ((hm14).lo hk24).kn hk30 (by omega)
      have hm37 := ((hm15).lo hk24).kn hk30 (by omega)
      refine W.regJD mo (by kernel_rfl) (fun f' w' => At f' [(1, .pointer (pA g1)), (3, .int .i64 (k : Int)), (50, .bool (decide ((¬ (1 ≤ ((gt x.Maps k).Id) ∧ ((gt x.Maps k).Id) ≤ 99)) ∨ ((¬ (0 ≤ ((gt x.Maps k).Copies) ∧ ((gt x.Maps k).Copies) ≤ 99)) ∨ ((¬ (0 ≤ ((gt x.Maps k).Torn) ∧ ((gt x.Maps k).Torn) ≤ ((gt x.Maps k).Copies))) ∨ ((0 < (k : Int)) ∧ (((gt x.Maps k).Id) ≤ ((gt x.Maps (k - 1)).Id))))))))] ∧ Lo w29 w') ?_ ?_
      · refine QR.q' (fun w' hw' => r_fa fa48_0 rfl) <| QR.q' (fun w' hw' => r_ld (v := .int .i64 ((gt x.Maps k).Id)) sca3 rfl (((hb32).lo hw').cell rfl)) <| QR.call ent37 (fun w' hw' => (c_spec_l1In w' ((gt x.Maps k).Id) 1 99).mono fun _ _ h => ⟨h.1, hw'.trans h.2⟩) rfl <| QR.q' (fun w' hw' => r_not rfl) <| QR.q' (fun w' hw' => r_mv (v := .bool _) rfl) <| QR.splitN (fun h38 => ?_) (fun h38 => ?_)
        · refine QR.s' rfl <| QR.s' rfl <| QR.s' rfl <| QR.s' rfl <| QR.q' (fun w' hw' => r_pick true rfl (v := .bool true) rfl) <| QR.q' (fun w' hw' => r_mv (v := .bool _) rfl) <| QR.s' rfl <| QR.s' rfl <| QR.s' rfl <| QR.s' rfl <| QR.s' rfl <| QR.s' rfl <| QR.q' (fun w' hw' => r_pick true rfl (v := .bool true) rfl) <| QR.q' (fun w' hw' => r_mv (v := .bool _) rfl) <| QR.s' rfl <| QR.s' rfl <| QR.s' rfl <| QR.u' rfl <| QR.u' rfl <| QR.u' rfl <| QR.u' rfl <| QR.u' rfl <| QR.u' rfl <| QR.u' rfl <| QR.u' rfl <| QR.u' rfl <| QR.u' rfl <| QR.s' rfl <| QR.q' (fun w' hw' => r_pick true rfl (v := .bool true) rfl) <| QR.nil ?_
          intro w39 hk40
          exact ⟨⟨rfl, rfl, (eDT ((jmf h38).1 trivial)), trivial⟩, hk40⟩
        · refine QR.g' rfl (fun w' hw' => r_fa fa48_1 rfl) <| QR.g' rfl (fun w' hw' => r_ld (v := .int .i64 ((gt x.Maps k).Copies)) sca3 rfl (((hb32).lo hw').cell rfl)) <| QR.gcall rfl ent37 (fun w' hw' => (c_spec_l1In w' ((gt x.Maps k).Copies) 0 99).mono fun _ _ h => ⟨h.1, hw'.trans h.2⟩) rfl <| QR.g' rfl (fun w' hw' => r_not rfl) <| QR.q' (fun w' hw' => r_pick false rfl (v := .bool _) rfl) <| QR.q' (fun w' hw' => r_mv (v := .bool _) rfl) <| QR.splitN (fun h41 => ?_) (fun h41 => ?_)
          · refine QR.s' rfl <| QR.s' rfl <| QR.s' rfl <| QR.s' rfl <| QR.s' rfl <| QR.s' rfl <| QR.q' (fun w' hw' => r_pick true rfl (v := .bool true) rfl) <| QR.q' (fun w' hw' => r_mv (v := .bool _) rfl) <| QR.s' rfl <| QR.s' rfl <| QR.s' rfl <| QR.u' rfl <| QR.u' rfl <| QR.u' rfl <| QR.u' rfl <| QR.u' rfl <| QR.u' rfl <| QR.u' rfl <| QR.u' rfl <| QR.u' rfl <| QR.u' rfl <| QR.s' rfl <| QR.q' (fun w' hw' => r_pick true rfl (v := .bool true) rfl) <| QR.nil ?_
            intro w42 hk43
            exact ⟨⟨rfl, rfl, (eDT (((jmf h41).trans (jmt h38)).1 trivial)), trivial⟩, hk43⟩
          · refine QR.g' rfl (fun w' hw' => r_fa fa48_2 rfl) <| QR.g' rfl (fun w' hw' => r_ld (v := .int .i64 ((gt x.Maps k).Torn)) sca3 rfl (((hb32).lo hw').cell rfl)) <| QR.g' rfl (fun w' hw' => r_fa fa48_1 rfl) <| QR.g' rfl (fun w' hw' => r_ld (v := .int .i64 ((gt x.Maps k).Copies)) sca3 rfl (((hb32).lo hw').cell rfl)) <| QR.gcall rfl ent37 (fun w' hw' => (c_spec_l1In w' ((gt x.Maps k).Torn) 0 ((gt x.Maps k).Copies)).mono fun _ _ h => ⟨h.1, hw'.trans h.2⟩) rfl <| QR.g' rfl (fun w' hw' => r_not rfl) <| QR.q' (fun w' hw' => r_pick false rfl (v := .bool _) rfl) <| QR.q' (fun w' hw' => r_mv (v := .bool _) rfl) <| QR.splitN (fun h44 => ?_) (fun h44 => ?_)
            · refine QR.s' rfl <| QR.s' rfl <| QR.s' rfl <| QR.u' rfl <| QR.u' rfl <| QR.u' rfl <| QR.u' rfl <| QR.u' rfl <| QR.u' rfl <| QR.u' rfl <| QR.u' rfl <| QR.u' rfl <| QR.u' rfl <| QR.s' rfl <| QR.q' (fun w' hw' => r_pick true rfl (v := .bool true) rfl) <| QR.nil ?_
              intro w45 hk46
              exact ⟨⟨rfl, rfl, (eDT ((((jmf h44).trans (jmt h41)).trans (jmt h38)).1 trivial)), trivial⟩, hk46⟩
            · refine QR.g' rfl (fun w' hw' => r_mv (v := .int .i64 _) rfl) <| QR.g' rfl (fun w' hw' => r_gt rfl rfl) <| QR.g' rfl (fun w' hw' => r_mv (v := .bool _) rfl) <| QR.splitD (fun h47 => ?_) (fun h47 => ?_)
              · refine QR.g' rfl (fun w' hw' => r_fa fa27_0 rfl) <| QR.g' rfl (fun w' hw' => r_ld (v := .slice Ax_Maps nx_Maps cx_Maps) sca24 rfl (((hm35).lo hw').cell rfl)) <| QR.g' rfl (fun w' hw' => r_mv (v := .int .i64 _) rfl) <| QR.g' rfl (fun w' hw' => r_sub rfl rfl (by omega)) <| ?_
                have hx49 := (hm36).elem (i := ((k : Int) - 1).toNat) (by omega)
                rw [show ((k : Int) - 1).toNat = k - 1 from by omega] at hx49
                have hx50 : x.Maps[((k : Int) - 1).toNat]? = some (gt x.Maps (k - 1)) := (show ((k : Int) - 1).toNat = k - 1 from by omega) ▸ hx49
                refine QR.g' rfl (fun w' hw' => r_ixR tsl24 (((hm36).lo hw')) rfl rfl (by omega)) <| QR.g' rfl (fun w' hw' => r_fa fa48_0 rfl) <| QR.g' rfl (fun w' hw' => r_ld (v := .int .i64 ((gt x.Maps (k - 1)).Id)) sca3 rfl ((((hm36).lo hw')).cell hx50 rfl)) <| QR.g' rfl (fun w' hw' => r_fa fa48_0 rfl) <| QR.g' rfl (fun w' hw' => r_ld (v := .int .i64 ((gt x.Maps k).Id)) sca3 rfl (((hb32).lo hw').cell rfl)) <| QR.g' rfl (fun w' hw' => r_ge rfl rfl) <| QR.g' rfl (fun w' hw' => r_pick true rfl (v := .bool _) rfl) <| QR.q' (fun w' hw' => r_pick false rfl (v := .bool _) rfl) <| QR.nil ?_
                intro w51 hk52
                exact ⟨⟨rfl, rfl, (eDD ((((jat h47).trans (jmt h44)).trans (jmt h41)).trans (jmt h38))), trivial⟩, hk52⟩
              · refine QR.s' rfl <| QR.s' rfl <| QR.s' rfl <| QR.s' rfl <| QR.s' rfl <| QR.s' rfl <| QR.s' rfl <| QR.s' rfl <| QR.s' rfl <| QR.s' rfl <| QR.g' rfl (fun w' hw' => r_pick false rfl (v := .bool false) rfl) <| QR.q' (fun w' hw' => r_pick false rfl (v := .bool _) rfl) <| QR.nil ?_
                intro w53 hk54
                exact ⟨⟨rfl, rfl, (eDF ((((jaf h47).trans (jmt h44)).trans (jmt h41)).trans (jmt h38)).2), trivial⟩, hk54⟩
      rintro f55 w56 ⟨hat57, hk58⟩
      rw [← sets_of_at hat57]
      have hz59 := hk58.size
      have hB60 := hB34.lo hk58
      refine W.cond_d rfl (fun h61 => ?_) (fun h61 => ?_)
      · refine W.seq ?_
        refine W.regS (SR.q' (r_as (v := .bool false) rfl) <| SR.nil ?_)
        refine W.ret ?_
        refine ret1 rfl (v := .bool _) rfl ?_
        exact ⟨eR (eDF (by subst hlex_Maps; first | exact (fun hh => hh.1 k (by omega) ‹_›) | (have h1 := MTo.end_ (And.right ‹_ ∧ MTo _ _›) (by omega); exact ⟨fun h => ⟨h1, by omega⟩, fun h => by omega⟩))), hB60⟩
      · have hq62 : 1 ≤ ((gt x.Maps k).Id) ∧ ((gt x.Maps k).Id) ≤ 99 := (Classical.not_not.1 (not_or.1 h61).1)
        have hq63 : 0 ≤ ((gt x.Maps k).Copies) ∧ ((gt x.Maps k).Copies) ≤ 99 := (Classical.not_not.1 (not_or.1 (not_or.1 h61).2).1)
        have hq64 : 0 ≤ ((gt x.Maps k).Torn) ∧ ((gt x.Maps k).Torn) ≤ ((gt x.Maps k).Copies) := (Classical.not_not.1 (not_or.1 (not_or.1 (not_or.1 h61).2).2).1)
        have hq65 : ¬ ((0 < (k : Int)) ∧ (((gt x.Maps k).Id) ≤ ((gt x.Maps (k - 1)).Id))) := (not_or.1 (not_or.1 (not_or.1 h61).2).2).2
        refine W.skip ?_
        refine W.regS (SR.q' (r_mv (v := .int .i64 _) rfl) <| SR.q' (r_add rfl rfl (by omega)) <| SR.q' (r_as (v := .int .i64 _) rfl) <| SR.nil ?_)
        refine ⟨k + 1, _, rfl, ⟨rfl, rfl, trivial⟩, ⟨hB60, (hm35).lo hk58, (hm36).lo hk58, (hm37).lo hk58, ?_⟩, ?_⟩
        · exact (by exact ⟨by omega, MTo.next (And.right ‹_ ∧ MTo _ _›) ‹_›⟩)
        · exact (by omega)
    · refine W.exit (xin_here ?_)
      refine W.seq ?_
      refine W.regS (SR.q' (r_fa fa27_0 rfl) <| SR.q' (r_ld (v := .slice Ax_Maps nx_Maps cx_Maps) sca24 rfl ((hm13).cell rfl)) <| SR.q' (r_len und24 rfl) <| SR.q' (r_le rfl rfl) <| SR.q' (r_as (v := .bool _) rfl) <| SR.nil ?_)
      refine W.ret ?_
      refine ret1 rfl (v := .bool _) rfl ?_
      exact ⟨eR (eDD (by subst hlex_Maps; first | exact (fun hh => hh.1 k (by omega) ‹_›) | (have h1 := MTo.end_ (And.right ‹_ ∧ MTo _ _›) (by omega); exact ⟨fun h => ⟨h1, by omega⟩, fun h => by omega⟩))), hB11⟩

theorem c_spec_l32Lent (w : World) (x : Library) {Ax_Maps : Option Addr} {nx_Maps cx_Maps Bx_Maps : Nat} (hx_Maps : SlR w Bx_Maps encLMap 3 Ax_Maps nx_Maps cx_Maps x.Maps) {Ax_Away : Option Addr} {nx_Away cx_Away Bx_Away : Nat} (hx_Away : SlR w Bx_Away encAway 2 Ax_Away nx_Away cx_Away x.Away) : Calls Tryd.prog 51 #[.agg (List.toArray [.slice Ax_Maps nx_Maps cx_Maps, .slice Ax_Away nx_Away cx_Away, .int .i64 x.Bought, .int .i64 x.Dropped, .int .i64 x.Mended])] w fun e w' => e = .returned (.bool (decide (AwayOK x.Maps x.Away ∧ x.Away.length ≤ 8))) ∧ Lo w w' := by
  refine calls_W 70 Tryd.func51 rfl rfl rfl ?_
  have hbdx_Maps := hx_Maps.bound
  have hlex_Maps := hx_Maps.len
  have hBbx_Maps := hx_Maps.bd
  have hbdx_Away := hx_Away.bound
  have hlex_Away := hx_Away.len
  have hBbx_Away := hx_Away.bd
  refine W.seq ?_
  refine W.regS (SR.box (v := .agg (List.toArray _)) (l := [.slice Ax_Maps nx_Maps cx_Maps, .slice Ax_Away nx_Away cx_Away, .int .i64 x.Bought, .int .i64 x.Dropped, .int .i64 x.Mended]) rfl rfl ?_)
  intro g1 w2 hg3 hk4 hs5 hb6
  have hz7 := hk4.size
  have hB8 := (Lo.refl w).lo hk4
  refine SR.q' (r_as (v := .bool false) rfl) <| SR.nil ?_
  refine W.seq ?_
  refine W.seq ?_
  refine W.regS (SR.q' (r_as (v := .int .i64 0) rfl) <| SR.nil ?_)
  refine W.block ?_
  refine W.loop (σ := Nat) (fun g => [(1, .pointer (pA g1)), (3, .int .i64 (g : Int))]) (fun g w' => (Lo w w') ∧ (Blk w' g1 27 [.slice Ax_Maps nx_Maps cx_Maps, .slice Ax_Away nx_Away cx_Away, .int .i64 x.Bought, .int .i64 x.Dropped, .int .i64 x.Mended]) ∧ (SlR w' Bx_Maps encLMap 3 Ax_Maps nx_Maps cx_Maps x.Maps) ∧ (SlR w' Bx_Away encAway 2 Ax_Away nx_Away cx_Away x.Away) ∧ (g ≤ nx_Away ∧ ATo x.Maps x.Away g)) (fun g => nx_Away - g) 0 ?_ ?_ ?_
  · exact ⟨rfl, rfl, trivial⟩
  · exact ⟨hB8, hb6, (hx_Maps).lo hk4, (hx_Away).lo hk4, (by exact ⟨Nat.zero_le _, ATo.zero⟩)⟩
  · rintro k f9 w10 hP12
    obtain ⟨hB11, hm13, hm14, hm15, hi16⟩ : (Lo w w10) ∧ (Blk w10 g1 27 [.slice Ax_Maps nx_Maps cx_Maps, .slice Ax_Away nx_Away cx_Away, .int .i64 x.Bought, .int .i64 x.Dropped, .int .i64 x.Mended]) ∧ (SlR w10 Bx_Maps encLMap 3 Ax_Maps nx_Maps cx_Maps x.Maps) ∧ (SlR w10 Bx_Away encAway 2 Ax_Away nx_Away cx_Away x.Away) ∧ (k ≤ nx_Away ∧ ATo x.Maps x.Away k) := hP12
    refine (?_ : W _ _ _ _ _ (act _ (sets f9 [(1, .pointer (pA g1)), (3, .int .i64 (k : Int))])) _)
    have hzw10 := hB11.size
    have hl17 := hm13.lt
    refine W.seq ?_
    refine W.seq ?_
    refine W.regS (SR.q' (r_mv (v := .int .i64 _) rfl) <| SR.q' (r_fa fa27_1 rfl) <| SR.q' (r_ld (v := .slice Ax_Away nx_Away cx_Away) sca25 rfl ((hm13).cell rfl)) <| SR.q' (r_len und25 rfl) <| SR.q' (r_lt rfl rfl) <| SR.nil ?_)
    refine W.cond_d rfl (fun h18 => ?_) (fun h18 => ?_)
    · refine W.skip ?_
      refine W.seq ?_
      refine W.block ?_
      refine W.seq ?_
      refine W.regS (SR.q' (r_fa fa27_1 rfl) <| SR.q' (r_ld (v := .slice Ax_Away nx_Away cx_Away) sca25 rfl ((hm13).cell rfl)) <| SR.q' (r_mv (v := .int .i64 _) rfl) <| ?_)
      have hx20 := (hm15).elem (i := k) (by omega)
      refine SR.q' (r_ixR tsl25 (hm15) rfl rfl (by omega)) <| SR.q' (r_lda (l := encAway (gt x.Away k)) agg57 rfl (fun _ _ hu => (hm15).cell hx20 hu) ((hm15).esz _)) <| SR.alloc (l := [.int .i64 0, .int .i64 0]) tz57 rfl ?_
      intro g21 w22 hg23 hk24 hs25 hb26
      have hz27 := hk24.size
      have hB28 := hB11.lo hk24
      refine SR.store (o := 0) (vs := [.int .i64 ((gt x.Away k).Map), .int .i64 ((gt x.Away k).Reader)]) agg57.2 rfl rfl rfl rfl (hb26) (Nat.le_of_ble_eq_true rfl) rfl ?_
      intro w29 hk30 hs31 hb32
      have hz33 := hk30.size
      have hB34 := hB28.new hk30 (by omega)
      refine SR.nil ?_
      refine W.seq ?_
      refine W.seq ?_
      have hm35 := ((hm13).lo hk24).kn hk30 (by omega)
      have hm36 := ((hm14).lo hk24).kn hk30 (by omega)
      have hm37 := ((hm15).lo hk24).kn hk30 (by omega)
      refine W.regJS (fun f' w' => At f' [(1, .pointer (pA g1)), (3, .int .i64 (k : Int)), (4, .pointer (pA g21)), (27, .bool (decide (((idxF (hasId ((gt x.Away k).Map)) x.Maps) < 0) ∨ (¬ (1 ≤ ((gt x.Away k).Reader) ∧ ((gt x.Away k).Reader) ≤ 999)))))] ∧ Lo w29 w' ∧ (idxF (hasId ((gt x.Away k).Map)) x.Maps < (x.Maps.length : Int) ∧ -1 ≤ idxF (hasId ((gt x.Away k).Map)) x.Maps)) ?_ ?_
      · refine SR.q' (r_lda (l := [.slice Ax_Maps nx_Maps cx_Maps, .slice Ax_Away nx_Away cx_Away, .int .i64 x.Bought, .int .i64 x.Dropped, .int .i64 x.Mended]) agg27 rfl (fun _ _ hu => (hm35).cell hu) rfl) <| SR.q' (r_fa fa57_0 rfl) <| SR.q' (r_ld (v := .int .i64 ((gt x.Away k).Map)) sca3 rfl ((hb32).cell rfl)) <| SR.call ent31 (c_spec_l32Map w29 x ((hm36)) ((hm37)) ((gt x.Away k).Map)) rfl ?_
        rintro e w38 ⟨rfl, hk39⟩
        refine ⟨_, rfl, ?_⟩
        have hz40 := hk39.size
        have hB41 := hB34.lo hk39
        have hq42 : idxF (hasId ((gt x.Away k).Map)) x.Maps < (x.Maps.length : Int) ∧ -1 ≤ idxF (hasId ((gt x.Away k).Map)) x.Maps := idx_lt
        refine SR.q' (r_lt rfl rfl) <| SR.q' (r_mv (v := .bool _) rfl) <| SR.splitD (fun h43 => ?_) (fun h43 => ?_)
        · refine SR.s' rfl <| SR.s' rfl <| SR.s' rfl <| SR.s' rfl <| SR.q' (r_pick true rfl (v := .bool true) rfl) <| SR.nil ?_
          exact ⟨_, rfl, ⟨⟨rfl, rfl, rfl, (eDT ((jot h43).1 trivial)), trivial⟩, (hk39), hq42⟩⟩
        · have hq44 := Int.not_lt.1 h43
          refine SR.g' rfl (r_fa fa57_1 rfl) <| SR.g' rfl (r_ld (v := .int .i64 ((gt x.Away k).Reader)) sca3 rfl (((hb32).lo hk39).cell rfl)) <| SR.gcall rfl ent37 (c_spec_l1In w38 ((gt x.Away k).Reader) 1 999) rfl ?_
          rintro e w45 ⟨rfl, hk46⟩
          refine ⟨_, rfl, ?_⟩
          have hz47 := hk46.size
          have hB48 := hB41.lo hk46
          refine SR.g' rfl (r_not rfl) <| SR.q' (r_pick false rfl (v := .bool _) rfl) <| SR.nil ?_
          exact ⟨_, rfl, ⟨⟨rfl, rfl, rfl, (eND (jof h43)), trivial⟩, ((hk39).trans hk46), hq42⟩⟩
      rintro f49 w50 ⟨hat51, hk52, hq53⟩
      rw [← sets_of_at hat51]
      have hz54 := hk52.size
      have hB55 := hB34.lo hk52
      refine W.cond_d rfl (fun h56 => ?_) (fun h56 => ?_)
      · refine W.seq ?_
        refine W.regS (SR.q' (r_as (v := .bool false) rfl) <| SR.nil ?_)
        refine W.ret ?_
        refine ret1 rfl (v := .bool _) rfl ?_
        exact ⟨eR (eDF (by subst hlex_Away; first | exact (fun hh => hh.1 k (by omega) (a_bad1 ‹_›)) | exact (fun hh => hh.1 k (by omega) (a_bad2 ‹_›)) | (have h1 := ATo.end_ (And.right ‹_ ∧ ATo _ _ _›) (by omega); exact ⟨fun h => ⟨h1, by omega⟩, fun h => by omega⟩))), hB55⟩
      · have hq57 : ¬ ((idxF (hasId ((gt x.Away k).Map)) x.Maps) < 0) := (not_or.1 h56).1
        have hq58 : 1 ≤ ((gt x.Away k).Reader) ∧ ((gt x.Away k).Reader) ≤ 999 := (Classical.not_not.1 (not_or.1 h56).2)
        have hq59 := Int.not_lt.1 hq57
        refine W.skip ?_
        refine W.seq ?_
        refine W.regJD mo (by kernel_rfl) (fun f' w' => At f' [(1, .pointer (pA g1)), (3, .int .i64 (k : Int)), (65, .bool (decide ((0 < (k : Int)) ∧ ((((gt x.Away k).Map) < ((gt x.Away (k - 1)).Map)) ∨ ((((gt x.Away (k - 1)).Map) = ((gt x.Away k).Map)) ∧ (((gt x.Away k).Reader) ≤ ((gt x.Away (k - 1)).Reader)))))))] ∧ Lo w50 w') ?_ ?_
        · refine QR.q' (fun w' hw' => r_mv (v := .int .i64 _) rfl) <| QR.q' (fun w' hw' => r_gt rfl rfl) <| QR.q' (fun w' hw' => r_mv (v := .bool _) rfl) <| QR.splitD (fun h60 => ?_) (fun h60 => ?_)
          · refine QR.g' rfl (fun w' hw' => r_fa fa27_1 rfl) <| QR.g' rfl (fun w' hw' => r_ld (v := .slice Ax_Away nx_Away cx_Away) sca25 rfl ((((hm35).lo hk52).lo hw').cell rfl)) <| QR.g' rfl (fun w' hw' => r_mv (v := .int .i64 _) rfl) <| QR.g' rfl (fun w' hw' => r_sub rfl rfl (by omega)) <| ?_
            have hx62 := ((hm37).lo hk52).elem (i := ((k : Int) - 1).toNat) (by omega)
            rw [show ((k : Int) - 1).toNat = k - 1 from by omega] at hx62
            have hx63 : x.Away[((k : Int) - 1).toNat]? = some (gt x.Away (k - 1)) := (show ((k : Int) - 1).toNat = k - 1 from by omega) ▸ hx62
            refine QR.g' rfl (fun w' hw' => r_ixR tsl25 ((((hm37).lo hk52).lo hw')) rfl rfl (by omega)) <| QR.g' rfl (fun w' hw' => r_fa fa57_0 rfl) <| QR.g' rfl (fun w' hw' => r_ld (v := .int .i64 ((gt x.Away (k - 1)).Map)) sca3 rfl (((((hm37).lo hk52).lo hw')).cell hx63 rfl)) <| QR.g' rfl (fun w' hw' => r_fa fa57_0 rfl) <| QR.g' rfl (fun w' hw' => r_ld (v := .int .i64 ((gt x.Away k).Map)) sca3 rfl ((((hb32).lo hk52).lo hw').cell rfl)) <| QR.g' rfl (fun w' hw' => r_gt rfl rfl) <| QR.g' rfl (fun w' hw' => r_mv (v := .bool _) rfl) <| QR.splitD (fun h64 => ?_) (fun h64 => ?_)
            · refine QR.s' rfl <| QR.s' rfl <| QR.s' rfl <| QR.s' rfl <| QR.s' rfl <| QR.s' rfl <| QR.s' rfl <| QR.s' rfl <| QR.s' rfl <| QR.s' rfl <| QR.s' rfl <| QR.u' rfl <| QR.u' rfl <| QR.u' rfl <| QR.u' rfl <| QR.u' rfl <| QR.u' rfl <| QR.u' rfl <| QR.u' rfl <| QR.u' rfl <| QR.u' rfl <| QR.s' rfl <| QR.g' rfl (fun w' hw' => r_pick true rfl (v := .bool true) rfl) <| QR.q' (fun w' hw' => r_pick true rfl (v := .bool _) rfl) <| QR.nil ?_
              intro w65 hk66
              exact ⟨⟨rfl, rfl, (eDT (((jot h64).trans (jat h60)).1 trivial)), trivial⟩, hk66⟩
            · refine QR.g' rfl (fun w' hw' => r_fa fa27_1 rfl) <| QR.g' rfl (fun w' hw' => r_ld (v := .slice Ax_Away nx_Away cx_Away) sca25 rfl ((((hm35).lo hk52).lo hw').cell rfl)) <| QR.g' rfl (fun w' hw' => r_mv (v := .int .i64 _) rfl) <| QR.g' rfl (fun w' hw' => r_sub rfl rfl (by omega)) <| QR.g' rfl (fun w' hw' => r_ixR tsl25 ((((hm37).lo hk52).lo hw')) rfl rfl (by omega)) <| QR.g' rfl (fun w' hw' => r_fa fa57_0 rfl) <| QR.g' rfl (fun w' hw' => r_ld (v := .int .i64 ((gt x.Away (k - 1)).Map)) sca3 rfl (((((hm37).lo hk52).lo hw')).cell hx63 rfl)) <| QR.g' rfl (fun w' hw' => r_fa fa57_0 rfl) <| QR.g' rfl (fun w' hw' => r_ld (v := .int .i64 ((gt x.Away k).Map)) sca3 rfl ((((hb32).lo hk52).lo hw').cell rfl)) <| QR.g' rfl (fun w' hw' => r_eq rfl rfl) <| QR.g' rfl (fun w' hw' => r_mv (v := .bool _) rfl) <| QR.splitD (fun h67 => ?_) (fun h67 => ?_)
              · refine QR.g' rfl (fun w' hw' => r_fa fa27_1 rfl) <| QR.g' rfl (fun w' hw' => r_ld (v := .slice Ax_Away nx_Away cx_Away) sca25 rfl ((((hm35).lo hk52).lo hw').cell rfl)) <| QR.g' rfl (fun w' hw' => r_mv (v := .int .i64 _) rfl) <| QR.g' rfl (fun w' hw' => r_sub rfl rfl (by omega)) <| QR.g' rfl (fun w' hw' => r_ixR tsl25 ((((hm37).lo hk52).lo hw')) rfl rfl (by omega)) <| QR.g' rfl (fun w' hw' => r_fa fa57_1 rfl) <| QR.g' rfl (fun w' hw' => r_ld (v := .int .i64 ((gt x.Away (k - 1)).Reader)) sca3 rfl (((((hm37).lo hk52).lo hw')).cell hx63 rfl)) <| QR.g' rfl (fun w' hw' => r_fa fa57_1 rfl) <| QR.g' rfl (fun w' hw' => r_ld (v := .int .i64 ((gt x.Away k).Reader)) sca3 rfl ((((hb32).lo hk52).lo hw').cell rfl)) <| QR.g' rfl (fun w' hw' => r_ge rfl rfl) <| QR.g' rfl (fun w' hw' => r_pick true rfl (v := .bool _) rfl) <| QR.g' rfl (fun w' hw' => r_pick false rfl (v := .bool _) rfl) <| QR.q' (fun w' hw' => r_pick true rfl (v := .bool _) rfl) <| QR.nil ?_
                intro w68 hk69
                exact ⟨⟨rfl, rfl, (eDD (((jat h67).trans (jof h64)).trans (jat h60))), trivial⟩, hk69⟩
              · refine QR.s' rfl <| QR.s' rfl <| QR.s' rfl <| QR.s' rfl <| QR.s' rfl <| QR.s' rfl <| QR.s' rfl <| QR.s' rfl <| QR.s' rfl <| QR.s' rfl <| QR.g' rfl (fun w' hw' => r_pick false rfl (v := .bool false) rfl) <| QR.g' rfl (fun w' hw' => r_pick false rfl (v := .bool _) rfl) <| QR.q' (fun w' hw' => r_pick true rfl (v := .bool _) rfl) <| QR.nil ?_
                intro w70 hk71
                exact ⟨⟨rfl, rfl, (eDF (((jaf h67).trans (jof h64)).trans (jat h60)).2), trivial⟩, hk71⟩
          · refine QR.s' rfl <| QR.s' rfl <| QR.s' rfl <| QR.s' rfl <| QR.s' rfl <| QR.s' rfl <| QR.s' rfl <| QR.s' rfl <| QR.s' rfl <| QR.s' rfl <| QR.s' rfl <| QR.u' rfl <| QR.u' rfl <| QR.u' rfl <| QR.u' rfl <| QR.u' rfl <| QR.u' rfl <| QR.u' rfl <| QR.u' rfl <| QR.u' rfl <| QR.u' rfl <| QR.u' rfl <| QR.u' rfl <| QR.u' rfl <| QR.u' rfl <| QR.u' rfl <| QR.u' rfl <| QR.u' rfl <| QR.u' rfl <| QR.u' rfl <| QR.u' rfl <| QR.u' rfl <| QR.u' rfl <| QR.s' rfl <| QR.q' (fun w' hw' => r_pick false rfl (v := .bool false) rfl) <| QR.nil ?_
            intro w72 hk73
            exact ⟨⟨rfl, rfl, (eDF (jaf h60).2), trivial⟩, hk73⟩
        rintro f74 w75 ⟨hat76, hk77⟩
        rw [← sets_of_at hat76]
        have hz78 := hk77.size
        have hB79 := hB55.lo hk77
        refine W.cond_d rfl (fun h80 => ?_) (fun h80 => ?_)
        · have hq81 : 0 < (k : Int) := h80.1
          have hq82 : (((gt x.Away k).Map) < ((gt x.Away (k - 1)).Map)) ∨ ((((gt x.Away (k - 1)).Map) = ((gt x.Away k).Map)) ∧ (((gt x.Away k).Reader) ≤ ((gt x.Away (k - 1)).Reader))) := h80.2
          refine W.seq ?_
          refine W.regS (SR.q' (r_as (v := .bool false) rfl) <| SR.nil ?_)
          refine W.ret ?_
          refine ret1 rfl (v := .bool _) rfl ?_
          exact ⟨eR (eDF (by subst hlex_Away; first | exact (fun hh => hh.1 k (by omega) (a_bad1 ‹_›)) | exact (fun hh => hh.1 k (by omega) (a_bad2 ‹_›)) | (have h1 := ATo.end_ (And.right ‹_ ∧ ATo _ _ _›) (by omega); exact ⟨fun h => ⟨h1, by omega⟩, fun h => by omega⟩))), hB79⟩
        · refine W.skip ?_
          have hm86 := ((hm35).lo hk52).lo hk77
          have hm87 := ((hm36).lo hk52).lo hk77
          have hm88 := ((hm37).lo hk52).lo hk77
          refine W.regS (SR.q' (r_mv (v := .int .i64 _) rfl) <| SR.q' (r_add rfl rfl (by omega)) <| SR.q' (r_as (v := .int .i64 _) rfl) <| SR.nil ?_)
          refine ⟨k + 1, _, rfl, ⟨rfl, rfl, trivial⟩, ⟨hB79, hm86, hm87, hm88, ?_⟩, ?_⟩
          · exact (by exact ⟨by omega, ATo.next (And.right ‹_ ∧ ATo _ _ _›) (a_good ‹_› ‹_›)⟩)
          · exact (by omega)
    · refine W.exit (xin_here ?_)
      refine W.seq ?_
      refine W.regS (SR.q' (r_fa fa27_1 rfl) <| SR.q' (r_ld (v := .slice Ax_Away nx_Away cx_Away) sca25 rfl ((hm13).cell rfl)) <| SR.q' (r_len und25 rfl) <| SR.q' (r_le rfl rfl) <| SR.q' (r_as (v := .bool _) rfl) <| SR.nil ?_)
      refine W.ret ?_
      refine ret1 rfl (v := .bool _) rfl ?_
      exact ⟨eR (eDD (by subst hlex_Away; first | exact (fun hh => hh.1 k (by omega) (a_bad1 ‹_›)) | exact (fun hh => hh.1 k (by omega) (a_bad2 ‹_›)) | (have h1 := ATo.end_ (And.right ‹_ ∧ ATo _ _ _›) (by omega); exact ⟨fun h => ⟨h1, by omega⟩, fun h => by omega⟩))), hB11⟩

theorem z_c_spec_l32Good_36 (x : Library) (nx_Maps : Nat) (hbdx_Maps : (nx_Maps : Int) ≤ 9223372036854775807) (hlex_Maps : nx_Maps = x.Maps.length) (nx_Away : Nat) (hbdx_Away : (nx_Away : Int) ≤ 9223372036854775807) (hlex_Away : nx_Away = x.Away.length) : ((MapsOK x.Maps ∧ x.Maps.length ≤ 8) ∧ ((AwayOK x.Maps x.Away ∧ x.Away.length ≤ 8) ∧ ((0 ≤ x.Bought ∧ x.Bought ≤ 9999) ∧ ((0 ≤ x.Dropped ∧ x.Dropped ≤ 9999) ∧ ((0 ≤ x.Mended ∧ x.Mended ≤ 9999) ∧ (x.Bought = (((if false = true then sumT x.Maps else sumC x.Maps) + (nx_Away : Int)) + x.Dropped))))))) ↔ (LibOK x) := by
  subst hlex_Maps hlex_Away
  unfold LibOK
  constructor <;> (intro h; obtain ⟨h1, h2, h⟩ := h; refine ⟨h1, h2, ?_⟩; simpa using h)
theorem c_spec_l32Good (w : World) (x : Library) {Ax_Maps : Option Addr} {nx_Maps cx_Maps Bx_Maps : Nat} (hx_Maps : SlR w Bx_Maps encLMap 3 Ax_Maps nx_Maps cx_Maps x.Maps) {Ax_Away : Option Addr} {nx_Away cx_Away Bx_Away : Nat} (hx_Away : SlR w Bx_Away encAway 2 Ax_Away nx_Away cx_Away x.Away) : Calls Tryd.prog 30 #[.agg (List.toArray [.slice Ax_Maps nx_Maps cx_Maps, .slice Ax_Away nx_Away cx_Away, .int .i64 x.Bought, .int .i64 x.Dropped, .int .i64 x.Mended])] w fun e w' => e = .returned (.bool (decide (LibOK x))) ∧ Lo w w' := by
  refine calls_W 38 Tryd.func30 rfl rfl rfl ?_
  have hbdx_Maps := hx_Maps.bound
  have hlex_Maps := hx_Maps.len
  have hBbx_Maps := hx_Maps.bd
  have hbdx_Away := hx_Away.bound
  have hlex_Away := hx_Away.len
  have hBbx_Away := hx_Away.bd
  refine W.seq ?_
  refine W.regS (SR.box (v := .agg (List.toArray _)) (l := [.slice Ax_Maps nx_Maps cx_Maps, .slice Ax_Away nx_Away cx_Away, .int .i64 x.Bought, .int .i64 x.Dropped, .int .i64 x.Mended]) rfl rfl ?_)
  intro g1 w2 hg3 hk4 hs5 hb6
  have hz7 := hk4.size
  have hB8 := (Lo.refl w).lo hk4
  refine SR.q' (r_as (v := .bool false) rfl) <| SR.nil ?_
  refine W.seq ?_
  refine W.regJD mo (by kernel_rfl) (fun f' w' => At f' [(2, .bool (decide ((MapsOK x.Maps ∧ x.Maps.length ≤ 8) ∧ ((AwayOK x.Maps x.Away ∧ x.Away.length ≤ 8) ∧ ((0 ≤ x.Bought ∧ x.Bought ≤ 9999) ∧ ((0 ≤ x.Dropped ∧ x.Dropped ≤ 9999) ∧ ((0 ≤ x.Mended ∧ x.Mended ≤ 9999) ∧ (x.Bought = (((if false = true then sumT x.Maps else sumC x.Maps) + (nx_Away : Int)) + x.Dropped)))))))))] ∧ Lo w2 w') ?_ ?_
  · refine QR.q' (fun w' hw' => r_lda (l := [.slice Ax_Maps nx_Maps cx_Maps, .slice Ax_Away nx_Away cx_Away, .int .i64 x.Bought, .int .i64 x.Dropped, .int .i64 x.Mended]) agg27 rfl (fun _ _ hu => ((hb6).lo hw').cell hu) rfl) <| QR.call ent50 (fun w' hw' => (c_spec_l32Maps w' x (((((hx_Maps).lo hk4).lo hw'))) (((((hx_Away).lo hk4).lo hw')))).mono fun _ _ h => ⟨h.1, hw'.trans h.2⟩) rfl <| QR.q' (fun w' hw' => r_mv (v := .bool _) rfl) <| QR.splitD (fun h9 => ?_) (fun h9 => ?_)
    · have hq10 := And.left h9
      have hq11 := And.left h9
      have hq12 := And.right h9
      refine QR.g' rfl (fun w' hw' => r_lda (l := [.slice Ax_Maps nx_Maps cx_Maps, .slice Ax_Away nx_Away cx_Away, .int .i64 x.Bought, .int .i64 x.Dropped, .int .i64 x.Mended]) agg27 rfl (fun _ _ hu => ((hb6).lo hw').cell hu) rfl) <| QR.gcall rfl ent51 (fun w' hw' => (c_spec_l32Lent w' x (((((hx_Maps).lo hk4).lo hw'))) (((((hx_Away).lo hk4).lo hw')))).mono fun _ _ h => ⟨h.1, hw'.trans h.2⟩) rfl <| QR.q' (fun w' hw' => r_pick true rfl (v := .bool _) rfl) <| QR.q' (fun w' hw' => r_mv (v := .bool _) rfl) <| QR.splitD (fun h13 => ?_) (fun h13 => ?_)
      · refine QR.g' rfl (fun w' hw' => r_fa fa27_2 rfl) <| QR.g' rfl (fun w' hw' => r_ld (v := .int .i64 x.Bought) sca3 rfl (((hb6).lo hw').cell rfl)) <| QR.gcall rfl ent52 (fun w' hw' => (c_spec_l32Count w' x.Bought).mono fun _ _ h => ⟨h.1, hw'.trans h.2⟩) rfl <| QR.q' (fun w' hw' => r_pick true rfl (v := .bool _) rfl) <| QR.q' (fun w' hw' => r_mv (v := .bool _) rfl) <| QR.splitD (fun h14 => ?_) (fun h14 => ?_)
        · refine QR.g' rfl (fun w' hw' => r_fa fa27_3 rfl) <| QR.g' rfl (fun w' hw' => r_ld (v := .int .i64 x.Dropped) sca3 rfl (((hb6).lo hw').cell rfl)) <| QR.gcall rfl ent52 (fun w' hw' => (c_spec_l32Count w' x.Dropped).mono fun _ _ h => ⟨h.1, hw'.trans h.2⟩) rfl <| QR.q' (fun w' hw' => r_pick true rfl (v := .bool _) rfl) <| QR.q' (fun w' hw' => r_mv (v := .bool _) rfl) <| QR.splitD (fun h15 => ?_) (fun h15 => ?_)
          · refine QR.g' rfl (fun w' hw' => r_fa fa27_4 rfl) <| QR.g' rfl (fun w' hw' => r_ld (v := .int .i64 x.Mended) sca3 rfl (((hb6).lo hw').cell rfl)) <| QR.gcall rfl ent52 (fun w' hw' => (c_spec_l32Count w' x.Mended).mono fun _ _ h => ⟨h.1, hw'.trans h.2⟩) rfl <| QR.q' (fun w' hw' => r_pick true rfl (v := .bool _) rfl) <| QR.q' (fun w' hw' => r_mv (v := .bool _) rfl) <| QR.splitD (fun h16 => ?_) (fun h16 => ?_)
            · refine QR.g' rfl (fun w' hw' => r_fa fa27_2 rfl) <| QR.g' rfl (fun w' hw' => r_ld (v := .int .i64 x.Bought) sca3 rfl (((hb6).lo hw').cell rfl)) <| QR.g' rfl (fun w' hw' => r_lda (l := [.slice Ax_Maps nx_Maps cx_Maps, .slice Ax_Away nx_Away cx_Away, .int .i64 x.Bought, .int .i64 x.Dropped, .int .i64 x.Mended]) agg27 rfl (fun _ _ hu => ((hb6).lo hw').cell hu) rfl) <| QR.gcall rfl ent35 (fun w' hw' => (c_spec_l32There w' x (((((hx_Maps).lo hk4).lo hw'))) (((((hx_Away).lo hk4).lo hw'))) false (by first | assumption | exact MTo.end_ (And.right ‹_ ∧ MTo _ _›) (by omega)) (by omega)).mono fun _ _ h => ⟨h.1, hw'.trans h.2⟩) rfl <| ?_
              have hq17 : 0 ≤ (if false = true then sumT x.Maps else sumC x.Maps) ∧ (if false = true then sumT x.Maps else sumC x.Maps) ≤ 792 := there_rng false ‹MapsOK _› (by omega)
              refine QR.g' rfl (fun w' hw' => r_fa fa27_1 rfl) <| QR.g' rfl (fun w' hw' => r_ld (v := .slice Ax_Away nx_Away cx_Away) sca25 rfl (((hb6).lo hw').cell rfl)) <| QR.g' rfl (fun w' hw' => r_len und25 rfl) <| QR.g' rfl (fun w' hw' => r_add rfl rfl (by omega)) <| QR.g' rfl (fun w' hw' => r_fa fa27_3 rfl) <| QR.g' rfl (fun w' hw' => r_ld (v := .int .i64 x.Dropped) sca3 rfl (((hb6).lo hw').cell rfl)) <| QR.g' rfl (fun w' hw' => r_add rfl rfl (by omega)) <| QR.g' rfl (fun w' hw' => r_eq rfl rfl) <| QR.q' (fun w' hw' => r_pick true rfl (v := .bool _) rfl) <| QR.q' (fun w' hw' => r_as (v := .bool _) rfl) <| QR.nil ?_
              intro w18 hk19
              exact ⟨⟨(eDD (((((jat h16).trans (jat h15)).trans (jat h14)).trans (jat h13)).trans (jat h9))), trivial⟩, hk19⟩
            · refine QR.s' rfl <| QR.s' rfl <| QR.s' rfl <| QR.s' rfl <| QR.s' rfl <| QR.s' rfl <| QR.s' rfl <| QR.s' rfl <| QR.s' rfl <| QR.s' rfl <| QR.s' rfl <| QR.s' rfl <| QR.q' (fun w' hw' => r_pick false rfl (v := .bool false) rfl) <| QR.q' (fun w' hw' => r_as (v := .bool _) rfl) <| QR.nil ?_
              intro w20 hk21
              exact ⟨⟨(eDF (((((jaf h16).trans (jat h15)).trans (jat h14)).trans (jat h13)).trans (jat h9)).2), trivial⟩, hk21⟩
          · refine QR.s' rfl <| QR.s' rfl <| QR.s' rfl <| QR.q' (fun w' hw' => r_pick false rfl (v := .bool false) rfl) <| QR.q' (fun w' hw' => r_mv (v := .bool _) rfl) <| QR.s' rfl <| QR.s' rfl <| QR.s' rfl <| QR.s' rfl <| QR.s' rfl <| QR.s' rfl <| QR.s' rfl <| QR.s' rfl <| QR.s' rfl <| QR.s' rfl <| QR.s' rfl <| QR.s' rfl <| QR.q' (fun w' hw' => r_pick false rfl (v := .bool false) rfl) <| QR.q' (fun w' hw' => r_as (v := .bool _) rfl) <| QR.nil ?_
            intro w22 hk23
            exact ⟨⟨(eDF ((((jaf h15).trans (jat h14)).trans (jat h13)).trans (jat h9)).2), trivial⟩, hk23⟩
        · refine QR.s' rfl <| QR.s' rfl <| QR.s' rfl <| QR.q' (fun w' hw' => r_pick false rfl (v := .bool false) rfl) <| QR.q' (fun w' hw' => r_mv (v := .bool _) rfl) <| QR.s' rfl <| QR.s' rfl <| QR.s' rfl <| QR.q' (fun w' hw' => r_pick false rfl (v := .bool false) rfl) <| QR.q' (fun w' hw' => r_mv (v := .bool _) rfl) <| QR.s' rfl <| QR.s' rfl <| QR.s' rfl <| QR.s' rfl <| QR.s' rfl <| QR.s' rfl <| QR.s' rfl <| QR.s' rfl <| QR.s' rfl <| QR.s' rfl <| QR.s' rfl <| QR.s' rfl <| QR.q' (fun w' hw' => r_pick false rfl (v := .bool false) rfl) <| QR.q' (fun w' hw' => r_as (v := .bool _) rfl) <| QR.nil ?_
          intro w24 hk25
          exact ⟨⟨(eDF (((jaf h14).trans (jat h13)).trans (jat h9)).2), trivial⟩, hk25⟩
      · refine QR.s' rfl <| QR.s' rfl <| QR.s' rfl <| QR.q' (fun w' hw' => r_pick false rfl (v := .bool false) rfl) <| QR.q' (fun w' hw' => r_mv (v := .bool _) rfl) <| QR.s' rfl <| QR.s' rfl <| QR.s' rfl <| QR.q' (fun w' hw' => r_pick false rfl (v := .bool false) rfl) <| QR.q' (fun w' hw' => r_mv (v := .bool _) rfl) <| QR.s' rfl <| QR.s' rfl <| QR.s' rfl <| QR.q' (fun w' hw' => r_pick false rfl (v := .bool false) rfl) <| QR.q' (fun w' hw' => r_mv (v := .bool _) rfl) <| QR.s' rfl <| QR.s' rfl <| QR.s' rfl <| QR.s' rfl <| QR.s' rfl <| QR.s' rfl <| QR.s' rfl <| QR.s' rfl <| QR.s' rfl <| QR.s' rfl <| QR.s' rfl <| QR.s' rfl <| QR.q' (fun w' hw' => r_pick false rfl (v := .bool false) rfl) <| QR.q' (fun w' hw' => r_as (v := .bool _) rfl) <| QR.nil ?_
        intro w26 hk27
        exact ⟨⟨(eDF ((jaf h13).trans (jat h9)).2), trivial⟩, hk27⟩
    · refine QR.s' rfl <| QR.s' rfl <| QR.q' (fun w' hw' => r_pick false rfl (v := .bool false) rfl) <| QR.q' (fun w' hw' => r_mv (v := .bool _) rfl) <| QR.s' rfl <| QR.s' rfl <| QR.s' rfl <| QR.q' (fun w' hw' => r_pick false rfl (v := .bool false) rfl) <| QR.q' (fun w' hw' => r_mv (v := .bool _) rfl) <| QR.s' rfl <| QR.s' rfl <| QR.s' rfl <| QR.q' (fun w' hw' => r_pick false rfl (v := .bool false) rfl) <| QR.q' (fun w' hw' => r_mv (v := .bool _) rfl) <| QR.s' rfl <| QR.s' rfl <| QR.s' rfl <| QR.q' (fun w' hw' => r_pick false rfl (v := .bool false) rfl) <| QR.q' (fun w' hw' => r_mv (v := .bool _) rfl) <| QR.s' rfl <| QR.s' rfl <| QR.s' rfl <| QR.s' rfl <| QR.s' rfl <| QR.s' rfl <| QR.s' rfl <| QR.s' rfl <| QR.s' rfl <| QR.s' rfl <| QR.s' rfl <| QR.s' rfl <| QR.q' (fun w' hw' => r_pick false rfl (v := .bool false) rfl) <| QR.q' (fun w' hw' => r_as (v := .bool _) rfl) <| QR.nil ?_
      intro w28 hk29
      exact ⟨⟨(eDF (jaf h9).2), trivial⟩, hk29⟩
  rintro f30 w31 ⟨hat32, hk33⟩
  rw [← sets_of_at hat32]
  have hz34 := hk33.size
  have hB35 := hB8.lo hk33
  refine W.ret ?_
  refine ret1 rfl (v := .bool _) rfl ?_
  exact ⟨eR (eDD (z_c_spec_l32Good_36 x nx_Maps hbdx_Maps hlex_Maps nx_Away hbdx_Away hlex_Away)), hB35⟩

theorem z_c_impl_IsLibrary_62 (x : Library) (nx_Maps : Nat) (hbdx_Maps : (nx_Maps : Int) ≤ 9223372036854775807) (hlex_Maps : nx_Maps = x.Maps.length) (nx_Away : Nat) (hbdx_Away : (nx_Away : Int) ≤ 9223372036854775807) (hlex_Away : nx_Away = x.Away.length) (hp0 : (nx_Maps : Int) ≤ 1048576) (k : Nat) (hi16 : k ≤ nx_Maps ∧ MTo x.Maps k) (h18 : (k : Int) < (nx_Maps : Int)) (hx20 : x.Maps[k]? = some (gt x.Maps k)) (h61 : (¬ (1 ≤ ((gt x.Maps k).Id) ∧ ((gt x.Maps k).Id) ≤ 99)) ∨ ((¬ (0 ≤ ((gt x.Maps k).Copies) ∧ ((gt x.Maps k).Copies) ≤ 99)) ∨ ((¬ (0 ≤ ((gt x.Maps k).Torn) ∧ ((gt x.Maps k).Torn) ≤ ((gt x.Maps k).Copies))) ∨ ((0 < (k : Int)) ∧ (((gt x.Maps k).Id) ≤ ((gt x.Maps (k - 1)).Id)))))) : ¬ (LibOK x) := by
  subst hlex_Maps hlex_Away
  first | exact (fun hh => hh.1.1 k (by omega) ‹_›) | exact (fun hh => hh.2.1.1 j (by omega) (a_badI (MTo.end_ (And.right ‹_ ∧ MTo _ _›) (by omega)) ‹_›)) | (have h1 := MTo.end_ (And.right ‹_ ∧ MTo _ _›) (by omega); have h2 := ATo.end_ (And.right ‹_ ∧ ATo _ _ _›) (by omega); unfold LibOK; constructor <;> (intro h; simp only [h1, h2, true_and] at h ⊢; omega))
theorem z_c_impl_IsLibrary_125 (x : Library) (nx_Maps : Nat) (hbdx_Maps : (nx_Maps : Int) ≤ 9223372036854775807) (hlex_Maps : nx_Maps = x.Maps.length) (nx_Away : Nat) (hbdx_Away : (nx_Away : Int) ≤ 9223372036854775807) (hlex_Away : nx_Away = x.Away.length) (hp0 : (nx_Maps : Int) ≤ 1048576) (k : Nat) (hi16 : k ≤ nx_Maps ∧ MTo x.Maps k) (h18 : ¬ ((k : Int) < (nx_Maps : Int))) (j : Nat) (hi74 : j ≤ nx_Away ∧ ATo x.Maps x.Away j) (h76 : (j : Int) < (nx_Away : Int)) (hx78 : x.Away[j]? = some (gt x.Away j)) (hq100 : bsP cmpM ((gt x.Away j).Map) x.Maps ≤ x.Maps.length) (h121 : (¬ (bsF cmpM ((gt x.Away j).Map) x.Maps)) ∨ ((¬ (1 ≤ ((gt x.Away j).Reader) ∧ ((gt x.Away j).Reader) ≤ 999)) ∨ ((0 < (j : Int)) ∧ (0 ≤ (cmpA (gt x.Away (j - 1)) (gt x.Away j)))))) : ¬ (LibOK x) := by
  subst hlex_Maps hlex_Away
  first | exact (fun hh => hh.1.1 k (by omega) ‹_›) | exact (fun hh => hh.2.1.1 j (by omega) (a_badI (MTo.end_ (And.right ‹_ ∧ MTo _ _›) (by omega)) ‹_›)) | (have h1 := MTo.end_ (And.right ‹_ ∧ MTo _ _›) (by omega); have h2 := ATo.end_ (And.right ‹_ ∧ ATo _ _ _›) (by omega); unfold LibOK; constructor <;> (intro h; simp only [h1, h2, true_and] at h ⊢; omega))
theorem z_c_impl_IsLibrary_156 (x : Library) (nx_Maps : Nat) (hbdx_Maps : (nx_Maps : Int) ≤ 9223372036854775807) (hlex_Maps : nx_Maps = x.Maps.length) (nx_Away : Nat) (hbdx_Away : (nx_Away : Int) ≤ 9223372036854775807) (hlex_Away : nx_Away = x.Away.length) (hp0 : (nx_Maps : Int) ≤ 1048576) (k : Nat) (hi16 : k ≤ nx_Maps ∧ MTo x.Maps k) (h18 : ¬ ((k : Int) < (nx_Maps : Int))) (j : Nat) (hi74 : j ≤ nx_Away ∧ ATo x.Maps x.Away j) (h76 : ¬ ((j : Int) < (nx_Away : Int))) : (((nx_Maps : Int) ≤ 8) ∧ (((nx_Away : Int) ≤ 8) ∧ ((0 ≤ x.Bought ∧ x.Bought ≤ 9999) ∧ ((0 ≤ x.Dropped ∧ x.Dropped ≤ 9999) ∧ ((0 ≤ x.Mended ∧ x.Mended ≤ 9999) ∧ (x.Bought = (((sumC x.Maps) + (nx_Away : Int)) + x.Dropped))))))) ↔ (LibOK x) := by
  subst hlex_Maps hlex_Away
  first | exact (fun hh => hh.1.1 k (by omega) ‹_›) | exact (fun hh => hh.2.1.1 j (by omega) (a_badI (MTo.end_ (And.right ‹_ ∧ MTo _ _›) (by omega)) ‹_›)) | (have h1 := MTo.end_ (And.right ‹_ ∧ MTo _ _›) (by omega); have h2 := ATo.end_ (And.right ‹_ ∧ ATo _ _ _›) (by omega); unfold LibOK; constructor <;> (intro h; simp only [h1, h2, true_and] at h ⊢; omega))
theorem c_impl_IsLibrary (w : World) (x : Library) {Ax_Maps : Option Addr} {nx_Maps cx_Maps Bx_Maps : Nat} (hx_Maps : SlR w Bx_Maps encLMap 3 Ax_Maps nx_Maps cx_Maps x.Maps) {Ax_Away : Option Addr} {nx_Away cx_Away Bx_Away : Nat} (hx_Away : SlR w Bx_Away encAway 2 Ax_Away nx_Away cx_Away x.Away) (hp0 : (nx_Maps : Int) ≤ 1048576) : Calls Tryd.prog 28 #[.agg (List.toArray [.slice Ax_Maps nx_Maps cx_Maps, .slice Ax_Away nx_Away cx_Away, .int .i64 x.Bought, .int .i64 x.Dropped, .int .i64 x.Mended])] w fun e w' => e = .returned (.bool (decide (LibOK x))) ∧ Lo w w' := by
  refine calls_W 130 Tryd.func28 rfl rfl rfl ?_
  have hbdx_Maps := hx_Maps.bound
  have hlex_Maps := hx_Maps.len
  have hBbx_Maps := hx_Maps.bd
  have hbdx_Away := hx_Away.bound
  have hlex_Away := hx_Away.len
  have hBbx_Away := hx_Away.bd
  refine W.seq ?_
  refine W.regS (SR.box (v := .agg (List.toArray _)) (l := [.slice Ax_Maps nx_Maps cx_Maps, .slice Ax_Away nx_Away cx_Away, .int .i64 x.Bought, .int .i64 x.Dropped, .int .i64 x.Mended]) rfl rfl ?_)
  intro g1 w2 hg3 hk4 hs5 hb6
  have hz7 := hk4.size
  have hB8 := (Lo.refl w).lo hk4
  refine SR.q' (r_as (v := .bool false) rfl) <| SR.nil ?_
  refine W.seq ?_
  refine W.seq ?_
  refine W.regS (SR.q' (r_fa fa27_0 rfl) <| SR.q' (r_ld (v := .slice Ax_Maps nx_Maps cx_Maps) sca24 rfl ((hb6).cell rfl)) <| SR.q' (r_len und24 rfl) <| SR.q' (r_mv (v := .int .i64 0) rfl) <| SR.nil ?_)
  refine W.block ?_
  refine W.loop (σ := Nat) (fun g => [(1, .pointer (pA g1)), (10, .slice Ax_Maps nx_Maps cx_Maps), (11, .int .i64 (nx_Maps : Int)), (12, .int .i64 (g : Int))]) (fun g w' => (Lo w w') ∧ (Blk w' g1 27 [.slice Ax_Maps nx_Maps cx_Maps, .slice Ax_Away nx_Away cx_Away, .int .i64 x.Bought, .int .i64 x.Dropped, .int .i64 x.Mended]) ∧ (SlR w' Bx_Maps encLMap 3 Ax_Maps nx_Maps cx_Maps x.Maps) ∧ (SlR w' Bx_Away encAway 2 Ax_Away nx_Away cx_Away x.Away) ∧ (g ≤ nx_Maps ∧ MTo x.Maps g)) (fun g => nx_Maps - g) 0 ?_ ?_ ?_
  · exact ⟨rfl, rfl, rfl, rfl, trivial⟩
  · exact ⟨hB8, hb6, (hx_Maps).lo hk4, (hx_Away).lo hk4, (by exact ⟨Nat.zero_le _, MTo.zero⟩)⟩
  · rintro k f9 w10 hP12
    obtain ⟨hB11, hm13, hm14, hm15, hi16⟩ : (Lo w w10) ∧ (Blk w10 g1 27 [.slice Ax_Maps nx_Maps cx_Maps, .slice Ax_Away nx_Away cx_Away, .int .i64 x.Bought, .int .i64 x.Dropped, .int .i64 x.Mended]) ∧ (SlR w10 Bx_Maps encLMap 3 Ax_Maps nx_Maps cx_Maps x.Maps) ∧ (SlR w10 Bx_Away encAway 2 Ax_Away nx_Away cx_Away x.Away) ∧ (k ≤ nx_Maps ∧ MTo x.Maps k) := hP12
    refine (?_ : W _ _ _ _ _ (act _ (sets f9 [(1, .pointer (pA g1)), (10, .slice Ax_Maps nx_Maps cx_Maps), (11, .int .i64 (nx_Maps : Int)), (12, .int .i64 (k : Int))])) _)
    have hzw10 := hB11.size
    have hl17 := hm13.lt
    refine W.seq ?_
    refine W.regS (SR.q' (r_lt rfl rfl) <| SR.nil ?_)
    refine W.seq ?_
    refine W.cond_d rfl (fun h18 => ?_) (fun h18 => ?_)
    · refine W.skip ?_
      refine W.seq ?_
      refine W.block ?_
      refine W.seq ?_
      refine W.regS (SR.q' (r_mv (v := .int .i64 _) rfl) <| ?_)
      have hx20 := (hm14).elem (i := k) (by omega)
      refine SR.q' (r_ixR tsl24 (hm14) rfl rfl (by omega)) <| SR.q' (r_lda (l := encLMap (gt x.Maps k)) agg48 rfl (fun _ _ hu => (hm14).cell hx20 hu) ((hm14).esz _)) <| SR.alloc (l := [.int .i64 0, .int .i64 0, .int .i64 0]) tz48 rfl ?_
      intro g21 w22 hg23 hk24 hs25 hb26
      have hz27 := hk24.size
      have hB28 := hB11.lo hk24
      refine SR.q' (r_as (v := .int .i64 _) rfl) <| SR.store (o := 0) (vs := [.int .i64 ((gt x.Maps k).Id), .int .i64 ((gt x.Maps k).Copies), .int .i64 ((gt x.Maps k).Torn)]) agg48.2 rfl rfl rfl rfl (hb26) (Nat.le_of_ble_eq_true rfl) rfl ?_
      intro w29 hk30 hs31 hb32
      have hz33 := hk30.size
      have hB34 := hB28.new hk30 (by omega)
      refine SR.nil ?_
      refine W.seq ?_
      have hm35 := ((hm13).lo hk24).kn hk30 (by omega)
      have hm36 := ((hm14).lo hk24).kn hk30 (by omega)
      have hm37 := ((hm15).lo hk24).kn hk30 (by omega)
      refine W.regJD mo (by kernel_rfl) (fun f' w' => At f' [(1, .pointer (pA g1)), (10, .slice Ax_Maps nx_Maps cx_Maps), (11, .int .i64 (nx_Maps : Int)), (12, .int .i64 (k : Int)), (50, .bool (decide ((¬ (1 ≤ ((gt x.Maps k).Id) ∧ ((gt x.Maps k).Id) ≤ 99)) ∨ ((¬ (0 ≤ ((gt x.Maps k).Copies) ∧ ((gt x.Maps k).Copies) ≤ 99)) ∨ ((¬ (0 ≤ ((gt x.Maps k).Torn) ∧ ((gt x.Maps k).Torn) ≤ ((gt x.Maps k).Copies))) ∨ ((0 < (k : Int)) ∧ (((gt x.Maps k).Id) ≤ ((gt x.Maps (k - 1)).Id))))))))] ∧ Lo w29 w') ?_ ?_
      · refine QR.q' (fun w' hw' => r_fa fa48_0 rfl) <| QR.q' (fun w' hw' => r_ld (v := .int .i64 ((gt x.Maps k).Id)) sca3 rfl (((hb32).lo hw').cell rfl)) <| QR.call ent46 (fun w' hw' => (c_impl_isMapId w' ((gt x.Maps k).Id)).mono fun _ _ h => ⟨h.1, hw'.trans h.2⟩) rfl <| QR.q' (fun w' hw' => r_not rfl) <| QR.q' (fun w' hw' => r_mv (v := .bool _) rfl) <| QR.splitN (fun h38 => ?_) (fun h38 => ?_)
        · refine QR.s' rfl <| QR.s' rfl <| QR.s' rfl <| QR.s' rfl <| QR.q' (fun w' hw' => r_pick true rfl (v := .bool true) rfl) <| QR.q' (fun w' hw' => r_mv (v := .bool _) rfl) <| QR.s' rfl <| QR.s' rfl <| QR.s' rfl <| QR.s' rfl <| QR.s' rfl <| QR.s' rfl <| QR.q' (fun w' hw' => r_pick true rfl (v := .bool true) rfl) <| QR.q' (fun w' hw' => r_mv (v := .bool _) rfl) <| QR.s' rfl <| QR.s' rfl <| QR.s' rfl <| QR.u' rfl <| QR.u' rfl <| QR.u' rfl <| QR.u' rfl <| QR.u' rfl <| QR.u' rfl <| QR.u' rfl <| QR.u' rfl <| QR.u' rfl <| QR.u' rfl <| QR.s' rfl <| QR.q' (fun w' hw' => r_pick true rfl (v := .bool true) rfl) <| QR.nil ?_
          intro w39 hk40
          exact ⟨⟨rfl, rfl, rfl, rfl, (eDT ((jmf h38).1 trivial)), trivial⟩, hk40⟩
        · refine QR.g' rfl (fun w' hw' => r_fa fa48_1 rfl) <| QR.g' rfl (fun w' hw' => r_ld (v := .int .i64 ((gt x.Maps k).Copies)) sca3 rfl (((hb32).lo hw').cell rfl)) <| QR.gcall rfl ent47 (fun w' hw' => (c_impl_within w' ((gt x.Maps k).Copies) 0 99).mono fun _ _ h => ⟨h.1, hw'.trans h.2⟩) rfl <| QR.g' rfl (fun w' hw' => r_not rfl) <| QR.q' (fun w' hw' => r_pick false rfl (v := .bool _) rfl) <| QR.q' (fun w' hw' => r_mv (v := .bool _) rfl) <| QR.splitN (fun h41 => ?_) (fun h41 => ?_)
          · refine QR.s' rfl <| QR.s' rfl <| QR.s' rfl <| QR.s' rfl <| QR.s' rfl <| QR.s' rfl <| QR.q' (fun w' hw' => r_pick true rfl (v := .bool true) rfl) <| QR.q' (fun w' hw' => r_mv (v := .bool _) rfl) <| QR.s' rfl <| QR.s' rfl <| QR.s' rfl <| QR.u' rfl <| QR.u' rfl <| QR.u' rfl <| QR.u' rfl <| QR.u' rfl <| QR.u' rfl <| QR.u' rfl <| QR.u' rfl <| QR.u' rfl <| QR.u' rfl <| QR.s' rfl <| QR.q' (fun w' hw' => r_pick true rfl (v := .bool true) rfl) <| QR.nil ?_
            intro w42 hk43
            exact ⟨⟨rfl, rfl, rfl, rfl, (eDT (((jmf h41).trans (jmt h38)).1 trivial)), trivial⟩, hk43⟩
          · refine QR.g' rfl (fun w' hw' => r_fa fa48_2 rfl) <| QR.g' rfl (fun w' hw' => r_ld (v := .int .i64 ((gt x.Maps k).Torn)) sca3 rfl (((hb32).lo hw').cell rfl)) <| QR.g' rfl (fun w' hw' => r_fa fa48_1 rfl) <| QR.g' rfl (fun w' hw' => r_ld (v := .int .i64 ((gt x.Maps k).Copies)) sca3 rfl (((hb32).lo hw').cell rfl)) <| QR.gcall rfl ent47 (fun w' hw' => (c_impl_within w' ((gt x.Maps k).Torn) 0 ((gt x.Maps k).Copies)).mono fun _ _ h => ⟨h.1, hw'.trans h.2⟩) rfl <| QR.g' rfl (fun w' hw' => r_not rfl) <| QR.q' (fun w' hw' => r_pick false rfl (v := .bool _) rfl) <| QR.q' (fun w' hw' => r_mv (v := .bool _) rfl) <| QR.splitN (fun h44 => ?_) (fun h44 => ?_)
            · refine QR.s' rfl <| QR.s' rfl <| QR.s' rfl <| QR.u' rfl <| QR.u' rfl <| QR.u' rfl <| QR.u' rfl <| QR.u' rfl <| QR.u' rfl <| QR.u' rfl <| QR.u' rfl <| QR.u' rfl <| QR.u' rfl <| QR.s' rfl <| QR.q' (fun w' hw' => r_pick true rfl (v := .bool true) rfl) <| QR.nil ?_
              intro w45 hk46
              exact ⟨⟨rfl, rfl, rfl, rfl, (eDT ((((jmf h44).trans (jmt h41)).trans (jmt h38)).1 trivial)), trivial⟩, hk46⟩
            · refine QR.g' rfl (fun w' hw' => r_mv (v := .int .i64 _) rfl) <| QR.g' rfl (fun w' hw' => r_gt rfl rfl) <| QR.g' rfl (fun w' hw' => r_mv (v := .bool _) rfl) <| QR.splitD (fun h47 => ?_) (fun h47 => ?_)
              · refine QR.g' rfl (fun w' hw' => r_fa fa48_0 rfl) <| QR.g' rfl (fun w' hw' => r_ld (v := .int .i64 ((gt x.Maps k).Id)) sca3 rfl (((hb32).lo hw').cell rfl)) <| QR.g' rfl (fun w' hw' => r_fa fa27_0 rfl) <| QR.g' rfl (fun w' hw' => r_ld (v := .slice Ax_Maps nx_Maps cx_Maps) sca24 rfl (((hm35).lo hw').cell rfl)) <| QR.g' rfl (fun w' hw' => r_mv (v := .int .i64 _) rfl) <| QR.g' rfl (fun w' hw' => r_sub rfl rfl (by omega)) <| ?_
                have hx49 := (hm36).elem (i := ((k : Int) - 1).toNat) (by omega)
                rw [show ((k : Int) - 1).toNat = k - 1 from by omega] at hx49
                have hx50 : x.Maps[((k : Int) - 1).toNat]? = some (gt x.Maps (k - 1)) := (show ((k : Int) - 1).toNat = k - 1 from by omega) ▸ hx49
                refine QR.g' rfl (fun w' hw' => r_ixR tsl24 (((hm36).lo hw')) rfl rfl (by omega)) <| QR.g' rfl (fun w' hw' => r_fa fa48_0 rfl) <| QR.g' rfl (fun w' hw' => r_ld (v := .int .i64 ((gt x.Maps (k - 1)).Id)) sca3 rfl ((((hm36).lo hw')).cell hx50 rfl)) <| QR.g' rfl (fun w' hw' => r_le rfl rfl) <| QR.g' rfl (fun w' hw' => r_pick true rfl (v := .bool _) rfl) <| QR.q' (fun w' hw' => r_pick false rfl (v := .bool _) rfl) <| QR.nil ?_
                intro w51 hk52
                exact ⟨⟨rfl, rfl, rfl, rfl, (eDD ((((jat h47).trans (jmt h44)).trans (jmt h41)).trans (jmt h38))), trivial⟩, hk52⟩
              · refine QR.s' rfl <| QR.s' rfl <| QR.s' rfl <| QR.s' rfl <| QR.s' rfl <| QR.s' rfl <| QR.s' rfl <| QR.s' rfl <| QR.s' rfl <| QR.s' rfl <| QR.g' rfl (fun w' hw' => r_pick false rfl (v := .bool false) rfl) <| QR.q' (fun w' hw' => r_pick false rfl (v := .bool _) rfl) <| QR.nil ?_
                intro w53 hk54
                exact ⟨⟨rfl, rfl, rfl, rfl, (eDF ((((jaf h47).trans (jmt h44)).trans (jmt h41)).trans (jmt h38)).2), trivial⟩, hk54⟩
      rintro f55 w56 ⟨hat57, hk58⟩
      rw [← sets_of_at hat57]
      have hz59 := hk58.size
      have hB60 := hB34.lo hk58
      refine W.cond_d rfl (fun h61 => ?_) (fun h61 => ?_)
      · refine W.seq ?_
        refine W.regS (SR.q' (r_as (v := .bool false) rfl) <| SR.nil ?_)
        refine W.ret ?_
        refine ret1 rfl (v := .bool _) rfl ?_
        exact ⟨eR (eDF (z_c_impl_IsLibrary_62 x nx_Maps hbdx_Maps hlex_Maps nx_Away hbdx_Away hlex_Away hp0 k hi16 h18 hx20 h61)), hB60⟩
      · have hq63 : 1 ≤ ((gt x.Maps k).Id) ∧ ((gt x.Maps k).Id) ≤ 99 := (Classical.not_not.1 (not_or.1 h61).1)
        have hq64 : 0 ≤ ((gt x.Maps k).Copies) ∧ ((gt x.Maps k).Copies) ≤ 99 := (Classical.not_not.1 (not_or.1 (not_or.1 h61).2).1)
        have hq65 : 0 ≤ ((gt x.Maps k).Torn) ∧ ((gt x.Maps k).Torn) ≤ ((gt x.Maps k).Copies) := (Classical.not_not.1 (not_or.1 (not_or.1 (not_or.1 h61).2).2).1)
        have hq66 : ¬ ((0 < (k : Int)) ∧ (((gt x.Maps k).Id) ≤ ((gt x.Maps (k - 1)).Id))) := (not_or.1 (not_or.1 (not_or.1 h61).2).2).2
        refine W.skip ?_
        refine W.regS (SR.q' (r_add rfl rfl (by omega)) <| SR.q' (r_mv (v := .int .i64 _) rfl) <| SR.nil ?_)
        refine ⟨k + 1, _, rfl, ⟨rfl, rfl, rfl, rfl, trivial⟩, ⟨hB60, (hm35).lo hk58, (hm36).lo hk58, (hm37).lo hk58, ?_⟩, ?_⟩
        · exact (by exact ⟨by omega, MTo.next (And.right ‹_ ∧ MTo _ _›) ‹_›⟩)
        · exact (by omega)
    · refine W.exit (xin_here ?_)
      refine W.seq ?_
      refine W.seq ?_
      refine W.regS (SR.q' (r_fa fa27_1 rfl) <| SR.q' (r_ld (v := .slice Ax_Away nx_Away cx_Away) sca25 rfl ((hm13).cell rfl)) <| SR.q' (r_len und25 rfl) <| SR.q' (r_mv (v := .int .i64 0) rfl) <| SR.nil ?_)
      refine W.block ?_
      refine W.loop (σ := Nat) (fun g => [(1, .pointer (pA g1)), (53, .slice Ax_Away nx_Away cx_Away), (54, .int .i64 (nx_Away : Int)), (55, .int .i64 (g : Int))]) (fun g w' => (Lo w w') ∧ (Blk w' g1 27 [.slice Ax_Maps nx_Maps cx_Maps, .slice Ax_Away nx_Away cx_Away, .int .i64 x.Bought, .int .i64 x.Dropped, .int .i64 x.Mended]) ∧ (SlR w' Bx_Maps encLMap 3 Ax_Maps nx_Maps cx_Maps x.Maps) ∧ (SlR w' Bx_Away encAway 2 Ax_Away nx_Away cx_Away x.Away) ∧ (g ≤ nx_Away ∧ ATo x.Maps x.Away g)) (fun g => nx_Away - g) 0 ?_ ?_ ?_
      · exact ⟨rfl, rfl, rfl, rfl, trivial⟩
      · exact ⟨hB11, hm13, hm14, hm15, (by exact ⟨Nat.zero_le _, ATo.zero⟩)⟩
      · rintro j f67 w68 hP70
        obtain ⟨hB69, hm71, hm72, hm73, hi74⟩ : (Lo w w68) ∧ (Blk w68 g1 27 [.slice Ax_Maps nx_Maps cx_Maps, .slice Ax_Away nx_Away cx_Away, .int .i64 x.Bought, .int .i64 x.Dropped, .int .i64 x.Mended]) ∧ (SlR w68 Bx_Maps encLMap 3 Ax_Maps nx_Maps cx_Maps x.Maps) ∧ (SlR w68 Bx_Away encAway 2 Ax_Away nx_Away cx_Away x.Away) ∧ (j ≤ nx_Away ∧ ATo x.Maps x.Away j) := hP70
        refine (?_ : W _ _ _ _ _ (act _ (sets f67 [(1, .pointer (pA g1)), (53, .slice Ax_Away nx_Away cx_Away), (54, .int .i64 (nx_Away : Int)), (55, .int .i64 (j : Int))])) _)
        have hzw68 := hB69.size
        have hl75 := hm71.lt
        refine W.seq ?_
        refine W.regS (SR.q' (r_lt rfl rfl) <| SR.nil ?_)
        refine W.seq ?_
        refine W.cond_d rfl (fun h76 => ?_) (fun h76 => ?_)
        · refine W.skip ?_
          refine W.seq ?_
          refine W.block ?_
          refine W.seq ?_
          refine W.regS (SR.q' (r_mv (v := .int .i64 _) rfl) <| ?_)
          have hx78 := (hm73).elem (i := j) (by omega)
          refine SR.q' (r_ixR tsl25 (hm73) rfl rfl (by omega)) <| SR.q' (r_lda (l := encAway (gt x.Away j)) agg57 rfl (fun _ _ hu => (hm73).cell hx78 hu) ((hm73).esz _)) <| SR.alloc (l := [.int .i64 0, .int .i64 0]) tz57 rfl ?_
          intro g79 w80 hg81 hk82 hs83 hb84
          have hz85 := hk82.size
          have hB86 := hB69.lo hk82
          refine SR.q' (r_as (v := .int .i64 _) rfl) <| SR.store (o := 0) (vs := [.int .i64 ((gt x.Away j).Map), .int .i64 ((gt x.Away j).Reader)]) agg57.2 rfl rfl rfl rfl (hb84) (Nat.le_of_ble_eq_true rfl) rfl ?_
          intro w87 hk88 hs89 hb90
          have hz91 := hk88.size
          have hB92 := hB86.new hk88 (by omega)
          refine SR.nil ?_
          refine W.seq ?_
          have hm93 := ((hm71).lo hk82).kn hk88 (by omega)
          have hm94 := ((hm72).lo hk82).kn hk88 (by omega)
          have hm95 := ((hm73).lo hk82).kn hk88 (by omega)
          refine W.regS (SR.q' (r_lda (l := [.slice Ax_Maps nx_Maps cx_Maps, .slice Ax_Away nx_Away cx_Away, .int .i64 x.Bought, .int .i64 x.Dropped, .int .i64 x.Mended]) agg27 rfl (fun _ _ hu => (hm93).cell hu) rfl) <| SR.q' (r_fa fa57_0 rfl) <| SR.q' (r_ld (v := .int .i64 ((gt x.Away j).Map)) sca3 rfl ((hb90).cell rfl)) <| SR.call ent27 (c__impl_Library__mapAt w87 x ((hm94)) ((hm95)) ((gt x.Away j).Map) (by omega)) rfl ?_)
          rintro e w96 ⟨rfl, hk97⟩
          refine ⟨_, rfl, ?_⟩
          have hz98 := hk97.size
          have hB99 := hB92.lo hk97
          have hq100 : bsP cmpM ((gt x.Away j).Map) x.Maps ≤ x.Maps.length := bsP_le
          refine SR.q' (r_mv (v := .tuple (List.toArray _)) rfl) <| SR.q' (r_ext (v := .int .i64 _) rfl rfl) <| SR.q' (r_ext (v := .bool _) rfl rfl) <| SR.q' (r_as (v := .int .i64 _) rfl) <| SR.q' (r_as (v := .bool _) rfl) <| SR.nil ?_
          refine W.seq ?_
          refine W.regJD mo (by kernel_rfl) (fun f' w' => At f' [(1, .pointer (pA g1)), (53, .slice Ax_Away nx_Away cx_Away), (54, .int .i64 (nx_Away : Int)), (55, .int .i64 (j : Int)), (89, .bool (decide ((¬ (bsF cmpM ((gt x.Away j).Map) x.Maps)) ∨ ((¬ (1 ≤ ((gt x.Away j).Reader) ∧ ((gt x.Away j).Reader) ≤ 999)) ∨ ((0 < (j : Int)) ∧ (0 ≤ (cmpA (gt x.Away (j - 1)) (gt x.Away j))))))))] ∧ Lo w96 w') ?_ ?_
          · refine QR.q' (fun w' hw' => r_mv (v := .bool _) rfl) <| QR.q' (fun w' hw' => r_not rfl) <| QR.q' (fun w' hw' => r_mv (v := .bool _) rfl) <| QR.splitN (fun h101 => ?_) (fun h101 => ?_)
            · refine QR.s' rfl <| QR.s' rfl <| QR.s' rfl <| QR.s' rfl <| QR.q' (fun w' hw' => r_pick true rfl (v := .bool true) rfl) <| QR.q' (fun w' hw' => r_mv (v := .bool _) rfl) <| QR.s' rfl <| QR.s' rfl <| QR.s' rfl <| QR.u' rfl <| QR.u' rfl <| QR.u' rfl <| QR.u' rfl <| QR.u' rfl <| QR.u' rfl <| QR.u' rfl <| QR.u' rfl <| QR.u' rfl <| QR.s' rfl <| QR.q' (fun w' hw' => r_pick true rfl (v := .bool true) rfl) <| QR.nil ?_
              intro w102 hk103
              exact ⟨⟨rfl, rfl, rfl, rfl, (eDT ((jmf h101).1 trivial)), trivial⟩, hk103⟩
            · refine QR.g' rfl (fun w' hw' => r_fa fa57_1 rfl) <| QR.g' rfl (fun w' hw' => r_ld (v := .int .i64 ((gt x.Away j).Reader)) sca3 rfl ((((hb90).lo hk97).lo hw').cell rfl)) <| QR.gcall rfl ent33 (fun w' hw' => (c_impl_isId w' ((gt x.Away j).Reader)).mono fun _ _ h => ⟨h.1, hw'.trans h.2⟩) rfl <| QR.g' rfl (fun w' hw' => r_not rfl) <| QR.q' (fun w' hw' => r_pick false rfl (v := .bool _) rfl) <| QR.q' (fun w' hw' => r_mv (v := .bool _) rfl) <| QR.splitN (fun h104 => ?_) (fun h104 => ?_)
              · refine QR.s' rfl <| QR.s' rfl <| QR.s' rfl <| QR.u' rfl <| QR.u' rfl <| QR.u' rfl <| QR.u' rfl <| QR.u' rfl <| QR.u' rfl <| QR.u' rfl <| QR.u' rfl <| QR.u' rfl <| QR.s' rfl <| QR.q' (fun w' hw' => r_pick true rfl (v := .bool true) rfl) <| QR.nil ?_
                intro w105 hk106
                exact ⟨⟨rfl, rfl, rfl, rfl, (eDT (((jmf h104).trans (jmt h101)).1 trivial)), trivial⟩, hk106⟩
              · refine QR.g' rfl (fun w' hw' => r_mv (v := .int .i64 _) rfl) <| QR.g' rfl (fun w' hw' => r_gt rfl rfl) <| QR.g' rfl (fun w' hw' => r_mv (v := .bool _) rfl) <| QR.splitD (fun h107 => ?_) (fun h107 => ?_)
                · refine QR.g' rfl (fun w' hw' => r_fa fa27_1 rfl) <| QR.g' rfl (fun w' hw' => r_ld (v := .slice Ax_Away nx_Away cx_Away) sca25 rfl ((((hm93).lo hk97).lo hw').cell rfl)) <| QR.g' rfl (fun w' hw' => r_mv (v := .int .i64 _) rfl) <| QR.g' rfl (fun w' hw' => r_sub rfl rfl (by omega)) <| ?_
                  have hx109 := ((hm95).lo hk97).elem (i := ((j : Int) - 1).toNat) (by omega)
                  rw [show ((j : Int) - 1).toNat = j - 1 from by omega] at hx109
                  have hx110 : x.Away[((j : Int) - 1).toNat]? = some (gt x.Away (j - 1)) := (show ((j : Int) - 1).toNat = j - 1 from by omega) ▸ hx109
                  refine QR.g' rfl (fun w' hw' => r_ixR tsl25 ((((hm95).lo hk97).lo hw')) rfl rfl (by omega)) <| QR.g' rfl (fun w' hw' => r_lda (l := encAway (gt x.Away (j - 1))) agg57 rfl (fun _ _ hu => ((((hm95).lo hk97).lo hw')).cell hx110 hu) (((((hm95).lo hk97).lo hw')).esz _)) <| QR.g' rfl (fun w' hw' => r_lda (l := [.int .i64 ((gt x.Away j).Map), .int .i64 ((gt x.Away j).Reader)]) agg57 rfl (fun _ _ hu => (((hb90).lo hk97).lo hw').cell hu) rfl) <| QR.gcall rfl ent48 (fun w' hw' => (c_impl_compareAway w' (gt x.Away (j - 1)) (gt x.Away j)).mono fun _ _ h => ⟨h.1, hw'.trans h.2⟩) rfl <| QR.g' rfl (fun w' hw' => r_ge rfl rfl) <| QR.g' rfl (fun w' hw' => r_pick true rfl (v := .bool _) rfl) <| QR.q' (fun w' hw' => r_pick false rfl (v := .bool _) rfl) <| QR.nil ?_
                  intro w111 hk112
                  exact ⟨⟨rfl, rfl, rfl, rfl, (eDD (((jat h107).trans (jmt h104)).trans (jmt h101))), trivial⟩, hk112⟩
                · refine QR.s' rfl <| QR.s' rfl <| QR.s' rfl <| QR.s' rfl <| QR.s' rfl <| QR.s' rfl <| QR.s' rfl <| QR.s' rfl <| QR.s' rfl <| QR.g' rfl (fun w' hw' => r_pick false rfl (v := .bool false) rfl) <| QR.q' (fun w' hw' => r_pick false rfl (v := .bool _) rfl) <| QR.nil ?_
                  intro w113 hk114
                  exact ⟨⟨rfl, rfl, rfl, rfl, (eDF (((jaf h107).trans (jmt h104)).trans (jmt h101)).2), trivial⟩, hk114⟩
          rintro f115 w116 ⟨hat117, hk118⟩
          rw [← sets_of_at hat117]
          have hz119 := hk118.size
          have hB120 := hB99.lo hk118
          refine W.cond_d rfl (fun h121 => ?_) (fun h121 => ?_)
          · refine W.seq ?_
            refine W.regS (SR.q' (r_as (v := .bool false) rfl) <| SR.nil ?_)
            refine W.ret ?_
            refine ret1 rfl (v := .bool _) rfl ?_
            exact ⟨eR (eDF (z_c_impl_IsLibrary_125 x nx_Maps hbdx_Maps hlex_Maps nx_Away hbdx_Away hlex_Away hp0 k hi16 h18 j hi74 h76 hx78 hq100 h121)), hB120⟩
          · have hq126 : bsF cmpM ((gt x.Away j).Map) x.Maps := (Classical.not_not.1 (not_or.1 h121).1)
            have hq127 : 1 ≤ ((gt x.Away j).Reader) ∧ ((gt x.Away j).Reader) ≤ 999 := (Classical.not_not.1 (not_or.1 (not_or.1 h121).2).1)
            have hq128 : ¬ ((0 < (j : Int)) ∧ (0 ≤ (cmpA (gt x.Away (j - 1)) (gt x.Away j)))) := (not_or.1 (not_or.1 h121).2).2
            refine W.skip ?_
            have hm129 := ((hm93).lo hk97).lo hk118
            have hm130 := ((hm94).lo hk97).lo hk118
            have hm131 := ((hm95).lo hk97).lo hk118
            refine W.regS (SR.q' (r_add rfl rfl (by omega)) <| SR.q' (r_mv (v := .int .i64 _) rfl) <| SR.nil ?_)
            refine ⟨j + 1, _, rfl, ⟨rfl, rfl, rfl, rfl, trivial⟩, ⟨hB120, hm129, hm130, hm131, ?_⟩, ?_⟩
            · exact (by exact ⟨by omega, ATo.next (And.right ‹_ ∧ ATo _ _ _›) (a_goodI (MTo.end_ (And.right ‹_ ∧ MTo _ _›) (by omega)) ‹_›)⟩)
            · exact (by omega)
        · refine W.exit (xin_here ?_)
          refine W.seq ?_
          refine W.regJD mo (by kernel_rfl) (fun f' w' => At f' [(2, .bool (decide (((nx_Maps : Int) ≤ 8) ∧ (((nx_Away : Int) ≤ 8) ∧ ((0 ≤ x.Bought ∧ x.Bought ≤ 9999) ∧ ((0 ≤ x.Dropped ∧ x.Dropped ≤ 9999) ∧ ((0 ≤ x.Mended ∧ x.Mended ≤ 9999) ∧ (x.Bought = (((sumC x.Maps) + (nx_Away : Int)) + x.Dropped)))))))))] ∧ Lo w68 w') ?_ ?_
          · refine QR.q' (fun w' hw' => r_fa fa27_0 rfl) <| QR.q' (fun w' hw' => r_ld (v := .slice Ax_Maps nx_Maps cx_Maps) sca24 rfl (((hm71).lo hw').cell rfl)) <| QR.q' (fun w' hw' => r_len und24 rfl) <| QR.q' (fun w' hw' => r_le rfl rfl) <| QR.q' (fun w' hw' => r_mv (v := .bool _) rfl) <| QR.splitD (fun h132 => ?_) (fun h132 => ?_)
            · refine QR.g' rfl (fun w' hw' => r_fa fa27_1 rfl) <| QR.g' rfl (fun w' hw' => r_ld (v := .slice Ax_Away nx_Away cx_Away) sca25 rfl (((hm71).lo hw').cell rfl)) <| QR.g' rfl (fun w' hw' => r_len und25 rfl) <| QR.g' rfl (fun w' hw' => r_le rfl rfl) <| QR.q' (fun w' hw' => r_pick true rfl (v := .bool _) rfl) <| QR.q' (fun w' hw' => r_mv (v := .bool _) rfl) <| QR.splitD (fun h133 => ?_) (fun h133 => ?_)
              · refine QR.g' rfl (fun w' hw' => r_fa fa27_2 rfl) <| QR.g' rfl (fun w' hw' => r_ld (v := .int .i64 x.Bought) sca3 rfl (((hm71).lo hw').cell rfl)) <| QR.gcall rfl ent49 (fun w' hw' => (c_impl_isSum w' x.Bought).mono fun _ _ h => ⟨h.1, hw'.trans h.2⟩) rfl <| QR.q' (fun w' hw' => r_pick true rfl (v := .bool _) rfl) <| QR.q' (fun w' hw' => r_mv (v := .bool _) rfl) <| QR.splitD (fun h134 => ?_) (fun h134 => ?_)
                · refine QR.g' rfl (fun w' hw' => r_fa fa27_3 rfl) <| QR.g' rfl (fun w' hw' => r_ld (v := .int .i64 x.Dropped) sca3 rfl (((hm71).lo hw').cell rfl)) <| QR.gcall rfl ent49 (fun w' hw' => (c_impl_isSum w' x.Dropped).mono fun _ _ h => ⟨h.1, hw'.trans h.2⟩) rfl <| QR.q' (fun w' hw' => r_pick true rfl (v := .bool _) rfl) <| QR.q' (fun w' hw' => r_mv (v := .bool _) rfl) <| QR.splitD (fun h135 => ?_) (fun h135 => ?_)
                  · refine QR.g' rfl (fun w' hw' => r_fa fa27_4 rfl) <| QR.g' rfl (fun w' hw' => r_ld (v := .int .i64 x.Mended) sca3 rfl (((hm71).lo hw').cell rfl)) <| QR.gcall rfl ent49 (fun w' hw' => (c_impl_isSum w' x.Mended).mono fun _ _ h => ⟨h.1, hw'.trans h.2⟩) rfl <| QR.q' (fun w' hw' => r_pick true rfl (v := .bool _) rfl) <| QR.q' (fun w' hw' => r_mv (v := .bool _) rfl) <| QR.splitD (fun h136 => ?_) (fun h136 => ?_)
                    · refine QR.g' rfl (fun w' hw' => r_fa fa27_2 rfl) <| QR.g' rfl (fun w' hw' => r_ld (v := .int .i64 x.Bought) sca3 rfl (((hm71).lo hw').cell rfl)) <| QR.g' rfl (fun w' hw' => r_lda (l := [.slice Ax_Maps nx_Maps cx_Maps, .slice Ax_Away nx_Away cx_Away, .int .i64 x.Bought, .int .i64 x.Dropped, .int .i64 x.Mended]) agg27 rfl (fun _ _ hu => ((hm71).lo hw').cell hu) rfl) <| QR.gcall rfl ent36 (fun w' hw' => (c__impl_Library__copies w' x ((((hm72).lo hw'))) ((((hm73).lo hw'))) (by first | assumption | exact MTo.end_ (And.right ‹_ ∧ MTo _ _›) (by omega)) (by omega)).mono fun _ _ h => ⟨h.1, hw'.trans h.2⟩) rfl <| ?_
                      have hq137 : 0 ≤ sumC x.Maps ∧ sumC x.Maps ≤ 792 := sumC_rng (by first | assumption | exact MTo.end_ (And.right ‹_ ∧ MTo _ _›) (by omega)) (by omega)
                      refine QR.g' rfl (fun w' hw' => r_fa fa27_1 rfl) <| QR.g' rfl (fun w' hw' => r_ld (v := .slice Ax_Away nx_Away cx_Away) sca25 rfl (((hm71).lo hw').cell rfl)) <| QR.g' rfl (fun w' hw' => r_len und25 rfl) <| QR.g' rfl (fun w' hw' => r_add rfl rfl (by omega)) <| QR.g' rfl (fun w' hw' => r_fa fa27_3 rfl) <| QR.g' rfl (fun w' hw' => r_ld (v := .int .i64 x.Dropped) sca3 rfl (((hm71).lo hw').cell rfl)) <| QR.g' rfl (fun w' hw' => r_add rfl rfl (by omega)) <| QR.g' rfl (fun w' hw' => r_eq rfl rfl) <| QR.q' (fun w' hw' => r_pick true rfl (v := .bool _) rfl) <| QR.q' (fun w' hw' => r_as (v := .bool _) rfl) <| QR.nil ?_
                      intro w138 hk139
                      exact ⟨⟨(eDD (((((jat h136).trans (jat h135)).trans (jat h134)).trans (jat h133)).trans (jat h132))), trivial⟩, hk139⟩
                    · refine QR.s' rfl <| QR.s' rfl <| QR.s' rfl <| QR.s' rfl <| QR.s' rfl <| QR.s' rfl <| QR.s' rfl <| QR.s' rfl <| QR.s' rfl <| QR.s' rfl <| QR.s' rfl <| QR.s' rfl <| QR.q' (fun w' hw' => r_pick false rfl (v := .bool false) rfl) <| QR.q' (fun w' hw' => r_as (v := .bool _) rfl) <| QR.nil ?_
                      intro w140 hk141
                      exact ⟨⟨(eDF (((((jaf h136).trans (jat h135)).trans (jat h134)).trans (jat h133)).trans (jat h132)).2), trivial⟩, hk141⟩
                  · refine QR.s' rfl <| QR.s' rfl <| QR.s' rfl <| QR.q' (fun w' hw' => r_pick false rfl (v := .bool false) rfl) <| QR.q' (fun w' hw' => r_mv (v := .bool _) rfl) <| QR.s' rfl <| QR.s' rfl <| QR.s' rfl <| QR.s' rfl <| QR.s' rfl <| QR.s' rfl <| QR.s' rfl <| QR.s' rfl <| QR.s' rfl <| QR.s' rfl <| QR.s' rfl <| QR.s' rfl <| QR.q' (fun w' hw' => r_pick false rfl (v := .bool false) rfl) <| QR.q' (fun w' hw' => r_as (v := .bool _) rfl) <| QR.nil ?_
                    intro w142 hk143
                    exact ⟨⟨(eDF ((((jaf h135).trans (jat h134)).trans (jat h133)).trans (jat h132)).2), trivial⟩, hk143⟩
                · refine QR.s' rfl <| QR.s' rfl <| QR.s' rfl <| QR.q' (fun w' hw' => r_pick false rfl (v := .bool false) rfl) <| QR.q' (fun w' hw' => r_mv (v := .bool _) rfl) <| QR.s' rfl <| QR.s' rfl <| QR.s' rfl <| QR.q' (fun w' hw' => r_pick false rfl (v := .bool false) rfl) <| QR.q' (fun w' hw' => r_mv (v := .bool _) rfl) <| QR.s' rfl <| QR.s' rfl <| QR.s' rfl <| QR.s' rfl <| QR.s' rfl <| QR.s' rfl <| QR.s' rfl <| QR.s' rfl <| QR.s' rfl <| QR.s' rfl <| QR.s' rfl <| QR.s' rfl <| QR.q' (fun w' hw' => r_pick false rfl (v := .bool false) rfl) <| QR.q' (fun w' hw' => r_as (v := .bool _) rfl) <| QR.nil ?_
                  intro w144 hk145
                  exact ⟨⟨(eDF (((jaf h134).trans (jat h133)).trans (jat h132)).2), trivial⟩, hk145⟩
              · refine QR.s' rfl <| QR.s' rfl <| QR.s' rfl <| QR.q' (fun w' hw' => r_pick false rfl (v := .bool false) rfl) <| QR.q' (fun w' hw' => r_mv (v := .bool _) rfl) <| QR.s' rfl <| QR.s' rfl <| QR.s' rfl <| QR.q' (fun w' hw' => r_pick false rfl (v := .bool false) rfl) <| QR.q' (fun w' hw' => r_mv (v := .bool _) rfl) <| QR.s' rfl <| QR.s' rfl <| QR.s' rfl <| QR.q' (fun w' hw' => r_pick false rfl (v := .bool false) rfl) <| QR.q' (fun w' hw' => r_mv (v := .bool _) rfl) <| QR.s' rfl <| QR.s' rfl <| QR.s' rfl <| QR.s' rfl <| QR.s' rfl <| QR.s' rfl <| QR.s' rfl <| QR.s' rfl <| QR.s' rfl <| QR.s' rfl <| QR.s' rfl <| QR.s' rfl <| QR.q' (fun w' hw' => r_pick false rfl (v := .bool false) rfl) <| QR.q' (fun w' hw' => r_as (v := .bool _) rfl) <| QR.nil ?_
                intro w146 hk147
                exact ⟨⟨(eDF ((jaf h133).trans (jat h132)).2), trivial⟩, hk147⟩
            · refine QR.s' rfl <| QR.s' rfl <| QR.s' rfl <| QR.s' rfl <| QR.q' (fun w' hw' => r_pick false rfl (v := .bool false) rfl) <| QR.q' (fun w' hw' => r_mv (v := .bool _) rfl) <| QR.s' rfl <| QR.s' rfl <| QR.s' rfl <| QR.q' (fun w' hw' => r_pick false rfl (v := .bool false) rfl) <| QR.q' (fun w' hw' => r_mv (v := .bool _) rfl) <| QR.s' rfl <| QR.s' rfl <| QR.s' rfl <| QR.q' (fun w' hw' => r_pick false rfl (v := .bool false) rfl) <| QR.q' (fun w' hw' => r_mv (v := .bool _) rfl) <| QR.s' rfl <| QR.s' rfl <| QR.s' rfl <| QR.q' (fun w' hw' => r_pick false rfl (v := .bool false) rfl) <| QR.q' (fun w' hw' => r_mv (v := .bool _) rfl) <| QR.s' rfl <| QR.s' rfl <| QR.s' rfl <| QR.s' rfl <| QR.s' rfl <| QR.s' rfl <| QR.s' rfl <| QR.s' rfl <| QR.s' rfl <| QR.s' rfl <| QR.s' rfl <| QR.s' rfl <| QR.q' (fun w' hw' => r_pick false rfl (v := .bool false) rfl) <| QR.q' (fun w' hw' => r_as (v := .bool _) rfl) <| QR.nil ?_
              intro w148 hk149
              exact ⟨⟨(eDF (jaf h132).2), trivial⟩, hk149⟩
          rintro f150 w151 ⟨hat152, hk153⟩
          rw [← sets_of_at hat152]
          have hz154 := hk153.size
          have hB155 := hB69.lo hk153
          refine W.ret ?_
          refine ret1 rfl (v := .bool _) rfl ?_
          exact ⟨eR (eDD (z_c_impl_IsLibrary_156 x nx_Maps hbdx_Maps hlex_Maps nx_Away hbdx_Away hlex_Away hp0 k hi16 h18 j hi74 h76)), hB155⟩
end Go.Proofs.YtgobbcilgcbkaaaDoor
