/- Walks, printed by a program of this claim's author. -/
import Derived.Test.YtgobbcilgcbkaaaChecked
import Derived.Test.YtgobbcilgcbkaaaUa
import Derived.Test.YtgobbcilgcbkaaaFu
import Derived.Test.YtgobbcilgcbkaaaFs
import Derived.Test.YtgobbcilgcbkaaaFq
import Derived.Test.YtgobbcilgcbkaaaFo
import Derived.Test.YtgobbcilgcbkaaaDa
import Derived.Test.YtgobbcilgcbkaaaG32b
namespace Go.Proofs.Ytgobbcilgcbkaaa
open Go Go.RowKit Fw
set_option maxRecDepth 10000
set_option maxHeartbeats 2000000
set_option linter.unusedVariables false
theorem agg27 : TAgg Try.prog 27 5 := ⟨fun _ => by kernel_rfl, fun _ => by kernel_rfl⟩
theorem ent23 : Ent Try.prog 23 := ent_of Try.func23 (by decide +kernel) rfl
theorem ent28 : Ent Try.prog 28 := ent_of Try.func28 (by decide +kernel) rfl
theorem ent30 : Ent Try.prog 30 := ent_of Try.func30 (by decide +kernel) rfl
theorem ent31 : Ent Try.prog 31 := ent_of Try.func31 (by decide +kernel) rfl
theorem ent32 : Ent Try.prog 32 := ent_of Try.func32 (by decide +kernel) rfl
theorem ent33 : Ent Try.prog 33 := ent_of Try.func33 (by decide +kernel) rfl
theorem ent34 : Ent Try.prog 34 := ent_of Try.func34 (by decide +kernel) rfl
theorem ent45 : Ent Try.prog 45 := ent_of Try.func45 (by decide +kernel) rfl
theorem ent46 : Ent Try.prog 46 := ent_of Try.func46 (by decide +kernel) rfl
theorem ent47 : Ent Try.prog 47 := ent_of Try.func47 (by decide +kernel) rfl
theorem ent48 : Ent Try.prog 48 := ent_of Try.func48 (by decide +kernel) rfl
theorem ent49 : Ent Try.prog 49 := ent_of Try.func49 (by decide +kernel) rfl
theorem fa27_1 : FA Try.prog 27 1 1 := fun _ _ => by kernel_rfl
theorem fa27_2 : FA Try.prog 27 2 2 := fun _ _ => by kernel_rfl
theorem fa27_3 : FA Try.prog 27 3 3 := fun _ _ => by kernel_rfl
theorem fa27_4 : FA Try.prog 27 4 4 := fun _ _ => by kernel_rfl
theorem sca25 : TSca Try.prog 25 := ⟨fun _ => by kernel_rfl, fun _ => by kernel_rfl⟩
theorem tz63 : TZ Try.prog 63 (.agg (List.toArray [.int .i64 0, .int .i64 0])) := fun _ => by kernel_rfl

theorem c_spec_l32Map (w : World) (x : Library) {Ax_Maps : Option Addr} {nx_Maps cx_Maps Bx_Maps : Nat} (hx_Maps : SlR w Bx_Maps encLMap 3 Ax_Maps nx_Maps cx_Maps x.Maps) {Ax_Away : Option Addr} {nx_Away cx_Away Bx_Away : Nat} (hx_Away : SlR w Bx_Away encAway 2 Ax_Away nx_Away cx_Away x.Away) (id : Int) : Calls Try.prog 49 #[.agg (List.toArray [.slice Ax_Maps nx_Maps cx_Maps, .slice Ax_Away nx_Away cx_Away, .int .i64 x.Bought, .int .i64 x.Dropped, .int .i64 x.Mended]), .int .i64 id] w fun e w' => e = .returned (.int .i64 (idxF (hasId id) x.Maps)) ∧ Lo w w' := by
  refine calls_W 22 Try.func49 rfl rfl rfl ?_
  have hbdx_Maps := hx_Maps.bound
  have hlex_Maps := hx_Maps.len
  have hBbx_Maps := hx_Maps.bd
  have hbdx_Away := hx_Away.bound
  have hlex_Away := hx_Away.len
  have hBbx_Away := hx_Away.bd
  refine W.seq ?_
  refine W.regS (SR.box (v := .agg (List.toArray _)) (l := [.slice Ax_Maps nx_Maps cx_Maps, .slice Ax_Away nx_Away cx_Away, .int .i64 x.Bought, .int .i64 x.Dropped, .int .i64 x.Mended]) rfl rfl ?_)
  intro g1 w2 hg3 hk4 hs5 hb6
  have hz7 := hk4.size
  have hB8 := (Lo.refl w).lo hk4
  refine SR.q' (r_as (v := .int .i64 0) rfl) <| SR.nil ?_
  refine W.seq ?_
  refine W.seq ?_
  refine W.regS (SR.q' (r_as (v := .int .i64 0) rfl) <| SR.nil ?_)
  refine W.block ?_
  refine W.loop (σ := Nat) (fun g => [(1, .int .i64 id), (2, .pointer (pA g1)), (5, .int .i64 (g : Int))]) (fun g w' => (Lo w w') ∧ (Blk w' g1 27 [.slice Ax_Maps nx_Maps cx_Maps, .slice Ax_Away nx_Away cx_Away, .int .i64 x.Bought, .int .i64 x.Dropped, .int .i64 x.Mended]) ∧ (SlR w' Bx_Maps encLMap 3 Ax_Maps nx_Maps cx_Maps x.Maps) ∧ (SlR w' Bx_Away encAway 2 Ax_Away nx_Away cx_Away x.Away) ∧ (g ≤ nx_Maps ∧ NoneTo (hasId id) x.Maps g)) (fun g => nx_Maps - g) 0 ?_ ?_ ?_
  · exact ⟨rfl, rfl, rfl, trivial⟩
  · exact ⟨hB8, hb6, (hx_Maps).lo hk4, (hx_Away).lo hk4, (by exact ⟨Nat.zero_le _, NoneTo.zero⟩)⟩
  · rintro k f9 w10 hP12
    obtain ⟨hB11, hm13, hm14, hm15, hi16⟩ : (Lo w w10) ∧ (Blk w10 g1 27 [.slice Ax_Maps nx_Maps cx_Maps, .slice Ax_Away nx_Away cx_Away, .int .i64 x.Bought, .int .i64 x.Dropped, .int .i64 x.Mended]) ∧ (SlR w10 Bx_Maps encLMap 3 Ax_Maps nx_Maps cx_Maps x.Maps) ∧ (SlR w10 Bx_Away encAway 2 Ax_Away nx_Away cx_Away x.Away) ∧ (k ≤ nx_Maps ∧ NoneTo (hasId id) x.Maps k) := hP12
    refine (?_ : W _ _ _ _ _ (act _ (sets f9 [(1, .int .i64 id), (2, .pointer (pA g1)), (5, .int .i64 (k : Int))])) _)
    have hzw10 := hB11.size
    have hl17 := hm13.lt
    refine W.seq ?_
    refine W.seq ?_
    refine W.regS (SR.q' (r_mv (v := .int .i64 _) rfl) <| SR.q' (r_fa fa27_0 rfl) <| SR.q' (r_ld (v := .slice Ax_Maps nx_Maps cx_Maps) sca24 rfl ((hm13).cell rfl)) <| SR.q' (r_len und24 rfl) <| SR.q' (r_lt rfl rfl) <| SR.nil ?_)
    refine W.cond_d rfl (fun h18 => ?_) (fun h18 => ?_)
    · refine W.skip ?_
      refine W.seq ?_
      refine W.block ?_
      refine W.seq ?_
      refine W.regS (SR.q' (r_fa fa27_0 rfl) <| SR.q' (r_ld (v := .slice Ax_Maps nx_Maps cx_Maps) sca24 rfl ((hm13).cell rfl)) <| SR.q' (r_mv (v := .int .i64 _) rfl) <| ?_)
      have hx20 := (hm14).elem (i := k) (by omega)
      refine SR.q' (r_ixR tsl24 (hm14) rfl rfl (by omega)) <| SR.q' (r_fa fa59_0 rfl) <| SR.q' (r_ld (v := .int .i64 ((gt x.Maps k).Id)) sca3 rfl ((hm14).cell hx20 rfl)) <| SR.q' (r_mv (v := .int .i64 _) rfl) <| SR.q' (r_eq rfl rfl) <| SR.nil ?_
      refine W.cond_d rfl (fun h21 => ?_) (fun h21 => ?_)
      · refine W.seq ?_
        refine W.regS (SR.q' (r_mv (v := .int .i64 _) rfl) <| SR.q' (r_as (v := .int .i64 _) rfl) <| SR.nil ?_)
        refine W.ret ?_
        refine ret1 rfl (v := .int .i64 _) rfl ?_
        exact ⟨eR (eI (by first | exact idx_at (And.right ‹_ ∧ NoneTo _ _ _›) ‹x.Maps[k]? = some _› (by simpa [hasId] using ‹_›) | exact idx_no (And.right ‹_ ∧ NoneTo _ _ _›) hlex_Maps ‹_›)), hB11⟩
      · refine W.skip ?_
        refine W.regS (SR.q' (r_mv (v := .int .i64 _) rfl) <| SR.q' (r_add rfl rfl (by omega)) <| SR.q' (r_as (v := .int .i64 _) rfl) <| SR.nil ?_)
        refine ⟨k + 1, _, rfl, ⟨rfl, rfl, rfl, trivial⟩, ⟨hB11, hm13, hm14, hm15, ?_⟩, ?_⟩
        · exact (by exact ⟨by omega, NoneTo.next (And.right ‹_ ∧ NoneTo _ _ _›) ‹x.Maps[k]? = some _› (by simpa [hasId] using ‹_›)⟩)
        · exact (by omega)
    · refine W.exit (xin_here ?_)
      refine W.seq ?_
      refine W.regS (SR.q' (r_as (v := .int .i64 (-1)) rfl) <| SR.nil ?_)
      refine W.ret ?_
      refine ret1 rfl (v := .int .i64 _) rfl ?_
      exact ⟨eR (eI (by first | exact idx_at (And.right ‹_ ∧ NoneTo _ _ _›) ‹x.Maps[k]? = some _› (by simpa [hasId] using ‹_›) | exact idx_no (And.right ‹_ ∧ NoneTo _ _ _›) hlex_Maps ‹_›)), hB11⟩

theorem c_spec_l32Maps (w : World) (x : Library) {Ax_Maps : Option Addr} {nx_Maps cx_Maps Bx_Maps : Nat} (hx_Maps : SlR w Bx_Maps encLMap 3 Ax_Maps nx_Maps cx_Maps x.Maps) {Ax_Away : Option Addr} {nx_Away cx_Away Bx_Away : Nat} (hx_Away : SlR w Bx_Away encAway 2 Ax_Away nx_Away cx_Away x.Away) : Calls Try.prog 45 #[.agg (List.toArray [.slice Ax_Maps nx_Maps cx_Maps, .slice Ax_Away nx_Away cx_Away, .int .i64 x.Bought, .int .i64 x.Dropped, .int .i64 x.Mended])] w fun e w' => e = .returned (.bool (decide (MapsOK x.Maps ∧ x.Maps.length ≤ 8))) ∧ Lo w w' := by
  refine calls_W 55 Try.func45 rfl rfl rfl ?_
  have hbdx_Maps := hx_Maps.bound
  have hlex_Maps := hx_Maps.len
  have hBbx_Maps := hx_Maps.bd
  have hbdx_Away := hx_Away.bound
  have hlex_Away := hx_Away.len
  have hBbx_Away := hx_Away.bd
  refine W.seq ?_
  refine W.regS (SR.box (v := .agg (List.toArray _)) (l := [.slice Ax_Maps nx_Maps cx_Maps, .slice Ax_Away nx_Away cx_Away, .int .i64 x.Bought, .int .i64 x.Dropped, .int .i64 x.Mended]) rfl rfl ?_)
  intro g1 w2 hg3 hk4 hs5 hb6
  have hz7 := hk4.size
  have hB8 := (Lo.refl w).lo hk4
  refine SR.q' (r_as (v := .bool false) rfl) <| SR.nil ?_
  refine W.seq ?_
  refine W.seq ?_
  refine W.regS (SR.q' (r_as (v := .int .i64 0) rfl) <| SR.nil ?_)
  refine W.block ?_
  refine W.loop (σ := Nat) (fun g => [(1, .pointer (pA g1)), (3, .int .i64 (g : Int))]) (fun g w' => (Lo w w') ∧ (Blk w' g1 27 [.slice Ax_Maps nx_Maps cx_Maps, .slice Ax_Away nx_Away cx_Away, .int .i64 x.Bought, .int .i64 x.Dropped, .int .i64 x.Mended]) ∧ (SlR w' Bx_Maps encLMap 3 Ax_Maps nx_Maps cx_Maps x.Maps) ∧ (SlR w' Bx_Away encAway 2 Ax_Away nx_Away cx_Away x.Away) ∧ (g ≤ nx_Maps ∧ MTo x.Maps g)) (fun g => nx_Maps - g) 0 ?_ ?_ ?_
  · exact ⟨rfl, rfl, trivial⟩
  · exact ⟨hB8, hb6, (hx_Maps).lo hk4, (hx_Away).lo hk4, (by exact ⟨Nat.zero_le _, MTo.zero⟩)⟩
  · rintro k f9 w10 hP12
    obtain ⟨hB11, hm13, hm14, hm15, hi16⟩ : (Lo w w10) ∧ (Blk w10 g1 27 [.slice Ax_Maps nx_Maps cx_Maps, .slice Ax_Away nx_Away cx_Away, .int .i64 x.Bought, .int .i64 x.Dropped, .int .i64 x.Mended]) ∧ (SlR w10 Bx_Maps encLMap 3 Ax_Maps nx_Maps cx_Maps x.Maps) ∧ (SlR w10 Bx_Away encAway 2 Ax_Away nx_Away cx_Away x.Away) ∧ (k ≤ nx_Maps ∧ MTo x.Maps k) := hP12
    refine (?_ : W _ _ _ _ _ (act _ (sets f9 [(1, .pointer (pA g1)), (3, .int .i64 (k : Int))])) _)
    have hzw10 := hB11.size
    have hl17 := hm13.lt
    refine W.seq ?_
    refine W.seq ?_
    refine W.regS (SR.q' (r_mv (v := .int .i64 _) rfl) <| SR.q' (r_fa fa27_0 rfl) <| SR.q' (r_ld (v := .slice Ax_Maps nx_Maps cx_Maps) sca24 rfl ((hm13).cell rfl)) <| SR.q' (r_len und24 rfl) <| SR.q' (r_lt rfl rfl) <| SR.nil ?_)
    refine W.cond_d rfl (fun h18 => ?_) (fun h18 => ?_)
    · refine W.skip ?_
      refine W.seq ?_
      refine W.block ?_
      refine W.seq ?_
      refine W.regS (SR.q' (r_fa fa27_0 rfl) <| SR.q' (r_ld (v := .slice Ax_Maps nx_Maps cx_Maps) sca24 rfl ((hm13).cell rfl)) <| SR.q' (r_mv (v := .int .i64 _) rfl) <| ?_)
      have hx20 := (hm14).elem (i := k) (by omega)
      refine SR.q' (r_ixR tsl24 (hm14) rfl rfl (by omega)) <| SR.q' (r_lda (l := encLMap (gt x.Maps k)) agg59 rfl (fun _ _ hu => (hm14).cell hx20 hu) ((hm14).esz _)) <| SR.alloc (l := [.int .i64 0, .int .i64 0, .int .i64 0]) tz59 rfl ?_
      intro g21 w22 hg23 hk24 hs25 hb26
      have hz27 := hk24.size
      have hB28 := hB11.lo hk24
      refine SR.store (o := 0) (vs := [.int .i64 ((gt x.Maps k).Id), .int .i64 ((gt x.Maps k).Copies), .int .i64 ((gt x.Maps k).Torn)]) agg59.2 rfl rfl rfl rfl (hb26) (Nat.le_of_ble_eq_true rfl) rfl ?_
      intro w29 hk30 hs31 hb32
      have hz33 := hk30.size
      have hB34 := hB28.new hk30 (by omega)
      refine SR.nil ?_
      refine W.seq ?_
      refine W.regJD mo (by kernel_rfl) (fun f' w' => At f' [(1, .pointer (pA g1)), (3, .int .i64 (k : Int)), (50, .bool (decide ((¬ (1 ≤ ((gt x.Maps k).Id) ∧ ((gt x.Maps k).Id) ≤ 99)) ∨ ((¬ (0 ≤ ((gt x.Maps k).Copies) ∧ ((gt x.Maps k).Copies) ≤ 99)) ∨ ((¬ (0 ≤ ((gt x.Maps k).Torn) ∧ ((gt x.Maps k).Torn) ≤ ((gt x.Maps k).Copies))) ∨ ((0 < (k : Int)) ∧ (((gt x.Maps k).Id) ≤ ((gt x.Maps (k - 1)).Id))))))))] ∧ Lo w29 w') ?_ ?_
      · refine QR.q' (fun w' hw' => r_fa fa59_0 rfl) <| QR.q' (fun w' hw' => r_ld (v := .int .i64 ((gt x.Maps k).Id)) sca3 rfl (((hb32).lo hw').cell rfl)) <| QR.call ent50 (fun w' hw' => (c_spec_l1In w' ((gt x.Maps k).Id) 1 99).mono fun _ _ h => ⟨h.1, hw'.trans h.2⟩) rfl <| QR.q' (fun w' hw' => r_not rfl) <| QR.q' (fun w' hw' => r_mv (v := .bool _) rfl) <| QR.splitN (fun h35 => ?_) (fun h35 => ?_)
        · refine QR.s' rfl <| QR.s' rfl <| QR.s' rfl <| QR.s' rfl <| QR.q' (fun w' hw' => r_pick true rfl (v := .bool true) rfl) <| QR.q' (fun w' hw' => r_mv (v := .bool _) rfl) <| QR.s' rfl <| QR.s' rfl <| QR.s' rfl <| QR.s' rfl <| QR.s' rfl <| QR.s' rfl <| QR.q' (fun w' hw' => r_pick true rfl (v := .bool true) rfl) <| QR.q' (fun w' hw' => r_mv (v := .bool _) rfl) <| QR.s' rfl <| QR.s' rfl <| QR.s' rfl <| QR.u' rfl <| QR.u' rfl <| QR.u' rfl <| QR.u' rfl <| QR.u' rfl <| QR.u' rfl <| QR.u' rfl <| QR.u' rfl <| QR.u' rfl <| QR.u' rfl <| QR.s' rfl <| QR.q' (fun w' hw' => r_pick true rfl (v := .bool true) rfl) <| QR.nil ?_
          intro w36 hk37
          exact ⟨⟨rfl, rfl, (eDT ((jmf h35).1 trivial)), trivial⟩, hk37⟩
        · refine QR.g' rfl (fun w' hw' => r_fa fa59_1 rfl) <| QR.g' rfl (fun w' hw' => r_ld (v := .int .i64 ((gt x.Maps k).Copies)) sca3 rfl (((hb32).lo hw').cell rfl)) <| QR.gcall rfl ent50 (fun w' hw' => (c_spec_l1In w' ((gt x.Maps k).Copies) 0 99).mono fun _ _ h => ⟨h.1, hw'.trans h.2⟩) rfl <| QR.g' rfl (fun w' hw' => r_not rfl) <| QR.q' (fun w' hw' => r_pick false rfl (v := .bool _) rfl) <| QR.q' (fun w' hw' => r_mv (v := .bool _) rfl) <| QR.splitN (fun h38 => ?_) (fun h38 => ?_)
          · refine QR.s' rfl <| QR.s' rfl <| QR.s' rfl <| QR.s' rfl <| QR.s' rfl <| QR.s' rfl <| QR.q' (fun w' hw' => r_pick true rfl (v := .bool true) rfl) <| QR.q' (fun w' hw' => r_mv (v := .bool _) rfl) <| QR.s' rfl <| QR.s' rfl <| QR.s' rfl <| QR.u' rfl <| QR.u' rfl <| QR.u' rfl <| QR.u' rfl <| QR.u' rfl <| QR.u' rfl <| QR.u' rfl <| QR.u' rfl <| QR.u' rfl <| QR.u' rfl <| QR.s' rfl <| QR.q' (fun w' hw' => r_pick true rfl (v := .bool true) rfl) <| QR.nil ?_
            intro w39 hk40
            exact ⟨⟨rfl, rfl, (eDT (((jmf h38).trans (jmt h35)).1 trivial)), trivial⟩, hk40⟩
          · refine QR.g' rfl (fun w' hw' => r_fa fa59_2 rfl) <| QR.g' rfl (fun w' hw' => r_ld (v := .int .i64 ((gt x.Maps k).Torn)) sca3 rfl (((hb32).lo hw').cell rfl)) <| QR.g' rfl (fun w' hw' => r_fa fa59_1 rfl) <| QR.g' rfl (fun w' hw' => r_ld (v := .int .i64 ((gt x.Maps k).Copies)) sca3 rfl (((hb32).lo hw').cell rfl)) <| QR.gcall rfl ent50 (fun w' hw' => (c_spec_l1In w' ((gt x.Maps k).Torn) 0 ((gt x.Maps k).Copies)).mono fun _ _ h => ⟨h.1, hw'.trans h.2⟩) rfl <| QR.g' rfl (fun w' hw' => r_not rfl) <| QR.q' (fun w' hw' => r_pick false rfl (v := .bool _) rfl) <| QR.q' (fun w' hw' => r_mv (v := .bool _) rfl) <| QR.splitN (fun h41 => ?_) (fun h41 => ?_)
            · refine QR.s' rfl <| QR.s' rfl <| QR.s' rfl <| QR.u' rfl <| QR.u' rfl <| QR.u' rfl <| QR.u' rfl <| QR.u' rfl <| QR.u' rfl <| QR.u' rfl <| QR.u' rfl <| QR.u' rfl <| QR.u' rfl <| QR.s' rfl <| QR.q' (fun w' hw' => r_pick true rfl (v := .bool true) rfl) <| QR.nil ?_
              intro w42 hk43
              exact ⟨⟨rfl, rfl, (eDT ((((jmf h41).trans (jmt h38)).trans (jmt h35)).1 trivial)), trivial⟩, hk43⟩
            · refine QR.g' rfl (fun w' hw' => r_mv (v := .int .i64 _) rfl) <| QR.g' rfl (fun w' hw' => r_gt rfl rfl) <| QR.g' rfl (fun w' hw' => r_mv (v := .bool _) rfl) <| QR.splitD (fun h44 => ?_) (fun h44 => ?_)
              · refine QR.g' rfl (fun w' hw' => r_fa fa27_0 rfl) <| QR.g' rfl (fun w' hw' => r_ld (v := .slice Ax_Maps nx_Maps cx_Maps) sca24 rfl (((((hm13).lo hk24).kn hk30 (by omega)).lo hw').cell rfl)) <| QR.g' rfl (fun w' hw' => r_mv (v := .int .i64 _) rfl) <| QR.g' rfl (fun w' hw' => r_sub rfl rfl (by omega)) <| ?_
                have hx46 := (((hm14).lo hk24).kn hk30 (by omega)).elem (i := ((k : Int) - 1).toNat) (by omega)
                rw [show ((k : Int) - 1).toNat = k - 1 from by omega] at hx46
                have hx47 : x.Maps[((k : Int) - 1).toNat]? = some (gt x.Maps (k - 1)) := (show ((k : Int) - 1).toNat = k - 1 from by omega) ▸ hx46
                refine QR.g' rfl (fun w' hw' => r_ixR tsl24 (((((hm14).lo hk24).kn hk30 (by omega)).lo hw')) rfl rfl (by omega)) <| QR.g' rfl (fun w' hw' => r_fa fa59_0 rfl) <| QR.g' rfl (fun w' hw' => r_ld (v := .int .i64 ((gt x.Maps (k - 1)).Id)) sca3 rfl ((((((hm14).lo hk24).kn hk30 (by omega)).lo hw')).cell hx47 rfl)) <| QR.g' rfl (fun w' hw' => r_fa fa59_0 rfl) <| QR.g' rfl (fun w' hw' => r_ld (v := .int .i64 ((gt x.Maps k).Id)) sca3 rfl (((hb32).lo hw').cell rfl)) <| QR.g' rfl (fun w' hw' => r_ge rfl rfl) <| QR.g' rfl (fun w' hw' => r_pick true rfl (v := .bool _) rfl) <| QR.q' (fun w' hw' => r_pick false rfl (v := .bool _) rfl) <| QR.nil ?_
                intro w48 hk49
                exact ⟨⟨rfl, rfl, (eDD ((((jat h44).trans (jmt h41)).trans (jmt h38)).trans (jmt h35))), trivial⟩, hk49⟩
              · refine QR.s' rfl <| QR.s' rfl <| QR.s' rfl <| QR.s' rfl <| QR.s' rfl <| QR.s' rfl <| QR.s' rfl <| QR.s' rfl <| QR.s' rfl <| QR.s' rfl <| QR.g' rfl (fun w' hw' => r_pick false rfl (v := .bool false) rfl) <| QR.q' (fun w' hw' => r_pick false rfl (v := .bool _) rfl) <| QR.nil ?_
                intro w50 hk51
                exact ⟨⟨rfl, rfl, (eDF ((((jaf h44).trans (jmt h41)).trans (jmt h38)).trans (jmt h35)).2), trivial⟩, hk51⟩
      rintro f52 w53 ⟨hat54, hk55⟩
      rw [← sets_of_at hat54]
      have hz56 := hk55.size
      have hB57 := hB34.lo hk55
      refine W.cond_d rfl (fun h58 => ?_) (fun h58 => ?_)
      · refine W.seq ?_
        refine W.regS (SR.q' (r_as (v := .bool false) rfl) <| SR.nil ?_)
        refine W.ret ?_
        refine ret1 rfl (v := .bool _) rfl ?_
        exact ⟨eR (eDF (by subst hlex_Maps; first | exact (fun hh => hh.1 k (by omega) ‹_›) | (have h1 := MTo.end_ (And.right ‹_ ∧ MTo _ _›) (by omega); exact ⟨fun h => ⟨h1, by omega⟩, fun h => by omega⟩))), hB57⟩
      · have hq59 : 1 ≤ ((gt x.Maps k).Id) ∧ ((gt x.Maps k).Id) ≤ 99 := (Classical.not_not.1 (not_or.1 h58).1)
        have hq60 : 0 ≤ ((gt x.Maps k).Copies) ∧ ((gt x.Maps k).Copies) ≤ 99 := (Classical.not_not.1 (not_or.1 (not_or.1 h58).2).1)
        have hq61 : 0 ≤ ((gt x.Maps k).Torn) ∧ ((gt x.Maps k).Torn) ≤ ((gt x.Maps k).Copies) := (Classical.not_not.1 (not_or.1 (not_or.1 (not_or.1 h58).2).2).1)
        have hq62 : ¬ ((0 < (k : Int)) ∧ (((gt x.Maps k).Id) ≤ ((gt x.Maps (k - 1)).Id))) := (not_or.1 (not_or.1 (not_or.1 h58).2).2).2
        refine W.skip ?_
        refine W.regS (SR.q' (r_mv (v := .int .i64 _) rfl) <| SR.q' (r_add rfl rfl (by omega)) <| SR.q' (r_as (v := .int .i64 _) rfl) <| SR.nil ?_)
        refine ⟨k + 1, _, rfl, ⟨rfl, rfl, trivial⟩, ⟨hB57, (((hm13).lo hk24).kn hk30 (by omega)).lo hk55, (((hm14).lo hk24).kn hk30 (by omega)).lo hk55, (((hm15).lo hk24).kn hk30 (by omega)).lo hk55, ?_⟩, ?_⟩
        · exact (by exact ⟨by omega, MTo.next (And.right ‹_ ∧ MTo _ _›) ‹_›⟩)
        · exact (by omega)
    · refine W.exit (xin_here ?_)
      refine W.seq ?_
      refine W.regS (SR.q' (r_fa fa27_0 rfl) <| SR.q' (r_ld (v := .slice Ax_Maps nx_Maps cx_Maps) sca24 rfl ((hm13).cell rfl)) <| SR.q' (r_len und24 rfl) <| SR.q' (r_le rfl rfl) <| SR.q' (r_as (v := .bool _) rfl) <| SR.nil ?_)
      refine W.ret ?_
      refine ret1 rfl (v := .bool _) rfl ?_
      exact ⟨eR (eDD (by subst hlex_Maps; first | exact (fun hh => hh.1 k (by omega) ‹_›) | (have h1 := MTo.end_ (And.right ‹_ ∧ MTo _ _›) (by omega); exact ⟨fun h => ⟨h1, by omega⟩, fun h => by omega⟩))), hB11⟩

theorem c_spec_l32Lent (w : World) (x : Library) {Ax_Maps : Option Addr} {nx_Maps cx_Maps Bx_Maps : Nat} (hx_Maps : SlR w Bx_Maps encLMap 3 Ax_Maps nx_Maps cx_Maps x.Maps) {Ax_Away : Option Addr} {nx_Away cx_Away Bx_Away : Nat} (hx_Away : SlR w Bx_Away encAway 2 Ax_Away nx_Away cx_Away x.Away) : Calls Try.prog 46 #[.agg (List.toArray [.slice Ax_Maps nx_Maps cx_Maps, .slice Ax_Away nx_Away cx_Away, .int .i64 x.Bought, .int .i64 x.Dropped, .int .i64 x.Mended])] w fun e w' => e = .returned (.bool (decide (AwayOK x.Maps x.Away ∧ x.Away.length ≤ 8))) ∧ Lo w w' := by
  refine calls_W 70 Try.func46 rfl rfl rfl ?_
  have hbdx_Maps := hx_Maps.bound
  have hlex_Maps := hx_Maps.len
  have hBbx_Maps := hx_Maps.bd
  have hbdx_Away := hx_Away.bound
  have hlex_Away := hx_Away.len
  have hBbx_Away := hx_Away.bd
  refine W.seq ?_
  refine W.regS (SR.box (v := .agg (List.toArray _)) (l := [.slice Ax_Maps nx_Maps cx_Maps, .slice Ax_Away nx_Away cx_Away, .int .i64 x.Bought, .int .i64 x.Dropped, .int .i64 x.Mended]) rfl rfl ?_)
  intro g1 w2 hg3 hk4 hs5 hb6
  have hz7 := hk4.size
  have hB8 := (Lo.refl w).lo hk4
  refine SR.q' (r_as (v := .bool false) rfl) <| SR.nil ?_
  refine W.seq ?_
  refine W.seq ?_
  refine W.regS (SR.q' (r_as (v := .int .i64 0) rfl) <| SR.nil ?_)
  refine W.block ?_
  refine W.loop (σ := Nat) (fun g => [(1, .pointer (pA g1)), (3, .int .i64 (g : Int))]) (fun g w' => (Lo w w') ∧ (Blk w' g1 27 [.slice Ax_Maps nx_Maps cx_Maps, .slice Ax_Away nx_Away cx_Away, .int .i64 x.Bought, .int .i64 x.Dropped, .int .i64 x.Mended]) ∧ (SlR w' Bx_Maps encLMap 3 Ax_Maps nx_Maps cx_Maps x.Maps) ∧ (SlR w' Bx_Away encAway 2 Ax_Away nx_Away cx_Away x.Away) ∧ (g ≤ nx_Away ∧ ATo x.Maps x.Away g)) (fun g => nx_Away - g) 0 ?_ ?_ ?_
  · exact ⟨rfl, rfl, trivial⟩
  · exact ⟨hB8, hb6, (hx_Maps).lo hk4, (hx_Away).lo hk4, (by exact ⟨Nat.zero_le _, ATo.zero⟩)⟩
  · rintro k f9 w10 hP12
    obtain ⟨hB11, hm13, hm14, hm15, hi16⟩ : (Lo w w10) ∧ (Blk w10 g1 27 [.slice Ax_Maps nx_Maps cx_Maps, .slice Ax_Away nx_Away cx_Away, .int .i64 x.Bought, .int .i64 x.Dropped, .int .i64 x.Mended]) ∧ (SlR w10 Bx_Maps encLMap 3 Ax_Maps nx_Maps cx_Maps x.Maps) ∧ (SlR w10 Bx_Away encAway 2 Ax_Away nx_Away cx_Away x.Away) ∧ (k ≤ nx_Away ∧ ATo x.Maps x.Away k) := hP12
    refine (?_ : W _ _ _ _ _ (act _ (sets f9 [(1, .pointer (pA g1)), (3, .int .i64 (k : Int))])) _)
    have hzw10 := hB11.size
    have hl17 := hm13.lt
    refine W.seq ?_
    refine W.seq ?_
    refine W.regS (SR.q' (r_mv (v := .int .i64 _) rfl) <| SR.q' (r_fa fa27_1 rfl) <| SR.q' (r_ld (v := .slice Ax_Away nx_Away cx_Away) sca25 rfl ((hm13).cell rfl)) <| SR.q' (r_len und25 rfl) <| SR.q' (r_lt rfl rfl) <| SR.nil ?_)
    refine W.cond_d rfl (fun h18 => ?_) (fun h18 => ?_)
    · refine W.skip ?_
      refine W.seq ?_
      refine W.block ?_
      refine W.seq ?_
      refine W.regS (SR.q' (r_fa fa27_1 rfl) <| SR.q' (r_ld (v := .slice Ax_Away nx_Away cx_Away) sca25 rfl ((hm13).cell rfl)) <| SR.q' (r_mv (v := .int .i64 _) rfl) <| ?_)
      have hx20 := (hm15).elem (i := k) (by omega)
      refine SR.q' (r_ixR tsl25 (hm15) rfl rfl (by omega)) <| SR.q' (r_lda (l := encAway (gt x.Away k)) agg63 rfl (fun _ _ hu => (hm15).cell hx20 hu) ((hm15).esz _)) <| SR.alloc (l := [.int .i64 0, .int .i64 0]) tz63 rfl ?_
      intro g21 w22 hg23 hk24 hs25 hb26
      have hz27 := hk24.size
      have hB28 := hB11.lo hk24
      refine SR.store (o := 0) (vs := [.int .i64 ((gt x.Away k).Map), .int .i64 ((gt x.Away k).Reader)]) agg63.2 rfl rfl rfl rfl (hb26) (Nat.le_of_ble_eq_true rfl) rfl ?_
      intro w29 hk30 hs31 hb32
      have hz33 := hk30.size
      have hB34 := hB28.new hk30 (by omega)
      refine SR.nil ?_
      refine W.seq ?_
      refine W.seq ?_
      refine W.regJS (fun f' w' => At f' [(1, .pointer (pA g1)), (3, .int .i64 (k : Int)), (4, .pointer (pA g21)), (27, .bool (decide (((idxF (hasId ((gt x.Away k).Map)) x.Maps) < 0) ∨ (¬ (1 ≤ ((gt x.Away k).Reader) ∧ ((gt x.Away k).Reader) ≤ 999)))))] ∧ Lo w29 w' ∧ (idxF (hasId ((gt x.Away k).Map)) x.Maps < (x.Maps.length : Int) ∧ -1 ≤ idxF (hasId ((gt x.Away k).Map)) x.Maps)) ?_ ?_
      · refine SR.q' (r_lda (l := [.slice Ax_Maps nx_Maps cx_Maps, .slice Ax_Away nx_Away cx_Away, .int .i64 x.Bought, .int .i64 x.Dropped, .int .i64 x.Mended]) agg27 rfl (fun _ _ hu => (((hm13).lo hk24).kn hk30 (by omega)).cell hu) rfl) <| SR.q' (r_fa fa63_0 rfl) <| SR.q' (r_ld (v := .int .i64 ((gt x.Away k).Map)) sca3 rfl ((hb32).cell rfl)) <| SR.call ent49 (c_spec_l32Map w29 x ((((hm14).lo hk24).kn hk30 (by omega))) ((((hm15).lo hk24).kn hk30 (by omega))) ((gt x.Away k).Map)) rfl ?_
        rintro e w35 ⟨rfl, hk36⟩
        refine ⟨_, rfl, ?_⟩
        have hz37 := hk36.size
        have hB38 := hB34.lo hk36
        have hq39 : idxF (hasId ((gt x.Away k).Map)) x.Maps < (x.Maps.length : Int) ∧ -1 ≤ idxF (hasId ((gt x.Away k).Map)) x.Maps := idx_lt
        refine SR.q' (r_lt rfl rfl) <| SR.q' (r_mv (v := .bool _) rfl) <| SR.splitD (fun h40 => ?_) (fun h40 => ?_)
        · refine SR.s' rfl <| SR.s' rfl <| SR.s' rfl <| SR.s' rfl <| SR.q' (r_pick true rfl (v := .bool true) rfl) <| SR.nil ?_
          exact ⟨_, rfl, ⟨⟨rfl, rfl, rfl, (eDT ((jot h40).1 trivial)), trivial⟩, (hk36), hq39⟩⟩
        · have hq41 := Int.not_lt.1 h40
          refine SR.g' rfl (r_fa fa63_1 rfl) <| SR.g' rfl (r_ld (v := .int .i64 ((gt x.Away k).Reader)) sca3 rfl (((hb32).lo hk36).cell rfl)) <| SR.gcall rfl ent50 (c_spec_l1In w35 ((gt x.Away k).Reader) 1 999) rfl ?_
          rintro e w42 ⟨rfl, hk43⟩
          refine ⟨_, rfl, ?_⟩
          have hz44 := hk43.size
          have hB45 := hB38.lo hk43
          refine SR.g' rfl (r_not rfl) <| SR.q' (r_pick false rfl (v := .bool _) rfl) <| SR.nil ?_
          exact ⟨_, rfl, ⟨⟨rfl, rfl, rfl, (eND (jof h40)), trivial⟩, ((hk36).trans hk43), hq39⟩⟩
      rintro f46 w47 ⟨hat48, hk49, hq50⟩
      rw [← sets_of_at hat48]
      have hz51 := hk49.size
      have hB52 := hB34.lo hk49
      refine W.cond_d rfl (fun h53 => ?_) (fun h53 => ?_)
      · refine W.seq ?_
        refine W.regS (SR.q' (r_as (v := .bool false) rfl) <| SR.nil ?_)
        refine W.ret ?_
        refine ret1 rfl (v := .bool _) rfl ?_
        exact ⟨eR (eDF (by subst hlex_Away; first | exact (fun hh => hh.1 k (by omega) (a_bad1 ‹_›)) | exact (fun hh => hh.1 k (by omega) (a_bad2 ‹_›)) | (have h1 := ATo.end_ (And.right ‹_ ∧ ATo _ _ _›) (by omega); exact ⟨fun h => ⟨h1, by omega⟩, fun h => by omega⟩))), hB52⟩
      · have hq54 : ¬ ((idxF (hasId ((gt x.Away k).Map)) x.Maps) < 0) := (not_or.1 h53).1
        have hq55 : 1 ≤ ((gt x.Away k).Reader) ∧ ((gt x.Away k).Reader) ≤ 999 := (Classical.not_not.1 (not_or.1 h53).2)
        have hq56 := Int.not_lt.1 hq54
        refine W.skip ?_
        refine W.seq ?_
        refine W.regJD mo (by kernel_rfl) (fun f' w' => At f' [(1, .pointer (pA g1)), (3, .int .i64 (k : Int)), (65, .bool (decide ((0 < (k : Int)) ∧ ((((gt x.Away k).Map) < ((gt x.Away (k - 1)).Map)) ∨ ((((gt x.Away (k - 1)).Map) = ((gt x.Away k).Map)) ∧ (((gt x.Away k).Reader) ≤ ((gt x.Away (k - 1)).Reader)))))))] ∧ Lo w47 w') ?_ ?_
        · refine QR.q' (fun w' hw' => r_mv (v := .int .i64 _) rfl) <| QR.q' (fun w' hw' => r_gt rfl rfl) <| QR.q' (fun w' hw' => r_mv (v := .bool _) rfl) <| QR.splitD (fun h57 => ?_) (fun h57 => ?_)
          · refine QR.g' rfl (fun w' hw' => r_fa fa27_1 rfl) <| QR.g' rfl (fun w' hw' => r_ld (v := .slice Ax_Away nx_Away cx_Away) sca25 rfl ((((((hm13).lo hk24).kn hk30 (by omega)).lo hk49).lo hw').cell rfl)) <| QR.g' rfl (fun w' hw' => r_mv (v := .int .i64 _) rfl) <| QR.g' rfl (fun w' hw' => r_sub rfl rfl (by omega)) <| ?_
            have hx59 := ((((hm15).lo hk24).kn hk30 (by omega)).lo hk49).elem (i := ((k : Int) - 1).toNat) (by omega)
            rw [show ((k : Int) - 1).toNat = k - 1 from by omega] at hx59
            have hx60 : x.Away[((k : Int) - 1).toNat]? = some (gt x.Away (k - 1)) := (show ((k : Int) - 1).toNat = k - 1 from by omega) ▸ hx59
            refine QR.g' rfl (fun w' hw' => r_ixR tsl25 ((((((hm15).lo hk24).kn hk30 (by omega)).lo hk49).lo hw')) rfl rfl (by omega)) <| QR.g' rfl (fun w' hw' => r_fa fa63_0 rfl) <| QR.g' rfl (fun w' hw' => r_ld (v := .int .i64 ((gt x.Away (k - 1)).Map)) sca3 rfl (((((((hm15).lo hk24).kn hk30 (by omega)).lo hk49).lo hw')).cell hx60 rfl)) <| QR.g' rfl (fun w' hw' => r_fa fa63_0 rfl) <| QR.g' rfl (fun w' hw' => r_ld (v := .int .i64 ((gt x.Away k).Map)) sca3 rfl ((((hb32).lo hk49).lo hw').cell rfl)) <| QR.g' rfl (fun w' hw' => r_gt rfl rfl) <| QR.g' rfl (fun w' hw' => r_mv (v := .bool _) rfl) <| QR.splitD (fun h61 => ?_) (fun h61 => ?_)
            · refine QR.s' rfl <| QR.s' rfl <| QR.s' rfl <| QR.s' rfl <| QR.s' rfl <| QR.s' rfl <| QR.s' rfl <| QR.s' rfl <| QR.s' rfl <| QR.s' rfl <| QR.s' rfl <| QR.u' rfl <| QR.u' rfl <| QR.u' rfl <| QR.u' rfl <| QR.u' rfl <| QR.u' rfl <| QR.u' rfl <| QR.u' rfl <| QR.u' rfl <| QR.u' rfl <| QR.s' rfl <| QR.g' rfl (fun w' hw' => r_pick true rfl (v := .bool true) rfl) <| QR.q' (fun w' hw' => r_pick true rfl (v := .bool _) rfl) <| QR.nil ?_
              intro w62 hk63
              exact ⟨⟨rfl, rfl, (eDT (((jot h61).trans (jat h57)).1 trivial)), trivial⟩, hk63⟩
            · refine QR.g' rfl (fun w' hw' => r_fa fa27_1 rfl) <| QR.g' rfl (fun w' hw' => r_ld (v := .slice Ax_Away nx_Away cx_Away) sca25 rfl ((((((hm13).lo hk24).kn hk30 (by omega)).lo hk49).lo hw').cell rfl)) <| QR.g' rfl (fun w' hw' => r_mv (v := .int .i64 _) rfl) <| QR.g' rfl (fun w' hw' => r_sub rfl rfl (by omega)) <| QR.g' rfl (fun w' hw' => r_ixR tsl25 ((((((hm15).lo hk24).kn hk30 (by omega)).lo hk49).lo hw')) rfl rfl (by omega)) <| QR.g' rfl (fun w' hw' => r_fa fa63_0 rfl) <| QR.g' rfl (fun w' hw' => r_ld (v := .int .i64 ((gt x.Away (k - 1)).Map)) sca3 rfl (((((((hm15).lo hk24).kn hk30 (by omega)).lo hk49).lo hw')).cell hx60 rfl)) <| QR.g' rfl (fun w' hw' => r_fa fa63_0 rfl) <| QR.g' rfl (fun w' hw' => r_ld (v := .int .i64 ((gt x.Away k).Map)) sca3 rfl ((((hb32).lo hk49).lo hw').cell rfl)) <| QR.g' rfl (fun w' hw' => r_eq rfl rfl) <| QR.g' rfl (fun w' hw' => r_mv (v := .bool _) rfl) <| QR.splitD (fun h64 => ?_) (fun h64 => ?_)
              · refine QR.g' rfl (fun w' hw' => r_fa fa27_1 rfl) <| QR.g' rfl (fun w' hw' => r_ld (v := .slice Ax_Away nx_Away cx_Away) sca25 rfl ((((((hm13).lo hk24).kn hk30 (by omega)).lo hk49).lo hw').cell rfl)) <| QR.g' rfl (fun w' hw' => r_mv (v := .int .i64 _) rfl) <| QR.g' rfl (fun w' hw' => r_sub rfl rfl (by omega)) <| QR.g' rfl (fun w' hw' => r_ixR tsl25 ((((((hm15).lo hk24).kn hk30 (by omega)).lo hk49).lo hw')) rfl rfl (by omega)) <| QR.g' rfl (fun w' hw' => r_fa fa63_1 rfl) <| QR.g' rfl (fun w' hw' => r_ld (v := .int .i64 ((gt x.Away (k - 1)).Reader)) sca3 rfl (((((((hm15).lo hk24).kn hk30 (by omega)).lo hk49).lo hw')).cell hx60 rfl)) <| QR.g' rfl (fun w' hw' => r_fa fa63_1 rfl) <| QR.g' rfl (fun w' hw' => r_ld (v := .int .i64 ((gt x.Away k).Reader)) sca3 rfl ((((hb32).lo hk49).lo hw').cell rfl)) <| QR.g' rfl (fun w' hw' => r_ge rfl rfl) <| QR.g' rfl (fun w' hw' => r_pick true rfl (v := .bool _) rfl) <| QR.g' rfl (fun w' hw' => r_pick false rfl (v := .bool _) rfl) <| QR.q' (fun w' hw' => r_pick true rfl (v := .bool _) rfl) <| QR.nil ?_
                intro w65 hk66
                exact ⟨⟨rfl, rfl, (eDD (((jat h64).trans (jof h61)).trans (jat h57))), trivial⟩, hk66⟩
              · refine QR.s' rfl <| QR.s' rfl <| QR.s' rfl <| QR.s' rfl <| QR.s' rfl <| QR.s' rfl <| QR.s' rfl <| QR.s' rfl <| QR.s' rfl <| QR.s' rfl <| QR.g' rfl (fun w' hw' => r_pick false rfl (v := .bool false) rfl) <| QR.g' rfl (fun w' hw' => r_pick false rfl (v := .bool _) rfl) <| QR.q' (fun w' hw' => r_pick true rfl (v := .bool _) rfl) <| QR.nil ?_
                intro w67 hk68
                exact ⟨⟨rfl, rfl, (eDF (((jaf h64).trans (jof h61)).trans (jat h57)).2), trivial⟩, hk68⟩
          · refine QR.s' rfl <| QR.s' rfl <| QR.s' rfl <| QR.s' rfl <| QR.s' rfl <| QR.s' rfl <| QR.s' rfl <| QR.s' rfl <| QR.s' rfl <| QR.s' rfl <| QR.s' rfl <| QR.u' rfl <| QR.u' rfl <| QR.u' rfl <| QR.u' rfl <| QR.u' rfl <| QR.u' rfl <| QR.u' rfl <| QR.u' rfl <| QR.u' rfl <| QR.u' rfl <| QR.u' rfl <| QR.u' rfl <| QR.u' rfl <| QR.u' rfl <| QR.u' rfl <| QR.u' rfl <| QR.u' rfl <| QR.u' rfl <| QR.u' rfl <| QR.u' rfl <| QR.u' rfl <| QR.u' rfl <| QR.s' rfl <| QR.q' (fun w' hw' => r_pick false rfl (v := .bool false) rfl) <| QR.nil ?_
            intro w69 hk70
            exact ⟨⟨rfl, rfl, (eDF (jaf h57).2), trivial⟩, hk70⟩
        rintro f71 w72 ⟨hat73, hk74⟩
        rw [← sets_of_at hat73]
        have hz75 := hk74.size
        have hB76 := hB52.lo hk74
        refine W.cond_d rfl (fun h77 => ?_) (fun h77 => ?_)
        · have hq78 : 0 < (k : Int) := h77.1
          have hq79 : (((gt x.Away k).Map) < ((gt x.Away (k - 1)).Map)) ∨ ((((gt x.Away (k - 1)).Map) = ((gt x.Away k).Map)) ∧ (((gt x.Away k).Reader) ≤ ((gt x.Away (k - 1)).Reader))) := h77.2
          refine W.seq ?_
          refine W.regS (SR.q' (r_as (v := .bool false) rfl) <| SR.nil ?_)
          refine W.ret ?_
          refine ret1 rfl (v := .bool _) rfl ?_
          exact ⟨eR (eDF (by subst hlex_Away; first | exact (fun hh => hh.1 k (by omega) (a_bad1 ‹_›)) | exact (fun hh => hh.1 k (by omega) (a_bad2 ‹_›)) | (have h1 := ATo.end_ (And.right ‹_ ∧ ATo _ _ _›) (by omega); exact ⟨fun h => ⟨h1, by omega⟩, fun h => by omega⟩))), hB76⟩
        · refine W.skip ?_
          refine W.regS (SR.q' (r_mv (v := .int .i64 _) rfl) <| SR.q' (r_add rfl rfl (by omega)) <| SR.q' (r_as (v := .int .i64 _) rfl) <| SR.nil ?_)
          refine ⟨k + 1, _, rfl, ⟨rfl, rfl, trivial⟩, ⟨hB76, ((((hm13).lo hk24).kn hk30 (by omega)).lo hk49).lo hk74, ((((hm14).lo hk24).kn hk30 (by omega)).lo hk49).lo hk74, ((((hm15).lo hk24).kn hk30 (by omega)).lo hk49).lo hk74, ?_⟩, ?_⟩
          · exact (by exact ⟨by omega, ATo.next (And.right ‹_ ∧ ATo _ _ _›) (a_good ‹_› ‹_›)⟩)
          · exact (by omega)
    · refine W.exit (xin_here ?_)
      refine W.seq ?_
      refine W.regS (SR.q' (r_fa fa27_1 rfl) <| SR.q' (r_ld (v := .slice Ax_Away nx_Away cx_Away) sca25 rfl ((hm13).cell rfl)) <| SR.q' (r_len und25 rfl) <| SR.q' (r_le rfl rfl) <| SR.q' (r_as (v := .bool _) rfl) <| SR.nil ?_)
      refine W.ret ?_
      refine ret1 rfl (v := .bool _) rfl ?_
      exact ⟨eR (eDD (by subst hlex_Away; first | exact (fun hh => hh.1 k (by omega) (a_bad1 ‹_›)) | exact (fun hh => hh.1 k (by omega) (a_bad2 ‹_›)) | (have h1 := ATo.end_ (And.right ‹_ ∧ ATo _ _ _›) (by omega); exact ⟨fun h => ⟨h1, by omega⟩, fun h => by omega⟩))), hB11⟩

theorem z_c_spec_l32Good_36 (x : Library) (nx_Maps : Nat) (hbdx_Maps : (nx_Maps : Int) ≤ 9223372036854775807) (hlex_Maps : nx_Maps = x.Maps.length) (nx_Away : Nat) (hbdx_Away : (nx_Away : Int) ≤ 9223372036854775807) (hlex_Away : nx_Away = x.Away.length) : ((MapsOK x.Maps ∧ x.Maps.length ≤ 8) ∧ ((AwayOK x.Maps x.Away ∧ x.Away.length ≤ 8) ∧ ((0 ≤ x.Bought ∧ x.Bought ≤ 9999) ∧ ((0 ≤ x.Dropped ∧ x.Dropped ≤ 9999) ∧ ((0 ≤ x.Mended ∧ x.Mended ≤ 9999) ∧ (x.Bought = (((if false = true then sumT x.Maps else sumC x.Maps) + (nx_Away : Int)) + x.Dropped))))))) ↔ (LibOK x) := by
  subst hlex_Maps hlex_Away
  unfold LibOK
  constructor <;> (intro h; obtain ⟨h1, h2, h⟩ := h; refine ⟨h1, h2, ?_⟩; simpa using h)
theorem c_spec_l32Good (w : World) (x : Library) {Ax_Maps : Option Addr} {nx_Maps cx_Maps Bx_Maps : Nat} (hx_Maps : SlR w Bx_Maps encLMap 3 Ax_Maps nx_Maps cx_Maps x.Maps) {Ax_Away : Option Addr} {nx_Away cx_Away Bx_Away : Nat} (hx_Away : SlR w Bx_Away encAway 2 Ax_Away nx_Away cx_Away x.Away) : Calls Try.prog 23 #[.agg (List.toArray [.slice Ax_Maps nx_Maps cx_Maps, .slice Ax_Away nx_Away cx_Away, .int .i64 x.Bought, .int .i64 x.Dropped, .int .i64 x.Mended])] w fun e w' => e = .returned (.bool (decide (LibOK x))) ∧ Lo w w' := by
  refine calls_W 38 Try.func23 rfl rfl rfl ?_
  have hbdx_Maps := hx_Maps.bound
  have hlex_Maps := hx_Maps.len
  have hBbx_Maps := hx_Maps.bd
  have hbdx_Away := hx_Away.bound
  have hlex_Away := hx_Away.len
  have hBbx_Away := hx_Away.bd
  refine W.seq ?_
  refine W.regS (SR.box (v := .agg (List.toArray _)) (l := [.slice Ax_Maps nx_Maps cx_Maps, .slice Ax_Away nx_Away cx_Away, .int .i64 x.Bought, .int .i64 x.Dropped, .int .i64 x.Mended]) rfl rfl ?_)
  intro g1 w2 hg3 hk4 hs5 hb6
  have hz7 := hk4.size
  have hB8 := (Lo.refl w).lo hk4
  refine SR.q' (r_as (v := .bool false) rfl) <| SR.nil ?_
  refine W.seq ?_
  refine W.regJD mo (by kernel_rfl) (fun f' w' => At f' [(2, .bool (decide ((MapsOK x.Maps ∧ x.Maps.length ≤ 8) ∧ ((AwayOK x.Maps x.Away ∧ x.Away.length ≤ 8) ∧ ((0 ≤ x.Bought ∧ x.Bought ≤ 9999) ∧ ((0 ≤ x.Dropped ∧ x.Dropped ≤ 9999) ∧ ((0 ≤ x.Mended ∧ x.Mended ≤ 9999) ∧ (x.Bought = (((if false = true then sumT x.Maps else sumC x.Maps) + (nx_Away : Int)) + x.Dropped)))))))))] ∧ Lo w2 w') ?_ ?_
  · refine QR.q' (fun w' hw' => r_lda (l := [.slice Ax_Maps nx_Maps cx_Maps, .slice Ax_Away nx_Away cx_Away, .int .i64 x.Bought, .int .i64 x.Dropped, .int .i64 x.Mended]) agg27 rfl (fun _ _ hu => ((hb6).lo hw').cell hu) rfl) <| QR.call ent45 (fun w' hw' => (c_spec_l32Maps w' x (((((hx_Maps).lo hk4).lo hw'))) (((((hx_Away).lo hk4).lo hw')))).mono fun _ _ h => ⟨h.1, hw'.trans h.2⟩) rfl <| QR.q' (fun w' hw' => r_mv (v := .bool _) rfl) <| QR.splitD (fun h9 => ?_) (fun h9 => ?_)
    · have hq10 := And.left h9
      have hq11 := And.left h9
      have hq12 := And.right h9
      refine QR.g' rfl (fun w' hw' => r_lda (l := [.slice Ax_Maps nx_Maps cx_Maps, .slice Ax_Away nx_Away cx_Away, .int .i64 x.Bought, .int .i64 x.Dropped, .int .i64 x.Mended]) agg27 rfl (fun _ _ hu => ((hb6).lo hw').cell hu) rfl) <| QR.gcall rfl ent46 (fun w' hw' => (c_spec_l32Lent w' x (((((hx_Maps).lo hk4).lo hw'))) (((((hx_Away).lo hk4).lo hw')))).mono fun _ _ h => ⟨h.1, hw'.trans h.2⟩) rfl <| QR.q' (fun w' hw' => r_pick true rfl (v := .bool _) rfl) <| QR.q' (fun w' hw' => r_mv (v := .bool _) rfl) <| QR.splitD (fun h13 => ?_) (fun h13 => ?_)
      · refine QR.g' rfl (fun w' hw' => r_fa fa27_2 rfl) <| QR.g' rfl (fun w' hw' => r_ld (v := .int .i64 x.Bought) sca3 rfl (((hb6).lo hw').cell rfl)) <| QR.gcall rfl ent47 (fun w' hw' => (c_spec_l32Count w' x.Bought).mono fun _ _ h => ⟨h.1, hw'.trans h.2⟩) rfl <| QR.q' (fun w' hw' => r_pick true rfl (v := .bool _) rfl) <| QR.q' (fun w' hw' => r_mv (v := .bool _) rfl) <| QR.splitD (fun h14 => ?_) (fun h14 => ?_)
        · refine QR.g' rfl (fun w' hw' => r_fa fa27_3 rfl) <| QR.g' rfl (fun w' hw' => r_ld (v := .int .i64 x.Dropped) sca3 rfl (((hb6).lo hw').cell rfl)) <| QR.gcall rfl ent47 (fun w' hw' => (c_spec_l32Count w' x.Dropped).mono fun _ _ h => ⟨h.1, hw'.trans h.2⟩) rfl <| QR.q' (fun w' hw' => r_pick true rfl (v := .bool _) rfl) <| QR.q' (fun w' hw' => r_mv (v := .bool _) rfl) <| QR.splitD (fun h15 => ?_) (fun h15 => ?_)
          · refine QR.g' rfl (fun w' hw' => r_fa fa27_4 rfl) <| QR.g' rfl (fun w' hw' => r_ld (v := .int .i64 x.Mended) sca3 rfl (((hb6).lo hw').cell rfl)) <| QR.gcall rfl ent47 (fun w' hw' => (c_spec_l32Count w' x.Mended).mono fun _ _ h => ⟨h.1, hw'.trans h.2⟩) rfl <| QR.q' (fun w' hw' => r_pick true rfl (v := .bool _) rfl) <| QR.q' (fun w' hw' => r_mv (v := .bool _) rfl) <| QR.splitD (fun h16 => ?_) (fun h16 => ?_)
            · refine QR.g' rfl (fun w' hw' => r_fa fa27_2 rfl) <| QR.g' rfl (fun w' hw' => r_ld (v := .int .i64 x.Bought) sca3 rfl (((hb6).lo hw').cell rfl)) <| QR.g' rfl (fun w' hw' => r_lda (l := [.slice Ax_Maps nx_Maps cx_Maps, .slice Ax_Away nx_Away cx_Away, .int .i64 x.Bought, .int .i64 x.Dropped, .int .i64 x.Mended]) agg27 rfl (fun _ _ hu => ((hb6).lo hw').cell hu) rfl) <| QR.gcall rfl ent48 (fun w' hw' => (c_spec_l32There w' x (((((hx_Maps).lo hk4).lo hw'))) (((((hx_Away).lo hk4).lo hw'))) false (by first | assumption | exact MTo.end_ (And.right ‹_ ∧ MTo _ _›) (by omega)) (by omega)).mono fun _ _ h => ⟨h.1, hw'.trans h.2⟩) rfl <| ?_
              have hq17 : 0 ≤ (if false = true then sumT x.Maps else sumC x.Maps) ∧ (if false = true then sumT x.Maps else sumC x.Maps) ≤ 792 := there_rng false ‹MapsOK _› (by omega)
              refine QR.g' rfl (fun w' hw' => r_fa fa27_1 rfl) <| QR.g' rfl (fun w' hw' => r_ld (v := .slice Ax_Away nx_Away cx_Away) sca25 rfl (((hb6).lo hw').cell rfl)) <| QR.g' rfl (fun w' hw' => r_len und25 rfl) <| QR.g' rfl (fun w' hw' => r_add rfl rfl (by omega)) <| QR.g' rfl (fun w' hw' => r_fa fa27_3 rfl) <| QR.g' rfl (fun w' hw' => r_ld (v := .int .i64 x.Dropped) sca3 rfl (((hb6).lo hw').cell rfl)) <| QR.g' rfl (fun w' hw' => r_add rfl rfl (by omega)) <| QR.g' rfl (fun w' hw' => r_eq rfl rfl) <| QR.q' (fun w' hw' => r_pick true rfl (v := .bool _) rfl) <| QR.q' (fun w' hw' => r_as (v := .bool _) rfl) <| QR.nil ?_
              intro w18 hk19
              exact ⟨⟨(eDD (((((jat h16).trans (jat h15)).trans (jat h14)).trans (jat h13)).trans (jat h9))), trivial⟩, hk19⟩
            · refine QR.s' rfl <| QR.s' rfl <| QR.s' rfl <| QR.s' rfl <| QR.s' rfl <| QR.s' rfl <| QR.s' rfl <| QR.s' rfl <| QR.s' rfl <| QR.s' rfl <| QR.s' rfl <| QR.s' rfl <| QR.q' (fun w' hw' => r_pick false rfl (v := .bool false) rfl) <| QR.q' (fun w' hw' => r_as (v := .bool _) rfl) <| QR.nil ?_
              intro w20 hk21
              exact ⟨⟨(eDF (((((jaf h16).trans (jat h15)).trans (jat h14)).trans (jat h13)).trans (jat h9)).2), trivial⟩, hk21⟩
          · refine QR.s' rfl <| QR.s' rfl <| QR.s' rfl <| QR.q' (fun w' hw' => r_pick false rfl (v := .bool false) rfl) <| QR.q' (fun w' hw' => r_mv (v := .bool _) rfl) <| QR.s' rfl <| QR.s' rfl <| QR.s' rfl <| QR.s' rfl <| QR.s' rfl <| QR.s' rfl <| QR.s' rfl <| QR.s' rfl <| QR.s' rfl <| QR.s' rfl <| QR.s' rfl <| QR.s' rfl <| QR.q' (fun w' hw' => r_pick false rfl (v := .bool false) rfl) <| QR.q' (fun w' hw' => r_as (v := .bool _) rfl) <| QR.nil ?_
            intro w22 hk23
            exact ⟨⟨(eDF ((((jaf h15).trans (jat h14)).trans (jat h13)).trans (jat h9)).2), trivial⟩, hk23⟩
        · refine QR.s' rfl <| QR.s' rfl <| QR.s' rfl <| QR.q' (fun w' hw' => r_pick false rfl (v := .bool false) rfl) <| QR.q' (fun w' hw' => r_mv (v := .bool _) rfl) <| QR.s' rfl <| QR.s' rfl <| QR.s' rfl <| QR.q' (fun w' hw' => r_pick false rfl (v := .bool false) rfl) <| QR.q' (fun w' hw' => r_mv (v := .bool _) rfl) <| QR.s' rfl <| QR.s' rfl <| QR.s' rfl <| QR.s' rfl <| QR.s' rfl <| QR.s' rfl <| QR.s' rfl <| QR.s' rfl <| QR.s' rfl <| QR.s' rfl <| QR.s' rfl <| QR.s' rfl <| QR.q' (fun w' hw' => r_pick false rfl (v := .bool false) rfl) <| QR.q' (fun w' hw' => r_as (v := .bool _) rfl) <| QR.nil ?_
          intro w24 hk25
          exact ⟨⟨(eDF (((jaf h14).trans (jat h13)).trans (jat h9)).2), trivial⟩, hk25⟩
      · refine QR.s' rfl <| QR.s' rfl <| QR.s' rfl <| QR.q' (fun w' hw' => r_pick false rfl (v := .bool false) rfl) <| QR.q' (fun w' hw' => r_mv (v := .bool _) rfl) <| QR.s' rfl <| QR.s' rfl <| QR.s' rfl <| QR.q' (fun w' hw' => r_pick false rfl (v := .bool false) rfl) <| QR.q' (fun w' hw' => r_mv (v := .bool _) rfl) <| QR.s' rfl <| QR.s' rfl <| QR.s' rfl <| QR.q' (fun w' hw' => r_pick false rfl (v := .bool false) rfl) <| QR.q' (fun w' hw' => r_mv (v := .bool _) rfl) <| QR.s' rfl <| QR.s' rfl <| QR.s' rfl <| QR.s' rfl <| QR.s' rfl <| QR.s' rfl <| QR.s' rfl <| QR.s' rfl <| QR.s' rfl <| QR.s' rfl <| QR.s' rfl <| QR.s' rfl <| QR.q' (fun w' hw' => r_pick false rfl (v := .bool false) rfl) <| QR.q' (fun w' hw' => r_as (v := .bool _) rfl) <| QR.nil ?_
        intro w26 hk27
        exact ⟨⟨(eDF ((jaf h13).trans (jat h9)).2), trivial⟩, hk27⟩
    · refine QR.s' rfl <| QR.s' rfl <| QR.q' (fun w' hw' => r_pick false rfl (v := .bool false) rfl) <| QR.q' (fun w' hw' => r_mv (v := .bool _) rfl) <| QR.s' rfl <| QR.s' rfl <| QR.s' rfl <| QR.q' (fun w' hw' => r_pick false rfl (v := .bool false) rfl) <| QR.q' (fun w' hw' => r_mv (v := .bool _) rfl) <| QR.s' rfl <| QR.s' rfl <| QR.s' rfl <| QR.q' (fun w' hw' => r_pick false rfl (v := .bool false) rfl) <| QR.q' (fun w' hw' => r_mv (v := .bool _) rfl) <| QR.s' rfl <| QR.s' rfl <| QR.s' rfl <| QR.q' (fun w' hw' => r_pick false rfl (v := .bool false) rfl) <| QR.q' (fun w' hw' => r_mv (v := .bool _) rfl) <| QR.s' rfl <| QR.s' rfl <| QR.s' rfl <| QR.s' rfl <| QR.s' rfl <| QR.s' rfl <| QR.s' rfl <| QR.s' rfl <| QR.s' rfl <| QR.s' rfl <| QR.s' rfl <| QR.s' rfl <| QR.q' (fun w' hw' => r_pick false rfl (v := .bool false) rfl) <| QR.q' (fun w' hw' => r_as (v := .bool _) rfl) <| QR.nil ?_
      intro w28 hk29
      exact ⟨⟨(eDF (jaf h9).2), trivial⟩, hk29⟩
  rintro f30 w31 ⟨hat32, hk33⟩
  rw [← sets_of_at hat32]
  have hz34 := hk33.size
  have hB35 := hB8.lo hk33
  refine W.ret ?_
  refine ret1 rfl (v := .bool _) rfl ?_
  exact ⟨eR (eDD (z_c_spec_l32Good_36 x nx_Maps hbdx_Maps hlex_Maps nx_Away hbdx_Away hlex_Away)), hB35⟩

theorem c_spec_IsLibrary (w : World) (x : Library) {Ax_Maps : Option Addr} {nx_Maps cx_Maps Bx_Maps : Nat} (hx_Maps : SlR w Bx_Maps encLMap 3 Ax_Maps nx_Maps cx_Maps x.Maps) {Ax_Away : Option Addr} {nx_Away cx_Away Bx_Away : Nat} (hx_Away : SlR w Bx_Away encAway 2 Ax_Away nx_Away cx_Away x.Away) : Calls Try.prog 10 #[.agg (List.toArray [.slice Ax_Maps nx_Maps cx_Maps, .slice Ax_Away nx_Away cx_Away, .int .i64 x.Bought, .int .i64 x.Dropped, .int .i64 x.Mended])] w fun e w' => e = .returned (.bool (decide (LibOK x))) ∧ Lo w w' := by
  refine calls_W 5 Try.func10 rfl rfl rfl ?_
  have hbdx_Maps := hx_Maps.bound
  have hlex_Maps := hx_Maps.len
  have hBbx_Maps := hx_Maps.bd
  have hbdx_Away := hx_Away.bound
  have hlex_Away := hx_Away.len
  have hBbx_Away := hx_Away.bd
  refine W.seq ?_
  refine W.regS (SR.box (v := .agg (List.toArray _)) (l := [.slice Ax_Maps nx_Maps cx_Maps, .slice Ax_Away nx_Away cx_Away, .int .i64 x.Bought, .int .i64 x.Dropped, .int .i64 x.Mended]) rfl rfl ?_)
  intro g1 w2 hg3 hk4 hs5 hb6
  have hz7 := hk4.size
  have hB8 := (Lo.refl w).lo hk4
  refine SR.q' (r_as (v := .bool false) rfl) <| SR.nil ?_
  refine W.seq ?_
  refine W.regS (SR.q' (r_lda (l := [.slice Ax_Maps nx_Maps cx_Maps, .slice Ax_Away nx_Away cx_Away, .int .i64 x.Bought, .int .i64 x.Dropped, .int .i64 x.Mended]) agg27 rfl (fun _ _ hu => (hb6).cell hu) rfl) <| SR.call ent23 (c_spec_l32Good w2 x (((hx_Maps).lo hk4)) (((hx_Away).lo hk4))) rfl ?_)
  rintro e w9 ⟨rfl, hk10⟩
  refine ⟨_, rfl, ?_⟩
  have hz11 := hk10.size
  have hB12 := hB8.lo hk10
  refine SR.q' (r_as (v := .bool _) rfl) <| SR.nil ?_
  refine W.ret ?_
  refine ret1 rfl (v := .bool _) rfl ?_
  exact ⟨eR rfl, hB12⟩

theorem z_c_impl_IsLibrary_59 (x : Library) (nx_Maps : Nat) (hbdx_Maps : (nx_Maps : Int) ≤ 9223372036854775807) (hlex_Maps : nx_Maps = x.Maps.length) (nx_Away : Nat) (hbdx_Away : (nx_Away : Int) ≤ 9223372036854775807) (hlex_Away : nx_Away = x.Away.length) (hp0 : (nx_Maps : Int) ≤ 1048576) (k : Nat) (hi16 : k ≤ nx_Maps ∧ MTo x.Maps k) (h18 : (k : Int) < (nx_Maps : Int)) (hx20 : x.Maps[k]? = some (gt x.Maps k)) (h58 : (¬ (1 ≤ ((gt x.Maps k).Id) ∧ ((gt x.Maps k).Id) ≤ 99)) ∨ ((¬ (0 ≤ ((gt x.Maps k).Copies) ∧ ((gt x.Maps k).Copies) ≤ 99)) ∨ ((¬ (0 ≤ ((gt x.Maps k).Torn) ∧ ((gt x.Maps k).Torn) ≤ ((gt x.Maps k).Copies))) ∨ ((0 < (k : Int)) ∧ (((gt x.Maps k).Id) ≤ ((gt x.Maps (k - 1)).Id)))))) : ¬ (LibOK x) := by
  subst hlex_Maps hlex_Away
  first | exact (fun hh => hh.1.1 k (by omega) ‹_›) | exact (fun hh => hh.2.1.1 j (by omega) (a_badI (MTo.end_ (And.right ‹_ ∧ MTo _ _›) (by omega)) ‹_›)) | (have h1 := MTo.end_ (And.right ‹_ ∧ MTo _ _›) (by omega); have h2 := ATo.end_ (And.right ‹_ ∧ ATo _ _ _›) (by omega); unfold LibOK; constructor <;> (intro h; simp only [h1, h2, true_and] at h ⊢; omega))
theorem z_c_impl_IsLibrary_116 (x : Library) (nx_Maps : Nat) (hbdx_Maps : (nx_Maps : Int) ≤ 9223372036854775807) (hlex_Maps : nx_Maps = x.Maps.length) (nx_Away : Nat) (hbdx_Away : (nx_Away : Int) ≤ 9223372036854775807) (hlex_Away : nx_Away = x.Away.length) (hp0 : (nx_Maps : Int) ≤ 1048576) (k : Nat) (hi16 : k ≤ nx_Maps ∧ MTo x.Maps k) (h18 : ¬ ((k : Int) < (nx_Maps : Int))) (j : Nat) (hi71 : j ≤ nx_Away ∧ ATo x.Maps x.Away j) (h73 : (j : Int) < (nx_Away : Int)) (hx75 : x.Away[j]? = some (gt x.Away j)) (hq94 : bsP cmpM ((gt x.Away j).Map) x.Maps ≤ x.Maps.length) (h115 : (¬ (bsF cmpM ((gt x.Away j).Map) x.Maps)) ∨ ((¬ (1 ≤ ((gt x.Away j).Reader) ∧ ((gt x.Away j).Reader) ≤ 999)) ∨ ((0 < (j : Int)) ∧ (0 ≤ (cmpA (gt x.Away (j - 1)) (gt x.Away j)))))) : ¬ (LibOK x) := by
  subst hlex_Maps hlex_Away
  first | exact (fun hh => hh.1.1 k (by omega) ‹_›) | exact (fun hh => hh.2.1.1 j (by omega) (a_badI (MTo.end_ (And.right ‹_ ∧ MTo _ _›) (by omega)) ‹_›)) | (have h1 := MTo.end_ (And.right ‹_ ∧ MTo _ _›) (by omega); have h2 := ATo.end_ (And.right ‹_ ∧ ATo _ _ _›) (by omega); unfold LibOK; constructor <;> (intro h; simp only [h1, h2, true_and] at h ⊢; omega))
theorem z_c_impl_IsLibrary_144 (x : Library) (nx_Maps : Nat) (hbdx_Maps : (nx_Maps : Int) ≤ 9223372036854775807) (hlex_Maps : nx_Maps = x.Maps.length) (nx_Away : Nat) (hbdx_Away : (nx_Away : Int) ≤ 9223372036854775807) (hlex_Away : nx_Away = x.Away.length) (hp0 : (nx_Maps : Int) ≤ 1048576) (k : Nat) (hi16 : k ≤ nx_Maps ∧ MTo x.Maps k) (h18 : ¬ ((k : Int) < (nx_Maps : Int))) (j : Nat) (hi71 : j ≤ nx_Away ∧ ATo x.Maps x.Away j) (h73 : ¬ ((j : Int) < (nx_Away : Int))) : (((nx_Maps : Int) ≤ 8) ∧ (((nx_Away : Int) ≤ 8) ∧ ((0 ≤ x.Bought ∧ x.Bought ≤ 9999) ∧ ((0 ≤ x.Dropped ∧ x.Dropped ≤ 9999) ∧ ((0 ≤ x.Mended ∧ x.Mended ≤ 9999) ∧ (x.Bought = (((sumC x.Maps) + (nx_Away : Int)) + x.Dropped))))))) ↔ (LibOK x) := by
  subst hlex_Maps hlex_Away
  first | exact (fun hh => hh.1.1 k (by omega) ‹_›) | exact (fun hh => hh.2.1.1 j (by omega) (a_badI (MTo.end_ (And.right ‹_ ∧ MTo _ _›) (by omega)) ‹_›)) | (have h1 := MTo.end_ (And.right ‹_ ∧ MTo _ _›) (by omega); have h2 := ATo.end_ (And.right ‹_ ∧ ATo _ _ _›) (by omega); unfold LibOK; constructor <;> (intro h; simp only [h1, h2, true_and] at h ⊢; omega))
theorem c_impl_IsLibrary (w : World) (x : Library) {Ax_Maps : Option Addr} {nx_Maps cx_Maps Bx_Maps : Nat} (hx_Maps : SlR w Bx_Maps encLMap 3 Ax_Maps nx_Maps cx_Maps x.Maps) {Ax_Away : Option Addr} {nx_Away cx_Away Bx_Away : Nat} (hx_Away : SlR w Bx_Away encAway 2 Ax_Away nx_Away cx_Away x.Away) (hp0 : (nx_Maps : Int) ≤ 1048576) : Calls Try.prog 9 #[.agg (List.toArray [.slice Ax_Maps nx_Maps cx_Maps, .slice Ax_Away nx_Away cx_Away, .int .i64 x.Bought, .int .i64 x.Dropped, .int .i64 x.Mended])] w fun e w' => e = .returned (.bool (decide (LibOK x))) ∧ Lo w w' := by
  refine calls_W 130 Try.func9 rfl rfl rfl ?_
  have hbdx_Maps := hx_Maps.bound
  have hlex_Maps := hx_Maps.len
  have hBbx_Maps := hx_Maps.bd
  have hbdx_Away := hx_Away.bound
  have hlex_Away := hx_Away.len
  have hBbx_Away := hx_Away.bd
  refine W.seq ?_
  refine W.regS (SR.box (v := .agg (List.toArray _)) (l := [.slice Ax_Maps nx_Maps cx_Maps, .slice Ax_Away nx_Away cx_Away, .int .i64 x.Bought, .int .i64 x.Dropped, .int .i64 x.Mended]) rfl rfl ?_)
  intro g1 w2 hg3 hk4 hs5 hb6
  have hz7 := hk4.size
  have hB8 := (Lo.refl w).lo hk4
  refine SR.q' (r_as (v := .bool false) rfl) <| SR.nil ?_
  refine W.seq ?_
  refine W.seq ?_
  refine W.regS (SR.q' (r_fa fa27_0 rfl) <| SR.q' (r_ld (v := .slice Ax_Maps nx_Maps cx_Maps) sca24 rfl ((hb6).cell rfl)) <| SR.q' (r_len und24 rfl) <| SR.q' (r_mv (v := .int .i64 0) rfl) <| SR.nil ?_)
  refine W.block ?_
  refine W.loop (σ := Nat) (fun g => [(1, .pointer (pA g1)), (10, .slice Ax_Maps nx_Maps cx_Maps), (11, .int .i64 (nx_Maps : Int)), (12, .int .i64 (g : Int))]) (fun g w' => (Lo w w') ∧ (Blk w' g1 27 [.slice Ax_Maps nx_Maps cx_Maps, .slice Ax_Away nx_Away cx_Away, .int .i64 x.Bought, .int .i64 x.Dropped, .int .i64 x.Mended]) ∧ (SlR w' Bx_Maps encLMap 3 Ax_Maps nx_Maps cx_Maps x.Maps) ∧ (SlR w' Bx_Away encAway 2 Ax_Away nx_Away cx_Away x.Away) ∧ (g ≤ nx_Maps ∧ MTo x.Maps g)) (fun g => nx_Maps - g) 0 ?_ ?_ ?_
  · exact ⟨rfl, rfl, rfl, rfl, trivial⟩
  · exact ⟨hB8, hb6, (hx_Maps).lo hk4, (hx_Away).lo hk4, (by exact ⟨Nat.zero_le _, MTo.zero⟩)⟩
  · rintro k f9 w10 hP12
    obtain ⟨hB11, hm13, hm14, hm15, hi16⟩ : (Lo w w10) ∧ (Blk w10 g1 27 [.slice Ax_Maps nx_Maps cx_Maps, .slice Ax_Away nx_Away cx_Away, .int .i64 x.Bought, .int .i64 x.Dropped, .int .i64 x.Mended]) ∧ (SlR w10 Bx_Maps encLMap 3 Ax_Maps nx_Maps cx_Maps x.Maps) ∧ (SlR w10 Bx_Away encAway 2 Ax_Away nx_Away cx_Away x.Away) ∧ (k ≤ nx_Maps ∧ MTo x.Maps k) := hP12
    refine (?_ : W _ _ _ _ _ (act _ (sets f9 [(1, .pointer (pA g1)), (10, .slice Ax_Maps nx_Maps cx_Maps), (11, .int .i64 (nx_Maps : Int)), (12, .int .i64 (k : Int))])) _)
    have hzw10 := hB11.size
    have hl17 := hm13.lt
    refine W.seq ?_
    refine W.regS (SR.q' (r_lt rfl rfl) <| SR.nil ?_)
    refine W.seq ?_
    refine W.cond_d rfl (fun h18 => ?_) (fun h18 => ?_)
    · refine W.skip ?_
      refine W.seq ?_
      refine W.block ?_
      refine W.seq ?_
      refine W.regS (SR.q' (r_mv (v := .int .i64 _) rfl) <| ?_)
      have hx20 := (hm14).elem (i := k) (by omega)
      refine SR.q' (r_ixR tsl24 (hm14) rfl rfl (by omega)) <| SR.q' (r_lda (l := encLMap (gt x.Maps k)) agg59 rfl (fun _ _ hu => (hm14).cell hx20 hu) ((hm14).esz _)) <| SR.alloc (l := [.int .i64 0, .int .i64 0, .int .i64 0]) tz59 rfl ?_
      intro g21 w22 hg23 hk24 hs25 hb26
      have hz27 := hk24.size
      have hB28 := hB11.lo hk24
      refine SR.q' (r_as (v := .int .i64 _) rfl) <| SR.store (o := 0) (vs := [.int .i64 ((gt x.Maps k).Id), .int .i64 ((gt x.Maps k).Copies), .int .i64 ((gt x.Maps k).Torn)]) agg59.2 rfl rfl rfl rfl (hb26) (Nat.le_of_ble_eq_true rfl) rfl ?_
      intro w29 hk30 hs31 hb32
      have hz33 := hk30.size
      have hB34 := hB28.new hk30 (by omega)
      refine SR.nil ?_
      refine W.seq ?_
      refine W.regJD mo (by kernel_rfl) (fun f' w' => At f' [(1, .pointer (pA g1)), (10, .slice Ax_Maps nx_Maps cx_Maps), (11, .int .i64 (nx_Maps : Int)), (12, .int .i64 (k : Int)), (50, .bool (decide ((¬ (1 ≤ ((gt x.Maps k).Id) ∧ ((gt x.Maps k).Id) ≤ 99)) ∨ ((¬ (0 ≤ ((gt x.Maps k).Copies) ∧ ((gt x.Maps k).Copies) ≤ 99)) ∨ ((¬ (0 ≤ ((gt x.Maps k).Torn) ∧ ((gt x.Maps k).Torn) ≤ ((gt x.Maps k).Copies))) ∨ ((0 < (k : Int)) ∧ (((gt x.Maps k).Id) ≤ ((gt x.Maps (k - 1)).Id))))))))] ∧ Lo w29 w') ?_ ?_
      · refine QR.q' (fun w' hw' => r_fa fa59_0 rfl) <| QR.q' (fun w' hw' => r_ld (v := .int .i64 ((gt x.Maps k).Id)) sca3 rfl (((hb32).lo hw').cell rfl)) <| QR.call ent28 (fun w' hw' => (c_impl_isMapId w' ((gt x.Maps k).Id)).mono fun _ _ h => ⟨h.1, hw'.trans h.2⟩) rfl <| QR.q' (fun w' hw' => r_not rfl) <| QR.q' (fun w' hw' => r_mv (v := .bool _) rfl) <| QR.splitN (fun h35 => ?_) (fun h35 => ?_)
        · refine QR.s' rfl <| QR.s' rfl <| QR.s' rfl <| QR.s' rfl <| QR.q' (fun w' hw' => r_pick true rfl (v := .bool true) rfl) <| QR.q' (fun w' hw' => r_mv (v := .bool _) rfl) <| QR.s' rfl <| QR.s' rfl <| QR.s' rfl <| QR.s' rfl <| QR.s' rfl <| QR.s' rfl <| QR.q' (fun w' hw' => r_pick true rfl (v := .bool true) rfl) <| QR.q' (fun w' hw' => r_mv (v := .bool _) rfl) <| QR.s' rfl <| QR.s' rfl <| QR.s' rfl <| QR.u' rfl <| QR.u' rfl <| QR.u' rfl <| QR.u' rfl <| QR.u' rfl <| QR.u' rfl <| QR.u' rfl <| QR.u' rfl <| QR.u' rfl <| QR.u' rfl <| QR.s' rfl <| QR.q' (fun w' hw' => r_pick true rfl (v := .bool true) rfl) <| QR.nil ?_
          intro w36 hk37
          exact ⟨⟨rfl, rfl, rfl, rfl, (eDT ((jmf h35).1 trivial)), trivial⟩, hk37⟩
        · refine QR.g' rfl (fun w' hw' => r_fa fa59_1 rfl) <| QR.g' rfl (fun w' hw' => r_ld (v := .int .i64 ((gt x.Maps k).Copies)) sca3 rfl (((hb32).lo hw').cell rfl)) <| QR.gcall rfl ent29 (fun w' hw' => (c_impl_within w' ((gt x.Maps k).Copies) 0 99).mono fun _ _ h => ⟨h.1, hw'.trans h.2⟩) rfl <| QR.g' rfl (fun w' hw' => r_not rfl) <| QR.q' (fun w' hw' => r_pick false rfl (v := .bool _) rfl) <| QR.q' (fun w' hw' => r_mv (v := .bool _) rfl) <| QR.splitN (fun h38 => ?_) (fun h38 => ?_)
          · refine QR.s' rfl <| QR.s' rfl <| QR.s' rfl <| QR.s' rfl <| QR.s' rfl <| QR.s' rfl <| QR.q' (fun w' hw' => r_pick true rfl (v := .bool true) rfl) <| QR.q' (fun w' hw' => r_mv (v := .bool _) rfl) <| QR.s' rfl <| QR.s' rfl <| QR.s' rfl <| QR.u' rfl <| QR.u' rfl <| QR.u' rfl <| QR.u' rfl <| QR.u' rfl <| QR.u' rfl <| QR.u' rfl <| QR.u' rfl <| QR.u' rfl <| QR.u' rfl <| QR.s' rfl <| QR.q' (fun w' hw' => r_pick true rfl (v := .bool true) rfl) <| QR.nil ?_
            intro w39 hk40
            exact ⟨⟨rfl, rfl, rfl, rfl, (eDT (((jmf h38).trans (jmt h35)).1 trivial)), trivial⟩, hk40⟩
          · refine QR.g' rfl (fun w' hw' => r_fa fa59_2 rfl) <| QR.g' rfl (fun w' hw' => r_ld (v := .int .i64 ((gt x.Maps k).Torn)) sca3 rfl (((hb32).lo hw').cell rfl)) <| QR.g' rfl (fun w' hw' => r_fa fa59_1 rfl) <| QR.g' rfl (fun w' hw' => r_ld (v := .int .i64 ((gt x.Maps k).Copies)) sca3 rfl (((hb32).lo hw').cell rfl)) <| QR.gcall rfl ent29 (fun w' hw' => (c_impl_within w' ((gt x.Maps k).Torn) 0 ((gt x.Maps k).Copies)).mono fun _ _ h => ⟨h.1, hw'.trans h.2⟩) rfl <| QR.g' rfl (fun w' hw' => r_not rfl) <| QR.q' (fun w' hw' => r_pick false rfl (v := .bool _) rfl) <| QR.q' (fun w' hw' => r_mv (v := .bool _) rfl) <| QR.splitN (fun h41 => ?_) (fun h41 => ?_)
            · refine QR.s' rfl <| QR.s' rfl <| QR.s' rfl <| QR.u' rfl <| QR.u' rfl <| QR.u' rfl <| QR.u' rfl <| QR.u' rfl <| QR.u' rfl <| QR.u' rfl <| QR.u' rfl <| QR.u' rfl <| QR.u' rfl <| QR.s' rfl <| QR.q' (fun w' hw' => r_pick true rfl (v := .bool true) rfl) <| QR.nil ?_
              intro w42 hk43
              exact ⟨⟨rfl, rfl, rfl, rfl, (eDT ((((jmf h41).trans (jmt h38)).trans (jmt h35)).1 trivial)), trivial⟩, hk43⟩
            · refine QR.g' rfl (fun w' hw' => r_mv (v := .int .i64 _) rfl) <| QR.g' rfl (fun w' hw' => r_gt rfl rfl) <| QR.g' rfl (fun w' hw' => r_mv (v := .bool _) rfl) <| QR.splitD (fun h44 => ?_) (fun h44 => ?_)
              · refine QR.g' rfl (fun w' hw' => r_fa fa59_0 rfl) <| QR.g' rfl (fun w' hw' => r_ld (v := .int .i64 ((gt x.Maps k).Id)) sca3 rfl (((hb32).lo hw').cell rfl)) <| QR.g' rfl (fun w' hw' => r_fa fa27_0 rfl) <| QR.g' rfl (fun w' hw' => r_ld (v := .slice Ax_Maps nx_Maps cx_Maps) sca24 rfl (((((hm13).lo hk24).kn hk30 (by omega)).lo hw').cell rfl)) <| QR.g' rfl (fun w' hw' => r_mv (v := .int .i64 _) rfl) <| QR.g' rfl (fun w' hw' => r_sub rfl rfl (by omega)) <| ?_
                have hx46 := (((hm14).lo hk24).kn hk30 (by omega)).elem (i := ((k : Int) - 1).toNat) (by omega)
                rw [show ((k : Int) - 1).toNat = k - 1 from by omega] at hx46
                have hx47 : x.Maps[((k : Int) - 1).toNat]? = some (gt x.Maps (k - 1)) := (show ((k : Int) - 1).toNat = k - 1 from by omega) ▸ hx46
                refine QR.g' rfl (fun w' hw' => r_ixR tsl24 (((((hm14).lo hk24).kn hk30 (by omega)).lo hw')) rfl rfl (by omega)) <| QR.g' rfl (fun w' hw' => r_fa fa59_0 rfl) <| QR.g' rfl (fun w' hw' => r_ld (v := .int .i64 ((gt x.Maps (k - 1)).Id)) sca3 rfl ((((((hm14).lo hk24).kn hk30 (by omega)).lo hw')).cell hx47 rfl)) <| QR.g' rfl (fun w' hw' => r_le rfl rfl) <| QR.g' rfl (fun w' hw' => r_pick true rfl (v := .bool _) rfl) <| QR.q' (fun w' hw' => r_pick false rfl (v := .bool _) rfl) <| QR.nil ?_
                intro w48 hk49
                exact ⟨⟨rfl, rfl, rfl, rfl, (eDD ((((jat h44).trans (jmt h41)).trans (jmt h38)).trans (jmt h35))), trivial⟩, hk49⟩
              · refine QR.s' rfl <| QR.s' rfl <| QR.s' rfl <| QR.s' rfl <| QR.s' rfl <| QR.s' rfl <| QR.s' rfl <| QR.s' rfl <| QR.s' rfl <| QR.s' rfl <| QR.g' rfl (fun w' hw' => r_pick false rfl (v := .bool false) rfl) <| QR.q' (fun w' hw' => r_pick false rfl (v := .bool _) rfl) <| QR.nil ?_
                intro w50 hk51
                exact ⟨⟨rfl, rfl, rfl, rfl, (eDF ((((jaf h44).trans (jmt h41)).trans (jmt h38)).trans (jmt h35)).2), trivial⟩, hk51⟩
      rintro f52 w53 ⟨hat54, hk55⟩
      rw [← sets_of_at hat54]
      have hz56 := hk55.size
      have hB57 := hB34.lo hk55
      refine W.cond_d rfl (fun h58 => ?_) (fun h58 => ?_)
      · refine W.seq ?_
        refine W.regS (SR.q' (r_as (v := .bool false) rfl) <| SR.nil ?_)
        refine W.ret ?_
        refine ret1 rfl (v := .bool _) rfl ?_
        exact ⟨eR (eDF (z_c_impl_IsLibrary_59 x nx_Maps hbdx_Maps hlex_Maps nx_Away hbdx_Away hlex_Away hp0 k hi16 h18 hx20 h58)), hB57⟩
      · have hq60 : 1 ≤ ((gt x.Maps k).Id) ∧ ((gt x.Maps k).Id) ≤ 99 := (Classical.not_not.1 (not_or.1 h58).1)
        have hq61 : 0 ≤ ((gt x.Maps k).Copies) ∧ ((gt x.Maps k).Copies) ≤ 99 := (Classical.not_not.1 (not_or.1 (not_or.1 h58).2).1)
        have hq62 : 0 ≤ ((gt x.Maps k).Torn) ∧ ((gt x.Maps k).Torn) ≤ ((gt x.Maps k).Copies) := (Classical.not_not.1 (not_or.1 (not_or.1 (not_or.1 h58).2).2).1)
        have hq63 : ¬ ((0 < (k : Int)) ∧ (((gt x.Maps k).Id) ≤ ((gt x.Maps (k - 1)).Id))) := (not_or.1 (not_or.1 (not_or.1 h58).2).2).2
        refine W.skip ?_
        refine W.regS (SR.q' (r_add rfl rfl (by omega)) <| SR.q' (r_mv (v := .int .i64 _) rfl) <| SR.nil ?_)
        refine ⟨k + 1, _, rfl, ⟨rfl, rfl, rfl, rfl, trivial⟩, ⟨hB57, (((hm13).lo hk24).kn hk30 (by omega)).lo hk55, (((hm14).lo hk24).kn hk30 (by omega)).lo hk55, (((hm15).lo hk24).kn hk30 (by omega)).lo hk55, ?_⟩, ?_⟩
        · exact (by exact ⟨by omega, MTo.next (And.right ‹_ ∧ MTo _ _›) ‹_›⟩)
        · exact (by omega)
    · refine W.exit (xin_here ?_)
      refine W.seq ?_
      refine W.seq ?_
      refine W.regS (SR.q' (r_fa fa27_1 rfl) <| SR.q' (r_ld (v := .slice Ax_Away nx_Away cx_Away) sca25 rfl ((hm13).cell rfl)) <| SR.q' (r_len und25 rfl) <| SR.q' (r_mv (v := .int .i64 0) rfl) <| SR.nil ?_)
      refine W.block ?_
      refine W.loop (σ := Nat) (fun g => [(1, .pointer (pA g1)), (53, .slice Ax_Away nx_Away cx_Away), (54, .int .i64 (nx_Away : Int)), (55, .int .i64 (g : Int))]) (fun g w' => (Lo w w') ∧ (Blk w' g1 27 [.slice Ax_Maps nx_Maps cx_Maps, .slice Ax_Away nx_Away cx_Away, .int .i64 x.Bought, .int .i64 x.Dropped, .int .i64 x.Mended]) ∧ (SlR w' Bx_Maps encLMap 3 Ax_Maps nx_Maps cx_Maps x.Maps) ∧ (SlR w' Bx_Away encAway 2 Ax_Away nx_Away cx_Away x.Away) ∧ (g ≤ nx_Away ∧ ATo x.Maps x.Away g)) (fun g => nx_Away - g) 0 ?_ ?_ ?_
      · exact ⟨rfl, rfl, rfl, rfl, trivial⟩
      · exact ⟨hB11, hm13, hm14, hm15, (by exact ⟨Nat.zero_le _, ATo.zero⟩)⟩
      · rintro j f64 w65 hP67
        obtain ⟨hB66, hm68, hm69, hm70, hi71⟩ : (Lo w w65) ∧ (Blk w65 g1 27 [.slice Ax_Maps nx_Maps cx_Maps, .slice Ax_Away nx_Away cx_Away, .int .i64 x.Bought, .int .i64 x.Dropped, .int .i64 x.Mended]) ∧ (SlR w65 Bx_Maps encLMap 3 Ax_Maps nx_Maps cx_Maps x.Maps) ∧ (SlR w65 Bx_Away encAway 2 Ax_Away nx_Away cx_Away x.Away) ∧ (j ≤ nx_Away ∧ ATo x.Maps x.Away j) := hP67
        refine (?_ : W _ _ _ _ _ (act _ (sets f64 [(1, .pointer (pA g1)), (53, .slice Ax_Away nx_Away cx_Away), (54, .int .i64 (nx_Away : Int)), (55, .int .i64 (j : Int))])) _)
        have hzw65 := hB66.size
        have hl72 := hm68.lt
        refine W.seq ?_
        refine W.regS (SR.q' (r_lt rfl rfl) <| SR.nil ?_)
        refine W.seq ?_
        refine W.cond_d rfl (fun h73 => ?_) (fun h73 => ?_)
        · refine W.skip ?_
          refine W.seq ?_
          refine W.block ?_
          refine W.seq ?_
          refine W.regS (SR.q' (r_mv (v := .int .i64 _) rfl) <| ?_)
          have hx75 := (hm70).elem (i := j) (by omega)
          refine SR.q' (r_ixR tsl25 (hm70) rfl rfl (by omega)) <| SR.q' (r_lda (l := encAway (gt x.Away j)) agg63 rfl (fun _ _ hu => (hm70).cell hx75 hu) ((hm70).esz _)) <| SR.alloc (l := [.int .i64 0, .int .i64 0]) tz63 rfl ?_
          intro g76 w77 hg78 hk79 hs80 hb81
          have hz82 := hk79.size
          have hB83 := hB66.lo hk79
          refine SR.q' (r_as (v := .int .i64 _) rfl) <| SR.store (o := 0) (vs := [.int .i64 ((gt x.Away j).Map), .int .i64 ((gt x.Away j).Reader)]) agg63.2 rfl rfl rfl rfl (hb81) (Nat.le_of_ble_eq_true rfl) rfl ?_
          intro w84 hk85 hs86 hb87
          have hz88 := hk85.size
          have hB89 := hB83.new hk85 (by omega)
          refine SR.nil ?_
          refine W.seq ?_
          refine W.regS (SR.q' (r_lda (l := [.slice Ax_Maps nx_Maps cx_Maps, .slice Ax_Away nx_Away cx_Away, .int .i64 x.Bought, .int .i64 x.Dropped, .int .i64 x.Mended]) agg27 rfl (fun _ _ hu => (((hm68).lo hk79).kn hk85 (by omega)).cell hu) rfl) <| SR.q' (r_fa fa63_0 rfl) <| SR.q' (r_ld (v := .int .i64 ((gt x.Away j).Map)) sca3 rfl ((hb87).cell rfl)) <| SR.call ent30 (c__impl_Library__mapAt w84 x ((((hm69).lo hk79).kn hk85 (by omega))) ((((hm70).lo hk79).kn hk85 (by omega))) ((gt x.Away j).Map) (by omega)) rfl ?_)
          rintro e w90 ⟨rfl, hk91⟩
          refine ⟨_, rfl, ?_⟩
          have hz92 := hk91.size
          have hB93 := hB89.lo hk91
          have hq94 : bsP cmpM ((gt x.Away j).Map) x.Maps ≤ x.Maps.length := bsP_le
          refine SR.q' (r_mv (v := .tuple (List.toArray _)) rfl) <| SR.q' (r_ext (v := .int .i64 _) rfl rfl) <| SR.q' (r_ext (v := .bool _) rfl rfl) <| SR.q' (r_as (v := .int .i64 _) rfl) <| SR.q' (r_as (v := .bool _) rfl) <| SR.nil ?_
          refine W.seq ?_
          refine W.regJD mo (by kernel_rfl) (fun f' w' => At f' [(1, .pointer (pA g1)), (53, .slice Ax_Away nx_Away cx_Away), (54, .int .i64 (nx_Away : Int)), (55, .int .i64 (j : Int)), (89, .bool (decide ((¬ (bsF cmpM ((gt x.Away j).Map) x.Maps)) ∨ ((¬ (1 ≤ ((gt x.Away j).Reader) ∧ ((gt x.Away j).Reader) ≤ 999)) ∨ ((0 < (j : Int)) ∧ (0 ≤ (cmpA (gt x.Away (j - 1)) (gt x.Away j))))))))] ∧ Lo w90 w') ?_ ?_
          · refine QR.q' (fun w' hw' => r_mv (v := .bool _) rfl) <| QR.q' (fun w' hw' => r_not rfl) <| QR.q' (fun w' hw' => r_mv (v := .bool _) rfl) <| QR.splitN (fun h95 => ?_) (fun h95 => ?_)
            · refine QR.s' rfl <| QR.s' rfl <| QR.s' rfl <| QR.s' rfl <| QR.q' (fun w' hw' => r_pick true rfl (v := .bool true) rfl) <| QR.q' (fun w' hw' => r_mv (v := .bool _) rfl) <| QR.s' rfl <| QR.s' rfl <| QR.s' rfl <| QR.u' rfl <| QR.u' rfl <| QR.u' rfl <| QR.u' rfl <| QR.u' rfl <| QR.u' rfl <| QR.u' rfl <| QR.u' rfl <| QR.u' rfl <| QR.s' rfl <| QR.q' (fun w' hw' => r_pick true rfl (v := .bool true) rfl) <| QR.nil ?_
              intro w96 hk97
              exact ⟨⟨rfl, rfl, rfl, rfl, (eDT ((jmf h95).1 trivial)), trivial⟩, hk97⟩
            · refine QR.g' rfl (fun w' hw' => r_fa fa63_1 rfl) <| QR.g' rfl (fun w' hw' => r_ld (v := .int .i64 ((gt x.Away j).Reader)) sca3 rfl ((((hb87).lo hk91).lo hw').cell rfl)) <| QR.gcall rfl ent31 (fun w' hw' => (c_impl_isId w' ((gt x.Away j).Reader)).mono fun _ _ h => ⟨h.1, hw'.trans h.2⟩) rfl <| QR.g' rfl (fun w' hw' => r_not rfl) <| QR.q' (fun w' hw' => r_pick false rfl (v := .bool _) rfl) <| QR.q' (fun w' hw' => r_mv (v := .bool _) rfl) <| QR.splitN (fun h98 => ?_) (fun h98 => ?_)
              · refine QR.s' rfl <| QR.s' rfl <| QR.s' rfl <| QR.u' rfl <| QR.u' rfl <| QR.u' rfl <| QR.u' rfl <| QR.u' rfl <| QR.u' rfl <| QR.u' rfl <| QR.u' rfl <| QR.u' rfl <| QR.s' rfl <| QR.q' (fun w' hw' => r_pick true rfl (v := .bool true) rfl) <| QR.nil ?_
                intro w99 hk100
                exact ⟨⟨rfl, rfl, rfl, rfl, (eDT (((jmf h98).trans (jmt h95)).1 trivial)), trivial⟩, hk100⟩
              · refine QR.g' rfl (fun w' hw' => r_mv (v := .int .i64 _) rfl) <| QR.g' rfl (fun w' hw' => r_gt rfl rfl) <| QR.g' rfl (fun w' hw' => r_mv (v := .bool _) rfl) <| QR.splitD (fun h101 => ?_) (fun h101 => ?_)
                · refine QR.g' rfl (fun w' hw' => r_fa fa27_1 rfl) <| QR.g' rfl (fun w' hw' => r_ld (v := .slice Ax_Away nx_Away cx_Away) sca25 rfl ((((((hm68).lo hk79).kn hk85 (by omega)).lo hk91).lo hw').cell rfl)) <| QR.g' rfl (fun w' hw' => r_mv (v := .int .i64 _) rfl) <| QR.g' rfl (fun w' hw' => r_sub rfl rfl (by omega)) <| ?_
                  have hx103 := ((((hm70).lo hk79).kn hk85 (by omega)).lo hk91).elem (i := ((j : Int) - 1).toNat) (by omega)
                  rw [show ((j : Int) - 1).toNat = j - 1 from by omega] at hx103
                  have hx104 : x.Away[((j : Int) - 1).toNat]? = some (gt x.Away (j - 1)) := (show ((j : Int) - 1).toNat = j - 1 from by omega) ▸ hx103
                  refine QR.g' rfl (fun w' hw' => r_ixR tsl25 ((((((hm70).lo hk79).kn hk85 (by omega)).lo hk91).lo hw')) rfl rfl (by omega)) <| QR.g' rfl (fun w' hw' => r_lda (l := encAway (gt x.Away (j - 1))) agg63 rfl (fun _ _ hu => ((((((hm70).lo hk79).kn hk85 (by omega)).lo hk91).lo hw')).cell hx104 hu) (((((((hm70).lo hk79).kn hk85 (by omega)).lo hk91).lo hw')).esz _)) <| QR.g' rfl (fun w' hw' => r_lda (l := [.int .i64 ((gt x.Away j).Map), .int .i64 ((gt x.Away j).Reader)]) agg63 rfl (fun _ _ hu => (((hb87).lo hk91).lo hw').cell hu) rfl) <| QR.gcall rfl ent32 (fun w' hw' => (c_impl_compareAway w' (gt x.Away (j - 1)) (gt x.Away j)).mono fun _ _ h => ⟨h.1, hw'.trans h.2⟩) rfl <| QR.g' rfl (fun w' hw' => r_ge rfl rfl) <| QR.g' rfl (fun w' hw' => r_pick true rfl (v := .bool _) rfl) <| QR.q' (fun w' hw' => r_pick false rfl (v := .bool _) rfl) <| QR.nil ?_
                  intro w105 hk106
                  exact ⟨⟨rfl, rfl, rfl, rfl, (eDD (((jat h101).trans (jmt h98)).trans (jmt h95))), trivial⟩, hk106⟩
                · refine QR.s' rfl <| QR.s' rfl <| QR.s' rfl <| QR.s' rfl <| QR.s' rfl <| QR.s' rfl <| QR.s' rfl <| QR.s' rfl <| QR.s' rfl <| QR.g' rfl (fun w' hw' => r_pick false rfl (v := .bool false) rfl) <| QR.q' (fun w' hw' => r_pick false rfl (v := .bool _) rfl) <| QR.nil ?_
                  intro w107 hk108
                  exact ⟨⟨rfl, rfl, rfl, rfl, (eDF (((jaf h101).trans (jmt h98)).trans (jmt h95)).2), trivial⟩, hk108⟩
          rintro f109 w110 ⟨hat111, hk112⟩
          rw [← sets_of_at hat111]
          have hz113 := hk112.size
          have hB114 := hB93.lo hk112
          refine W.cond_d rfl (fun h115 => ?_) (fun h115 => ?_)
          · refine W.seq ?_
            refine W.regS (SR.q' (r_as (v := .bool false) rfl) <| SR.nil ?_)
            refine W.ret ?_
            refine ret1 rfl (v := .bool _) rfl ?_
            exact ⟨eR (eDF (z_c_impl_IsLibrary_116 x nx_Maps hbdx_Maps hlex_Maps nx_Away hbdx_Away hlex_Away hp0 k hi16 h18 j hi71 h73 hx75 hq94 h115)), hB114⟩
          · have hq117 : bsF cmpM ((gt x.Away j).Map) x.Maps := (Classical.not_not.1 (not_or.1 h115).1)
            have hq118 : 1 ≤ ((gt x.Away j).Reader) ∧ ((gt x.Away j).Reader) ≤ 999 := (Classical.not_not.1 (not_or.1 (not_or.1 h115).2).1)
            have hq119 : ¬ ((0 < (j : Int)) ∧ (0 ≤ (cmpA (gt x.Away (j - 1)) (gt x.Away j)))) := (not_or.1 (not_or.1 h115).2).2
            refine W.skip ?_
            refine W.regS (SR.q' (r_add rfl rfl (by omega)) <| SR.q' (r_mv (v := .int .i64 _) rfl) <| SR.nil ?_)
            refine ⟨j + 1, _, rfl, ⟨rfl, rfl, rfl, rfl, trivial⟩, ⟨hB114, ((((hm68).lo hk79).kn hk85 (by omega)).lo hk91).lo hk112, ((((hm69).lo hk79).kn hk85 (by omega)).lo hk91).lo hk112, ((((hm70).lo hk79).kn hk85 (by omega)).lo hk91).lo hk112, ?_⟩, ?_⟩
            · exact (by exact ⟨by omega, ATo.next (And.right ‹_ ∧ ATo _ _ _›) (a_goodI (MTo.end_ (And.right ‹_ ∧ MTo _ _›) (by omega)) ‹_›)⟩)
            · exact (by omega)
        · refine W.exit (xin_here ?_)
          refine W.seq ?_
          refine W.regJD mo (by kernel_rfl) (fun f' w' => At f' [(2, .bool (decide (((nx_Maps : Int) ≤ 8) ∧ (((nx_Away : Int) ≤ 8) ∧ ((0 ≤ x.Bought ∧ x.Bought ≤ 9999) ∧ ((0 ≤ x.Dropped ∧ x.Dropped ≤ 9999) ∧ ((0 ≤ x.Mended ∧ x.Mended ≤ 9999) ∧ (x.Bought = (((sumC x.Maps) + (nx_Away : Int)) + x.Dropped)))))))))] ∧ Lo w65 w') ?_ ?_
          · refine QR.q' (fun w' hw' => r_fa fa27_0 rfl) <| QR.q' (fun w' hw' => r_ld (v := .slice Ax_Maps nx_Maps cx_Maps) sca24 rfl (((hm68).lo hw').cell rfl)) <| QR.q' (fun w' hw' => r_len und24 rfl) <| QR.q' (fun w' hw' => r_le rfl rfl) <| QR.q' (fun w' hw' => r_mv (v := .bool _) rfl) <| QR.splitD (fun h120 => ?_) (fun h120 => ?_)
            · refine QR.g' rfl (fun w' hw' => r_fa fa27_1 rfl) <| QR.g' rfl (fun w' hw' => r_ld (v := .slice Ax_Away nx_Away cx_Away) sca25 rfl (((hm68).lo hw').cell rfl)) <| QR.g' rfl (fun w' hw' => r_len und25 rfl) <| QR.g' rfl (fun w' hw' => r_le rfl rfl) <| QR.q' (fun w' hw' => r_pick true rfl (v := .bool _) rfl) <| QR.q' (fun w' hw' => r_mv (v := .bool _) rfl) <| QR.splitD (fun h121 => ?_) (fun h121 => ?_)
              · refine QR.g' rfl (fun w' hw' => r_fa fa27_2 rfl) <| QR.g' rfl (fun w' hw' => r_ld (v := .int .i64 x.Bought) sca3 rfl (((hm68).lo hw').cell rfl)) <| QR.gcall rfl ent33 (fun w' hw' => (c_impl_isSum w' x.Bought).mono fun _ _ h => ⟨h.1, hw'.trans h.2⟩) rfl <| QR.q' (fun w' hw' => r_pick true rfl (v := .bool _) rfl) <| QR.q' (fun w' hw' => r_mv (v := .bool _) rfl) <| QR.splitD (fun h122 => ?_) (fun h122 => ?_)
                · refine QR.g' rfl (fun w' hw' => r_fa fa27_3 rfl) <| QR.g' rfl (fun w' hw' => r_ld (v := .int .i64 x.Dropped) sca3 rfl (((hm68).lo hw').cell rfl)) <| QR.gcall rfl ent33 (fun w' hw' => (c_impl_isSum w' x.Dropped).mono fun _ _ h => ⟨h.1, hw'.trans h.2⟩) rfl <| QR.q' (fun w' hw' => r_pick true rfl (v := .bool _) rfl) <| QR.q' (fun w' hw' => r_mv (v := .bool _) rfl) <| QR.splitD (fun h123 => ?_) (fun h123 => ?_)
                  · refine QR.g' rfl (fun w' hw' => r_fa fa27_4 rfl) <| QR.g' rfl (fun w' hw' => r_ld (v := .int .i64 x.Mended) sca3 rfl (((hm68).lo hw').cell rfl)) <| QR.gcall rfl ent33 (fun w' hw' => (c_impl_isSum w' x.Mended).mono fun _ _ h => ⟨h.1, hw'.trans h.2⟩) rfl <| QR.q' (fun w' hw' => r_pick true rfl (v := .bool _) rfl) <| QR.q' (fun w' hw' => r_mv (v := .bool _) rfl) <| QR.splitD (fun h124 => ?_) (fun h124 => ?_)
                    · refine QR.g' rfl (fun w' hw' => r_fa fa27_2 rfl) <| QR.g' rfl (fun w' hw' => r_ld (v := .int .i64 x.Bought) sca3 rfl (((hm68).lo hw').cell rfl)) <| QR.g' rfl (fun w' hw' => r_lda (l := [.slice Ax_Maps nx_Maps cx_Maps, .slice Ax_Away nx_Away cx_Away, .int .i64 x.Bought, .int .i64 x.Dropped, .int .i64 x.Mended]) agg27 rfl (fun _ _ hu => ((hm68).lo hw').cell hu) rfl) <| QR.gcall rfl ent34 (fun w' hw' => (c__impl_Library__copies w' x ((((hm69).lo hw'))) ((((hm70).lo hw'))) (by first | assumption | exact MTo.end_ (And.right ‹_ ∧ MTo _ _›) (by omega)) (by omega)).mono fun _ _ h => ⟨h.1, hw'.trans h.2⟩) rfl <| ?_
                      have hq125 : 0 ≤ sumC x.Maps ∧ sumC x.Maps ≤ 792 := sumC_rng (by first | assumption | exact MTo.end_ (And.right ‹_ ∧ MTo _ _›) (by omega)) (by omega)
                      refine QR.g' rfl (fun w' hw' => r_fa fa27_1 rfl) <| QR.g' rfl (fun w' hw' => r_ld (v := .slice Ax_Away nx_Away cx_Away) sca25 rfl (((hm68).lo hw').cell rfl)) <| QR.g' rfl (fun w' hw' => r_len und25 rfl) <| QR.g' rfl (fun w' hw' => r_add rfl rfl (by omega)) <| QR.g' rfl (fun w' hw' => r_fa fa27_3 rfl) <| QR.g' rfl (fun w' hw' => r_ld (v := .int .i64 x.Dropped) sca3 rfl (((hm68).lo hw').cell rfl)) <| QR.g' rfl (fun w' hw' => r_add rfl rfl (by omega)) <| QR.g' rfl (fun w' hw' => r_eq rfl rfl) <| QR.q' (fun w' hw' => r_pick true rfl (v := .bool _) rfl) <| QR.q' (fun w' hw' => r_as (v := .bool _) rfl) <| QR.nil ?_
                      intro w126 hk127
                      exact ⟨⟨(eDD (((((jat h124).trans (jat h123)).trans (jat h122)).trans (jat h121)).trans (jat h120))), trivial⟩, hk127⟩
                    · refine QR.s' rfl <| QR.s' rfl <| QR.s' rfl <| QR.s' rfl <| QR.s' rfl <| QR.s' rfl <| QR.s' rfl <| QR.s' rfl <| QR.s' rfl <| QR.s' rfl <| QR.s' rfl <| QR.s' rfl <| QR.q' (fun w' hw' => r_pick false rfl (v := .bool false) rfl) <| QR.q' (fun w' hw' => r_as (v := .bool _) rfl) <| QR.nil ?_
                      intro w128 hk129
                      exact ⟨⟨(eDF (((((jaf h124).trans (jat h123)).trans (jat h122)).trans (jat h121)).trans (jat h120)).2), trivial⟩, hk129⟩
                  · refine QR.s' rfl <| QR.s' rfl <| QR.s' rfl <| QR.q' (fun w' hw' => r_pick false rfl (v := .bool false) rfl) <| QR.q' (fun w' hw' => r_mv (v := .bool _) rfl) <| QR.s' rfl <| QR.s' rfl <| QR.s' rfl <| QR.s' rfl <| QR.s' rfl <| QR.s' rfl <| QR.s' rfl <| QR.s' rfl <| QR.s' rfl <| QR.s' rfl <| QR.s' rfl <| QR.s' rfl <| QR.q' (fun w' hw' => r_pick false rfl (v := .bool false) rfl) <| QR.q' (fun w' hw' => r_as (v := .bool _) rfl) <| QR.nil ?_
                    intro w130 hk131
                    exact ⟨⟨(eDF ((((jaf h123).trans (jat h122)).trans (jat h121)).trans (jat h120)).2), trivial⟩, hk131⟩
                · refine QR.s' rfl <| QR.s' rfl <| QR.s' rfl <| QR.q' (fun w' hw' => r_pick false rfl (v := .bool false) rfl) <| QR.q' (fun w' hw' => r_mv (v := .bool _) rfl) <| QR.s' rfl <| QR.s' rfl <| QR.s' rfl <| QR.q' (fun w' hw' => r_pick false rfl (v := .bool false) rfl) <| QR.q' (fun w' hw' => r_mv (v := .bool _) rfl) <| QR.s' rfl <| QR.s' rfl <| QR.s' rfl <| QR.s' rfl <| QR.s' rfl <| QR.s' rfl <| QR.s' rfl <| QR.s' rfl <| QR.s' rfl <| QR.s' rfl <| QR.s' rfl <| QR.s' rfl <| QR.q' (fun w' hw' => r_pick false rfl (v := .bool false) rfl) <| QR.q' (fun w' hw' => r_as (v := .bool _) rfl) <| QR.nil ?_
                  intro w132 hk133
                  exact ⟨⟨(eDF (((jaf h122).trans (jat h121)).trans (jat h120)).2), trivial⟩, hk133⟩
              · refine QR.s' rfl <| QR.s' rfl <| QR.s' rfl <| QR.q' (fun w' hw' => r_pick false rfl (v := .bool false) rfl) <| QR.q' (fun w' hw' => r_mv (v := .bool _) rfl) <| QR.s' rfl <| QR.s' rfl <| QR.s' rfl <| QR.q' (fun w' hw' => r_pick false rfl (v := .bool false) rfl) <| QR.q' (fun w' hw' => r_mv (v := .bool _) rfl) <| QR.s' rfl <| QR.s' rfl <| QR.s' rfl <| QR.q' (fun w' hw' => r_pick false rfl (v := .bool false) rfl) <| QR.q' (fun w' hw' => r_mv (v := .bool _) rfl) <| QR.s' rfl <| QR.s' rfl <| QR.s' rfl <| QR.s' rfl <| QR.s' rfl <| QR.s' rfl <| QR.s' rfl <| QR.s' rfl <| QR.s' rfl <| QR.s' rfl <| QR.s' rfl <| QR.s' rfl <| QR.q' (fun w' hw' => r_pick false rfl (v := .bool false) rfl) <| QR.q' (fun w' hw' => r_as (v := .bool _) rfl) <| QR.nil ?_
                intro w134 hk135
                exact ⟨⟨(eDF ((jaf h121).trans (jat h120)).2), trivial⟩, hk135⟩
            · refine QR.s' rfl <| QR.s' rfl <| QR.s' rfl <| QR.s' rfl <| QR.q' (fun w' hw' => r_pick false rfl (v := .bool false) rfl) <| QR.q' (fun w' hw' => r_mv (v := .bool _) rfl) <| QR.s' rfl <| QR.s' rfl <| QR.s' rfl <| QR.q' (fun w' hw' => r_pick false rfl (v := .bool false) rfl) <| QR.q' (fun w' hw' => r_mv (v := .bool _) rfl) <| QR.s' rfl <| QR.s' rfl <| QR.s' rfl <| QR.q' (fun w' hw' => r_pick false rfl (v := .bool false) rfl) <| QR.q' (fun w' hw' => r_mv (v := .bool _) rfl) <| QR.s' rfl <| QR.s' rfl <| QR.s' rfl <| QR.q' (fun w' hw' => r_pick false rfl (v := .bool false) rfl) <| QR.q' (fun w' hw' => r_mv (v := .bool _) rfl) <| QR.s' rfl <| QR.s' rfl <| QR.s' rfl <| QR.s' rfl <| QR.s' rfl <| QR.s' rfl <| QR.s' rfl <| QR.s' rfl <| QR.s' rfl <| QR.s' rfl <| QR.s' rfl <| QR.s' rfl <| QR.q' (fun w' hw' => r_pick false rfl (v := .bool false) rfl) <| QR.q' (fun w' hw' => r_as (v := .bool _) rfl) <| QR.nil ?_
              intro w136 hk137
              exact ⟨⟨(eDF (jaf h120).2), trivial⟩, hk137⟩
          rintro f138 w139 ⟨hat140, hk141⟩
          rw [← sets_of_at hat140]
          have hz142 := hk141.size
          have hB143 := hB66.lo hk141
          refine W.ret ?_
          refine ret1 rfl (v := .bool _) rfl ?_
          exact ⟨eR (eDD (z_c_impl_IsLibrary_144 x nx_Maps hbdx_Maps hlex_Maps nx_Away hbdx_Away hlex_Away hp0 k hi16 h18 j hi71 h73)), hB143⟩
end Go.Proofs.Ytgobbcilgcbkaaa
