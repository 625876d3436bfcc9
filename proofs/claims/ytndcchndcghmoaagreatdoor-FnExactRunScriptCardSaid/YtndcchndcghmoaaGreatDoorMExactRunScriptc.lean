/- Words and walks of this claim. -/
import Derived.Test.YtndcchndcghmoaaGreatDoorChecked
import Derived.Test.YtndcchndcghmoaaGreatDoorMExactRunScriptb
set_option linter.unusedVariables false
namespace Go.Proofs.YtndcchndcghmoaaGreatDoor
open Go Go.RowKit Fw
set_option maxRecDepth 10000
set_option maxHeartbeats 2000000
set_option linter.unusedVariables false
theorem agg34 : TAgg Tryz.prog 34 5 := tG
theorem ent120 : Ent Tryz.prog 120 := en Tryz.func120
theorem ent121 : Ent Tryz.prog 121 := en Tryz.func121
theorem ent122 : Ent Tryz.prog 122 := en Tryz.func122
theorem ent123 : Ent Tryz.prog 123 := en Tryz.func123
theorem ent124 : Ent Tryz.prog 124 := en Tryz.func124
theorem ent125 : Ent Tryz.prog 125 := en Tryz.func125
theorem ent129 : Ent Tryz.prog 129 := en Tryz.func129
theorem ent130 : Ent Tryz.prog 130 := en Tryz.func130
theorem ent131 : Ent Tryz.prog 131 := en Tryz.func131
theorem ent132 : Ent Tryz.prog 132 := en Tryz.func132
theorem ent165 : Ent Tryz.prog 165 := en Tryz.func165
theorem fa34_1 : FA Tryz.prog 34 1 1 := fun _ _ => by kernel_rfl
theorem fa34_2 : FA Tryz.prog 34 2 2 := fun _ _ => by kernel_rfl
theorem fa34_3 : FA Tryz.prog 34 3 3 := fun _ _ => by kernel_rfl
theorem fa34_4 : FA Tryz.prog 34 4 4 := fun _ _ => by kernel_rfl
theorem sca32 : TSca Tryz.prog 32 := tS
theorem tz129 : TZ Tryz.prog 129 (.agg (List.toArray [.int .i64 0, .int .i64 0])) := fun _ => by kernel_rfl
theorem c_spec_l32Map (w : World) (x : Library) {Ax1 : Option Addr} {nx1 cx1 Bx1 : Nat} (hx1 : SlR w Bx1 encLMap 3 Ax1 nx1 cx1 x.Maps) {Ax2 : Option Addr} {nx2 cx2 Bx2 : Nat} (hx2 : SlR w Bx2 encAway 2 Ax2 nx2 cx2 x.Away) (id : Int) : Calls Tryz.prog 165 #[.agg (List.toArray (cLb Ax1 nx1 cx1 Ax2 nx2 cx2 x)), .int .i64 id] w fun e w' => e = .returned (.int .i64 (idxF (hasId id) x.Maps)) ∧ Lo w w' := by
 refine calls_W 22 Tryz.func165 rfl rfl rfl ?_
 have hbdx1 := hx1.bound
 have hlex1 := hx1.len
 have hBbx1 := hx1.bd
 have hbdx2 := hx2.bound
 have hlex2 := hx2.len
 have hBbx2 := hx2.bd
 refine Ws (Wr (SR.box (v := .agg (List.toArray _)) (l := (cLb Ax1 nx1 cx1 Ax2 nx2 cx2 x)) rfl rfl ?_))
 intro g1 w2 hg3 hk4 hs5 hb6
 refine Q (aI rfl) <| Qn (Ws (Ws (Wr (Q (aI rfl) <| Qn (W.block (W.loop (σ := Nat) (fun g => [(1, .int .i64 id), (2, .pointer (pA g1)), (5, .int .i64 (g : Int))]) (fun g w' => (Lo w w') ∧ (Blk w' g1 34 (cLb Ax1 nx1 cx1 Ax2 nx2 cx2 x)) ∧ (SlR w' Bx1 encLMap 3 Ax1 nx1 cx1 x.Maps) ∧ (SlR w' Bx2 encAway 2 Ax2 nx2 cx2 x.Away) ∧ (g ≤ nx1 ∧ NoneTo (hasId id) x.Maps g)) (fun g => nx1 - g) 0 ?_ ?_ ?_))))))
 ·exact (At.r rfl)
 ·exact ⟨((Lo.refl w).lo hk4), hb6, hx1.lo hk4, hx2.lo hk4, (by exact ⟨Nat.zero_le _, NoneTo.zero⟩)⟩
 ·rintro k f9 w10 hP12
  obtain ⟨hB11, hm13, hm14, hm15, hi16⟩ : (Lo w w10) ∧ (Blk w10 g1 34 (cLb Ax1 nx1 cx1 Ax2 nx2 cx2 x)) ∧ (SlR w10 Bx1 encLMap 3 Ax1 nx1 cx1 x.Maps) ∧ (SlR w10 Bx2 encAway 2 Ax2 nx2 cx2 x.Away) ∧ (k ≤ nx1 ∧ NoneTo (hasId id) x.Maps k) := hP12
  refine (?_ : W _ _ _ _ _ (act _ (sets f9 [(1, .int .i64 id), (2, .pointer (pA g1)), (5, .int .i64 (k : Int))])) _)
  have hzw10 := hB11.size
  have hl17 := hm13.lt
  refine Ws (Ws (Wr (Q (mI rfl) <| Q (fA fa34_0 rfl) <| Q (lB sca31 rfl hm13 rfl) <| Q (r_len und31 rfl) <| Q (r_lt rfl rfl) <| Qn (W.cond_d rfl (fun h18 => ?_) (fun h18 => ?_)))))
  ·refine W.skip (Ws (W.block (Ws (Wr (Q (fA fa34_0 rfl) <| Q (lB sca31 rfl hm13 rfl) <| Q (mI rfl) <| ?_)))))
   have hx20 := hm14.elem (i := k) (by omega)
   refine Q (r_ixR tsl31 hm14 rfl rfl (by omega)) <| Q (fA fa102_0 rfl) <| Q (r_ld (v := .int .i64 ((gt x.Maps k).Id)) sca3 rfl (hm14.cell hx20 rfl)) <| Q (mI rfl) <| Q (r_eq rfl rfl) <| Qn (W.cond_d rfl (fun h21 => ?_) (fun h21 => ?_))
   ·refine Ws (Wr (Q (mI rfl) <| Q (aI rfl) <| Qn (W.ret (ret1 rfl (v := .int .i64 _) rfl (⟨eR (eI (by first | exact idx_at (And.right ‹_ ∧ NoneTo _ _ _›) ‹x.Maps[k]? = some _› (by simpa [hasId] using ‹_›) | exact idx_no (And.right ‹_ ∧ NoneTo _ _ _›) hlex1 ‹_›)), hB11⟩)))))
   ·refine W.skip (Wr (Q (mI rfl) <| Q (r_add rfl rfl (by omega)) <| Q (aI rfl) <| Qn (⟨k + 1, _, rfl, (At.r rfl), ⟨hB11, hm13, hm14, hm15, ?_⟩, ?_⟩)))
    ·exact (by exact ⟨by omega, NoneTo.next (And.right ‹_ ∧ NoneTo _ _ _›) ‹x.Maps[k]? = some _› (by simpa [hasId] using ‹_›)⟩)
    ·exact (by omega)
  ·refine W.exit (xin_here (Ws (Wr (Q (r_as (v := .int .i64 (-1)) rfl) <| Qn (W.ret (ret1 rfl (v := .int .i64 _) rfl (⟨eR (eI (by first | exact idx_at (And.right ‹_ ∧ NoneTo _ _ _›) ‹x.Maps[k]? = some _› (by simpa [hasId] using ‹_›) | exact idx_no (And.right ‹_ ∧ NoneTo _ _ _›) hlex1 ‹_›)), hB11⟩)))))))
theorem c_spec_l32Maps (w : World) (x : Library) {Ax1 : Option Addr} {nx1 cx1 Bx1 : Nat} (hx1 : SlR w Bx1 encLMap 3 Ax1 nx1 cx1 x.Maps) {Ax2 : Option Addr} {nx2 cx2 Bx2 : Nat} (hx2 : SlR w Bx2 encAway 2 Ax2 nx2 cx2 x.Away) : Calls Tryz.prog 129 #[.agg (List.toArray (cLb Ax1 nx1 cx1 Ax2 nx2 cx2 x))] w fun e w' => e = .returned (.bool (decide (MapsOK x.Maps ∧ x.Maps.length ≤ 8))) ∧ Lo w w' := by
 refine calls_W 55 Tryz.func129 rfl rfl rfl ?_
 have hbdx1 := hx1.bound
 have hlex1 := hx1.len
 have hBbx1 := hx1.bd
 have hbdx2 := hx2.bound
 have hlex2 := hx2.len
 have hBbx2 := hx2.bd
 refine Ws (Wr (SR.box (v := .agg (List.toArray _)) (l := (cLb Ax1 nx1 cx1 Ax2 nx2 cx2 x)) rfl rfl ?_))
 intro g1 w2 hg3 hk4 hs5 hb6
 refine Q (aB rfl) <| Qn (Ws (Ws (Wr (Q (aI rfl) <| Qn (W.block (W.loop (σ := Nat) (fun g => [(1, .pointer (pA g1)), (3, .int .i64 (g : Int))]) (fun g w' => (Lo w w') ∧ (Blk w' g1 34 (cLb Ax1 nx1 cx1 Ax2 nx2 cx2 x)) ∧ (SlR w' Bx1 encLMap 3 Ax1 nx1 cx1 x.Maps) ∧ (SlR w' Bx2 encAway 2 Ax2 nx2 cx2 x.Away) ∧ (g ≤ nx1 ∧ MTo x.Maps g)) (fun g => nx1 - g) 0 ?_ ?_ ?_))))))
 ·exact ⟨rfl, rfl, trivial⟩
 ·exact ⟨((Lo.refl w).lo hk4), hb6, hx1.lo hk4, hx2.lo hk4, (by exact ⟨Nat.zero_le _, MTo.zero⟩)⟩
 ·rintro k f9 w10 hP12
  obtain ⟨hB11, hm13, hm14, hm15, hi16⟩ : (Lo w w10) ∧ (Blk w10 g1 34 (cLb Ax1 nx1 cx1 Ax2 nx2 cx2 x)) ∧ (SlR w10 Bx1 encLMap 3 Ax1 nx1 cx1 x.Maps) ∧ (SlR w10 Bx2 encAway 2 Ax2 nx2 cx2 x.Away) ∧ (k ≤ nx1 ∧ MTo x.Maps k) := hP12
  refine (?_ : W _ _ _ _ _ (act _ (sets f9 [(1, .pointer (pA g1)), (3, .int .i64 (k : Int))])) _)
  have hzw10 := hB11.size
  have hl17 := hm13.lt
  refine Ws (Ws (Wr (Q (mI rfl) <| Q (fA fa34_0 rfl) <| Q (lB sca31 rfl hm13 rfl) <| Q (r_len und31 rfl) <| Q (r_lt rfl rfl) <| Qn (W.cond_d rfl (fun h18 => ?_) (fun h18 => ?_)))))
  ·refine W.skip (Ws (W.block (Ws (Wr (Q (fA fa34_0 rfl) <| Q (lB sca31 rfl hm13 rfl) <| Q (mI rfl) <| ?_)))))
   have hx20 := hm14.elem (i := k) (by omega)
   refine Q (r_ixR tsl31 hm14 rfl rfl (by omega)) <| Q (r_lda (l := encLMap (gt x.Maps k)) agg102 rfl (fun _ _ hu => hm14.cell hx20 hu) (hm14.esz _)) <| SR.alloc (l := [.int .i64 0, .int .i64 0, .int .i64 0]) tz102 rfl ?_
   intro g21 w22 hg23 hk24 hs25 hb26
   refine Qw (o := 0) (vs := [.int .i64 ((gt x.Maps k).Id), .int .i64 ((gt x.Maps k).Copies), .int .i64 ((gt x.Maps k).Torn)]) agg102.2 rfl rfl rfl rfl hb26 ler rfl ?_
   intro w29 hk30 hs31 hb32
   refine Qn (Ws ?_)
   have hm35 := (hm13.lo hk24).kn hk30
   have hm36 := (hm14.lo hk24).kn hk30
   refine W.regJD mo (by kernel_rfl) (fun f' w' => At f' [(1, .pointer (pA g1)), (3, .int .i64 (k : Int)), (50, .bool (decide ((¬ (1 ≤ ((gt x.Maps k).Id) ∧ ((gt x.Maps k).Id) ≤ 99)) ∨ ((¬ (0 ≤ ((gt x.Maps k).Copies) ∧ ((gt x.Maps k).Copies) ≤ 99)) ∨ ((¬ (0 ≤ ((gt x.Maps k).Torn) ∧ ((gt x.Maps k).Torn) ≤ ((gt x.Maps k).Copies))) ∨ ((0 < (k : Int)) ∧ (((gt x.Maps k).Id) ≤ ((gt x.Maps (k - 1)).Id))))))))] ∧ Lo w29 w') ?_ ?_
   ·refine QR.q' (fun w' hw' => fA fa102_0 rfl) <| QR.q' (fun w' hw' => r_ld (v := .int .i64 ((gt x.Maps k).Id)) sca3 rfl ((hb32.lo hw').cell rfl)) <| QR.call ent133 (fun w' hw' => (c_spec_l1In w' ((gt x.Maps k).Id) 1 99).mono fun _ _ h => ⟨h.1, hw'.trans h.2⟩) rfl <| QR.q' (fun w' hw' => r_not rfl) <| QR.q' (fun w' hw' => r_mv (v := .bool _) rfl) <| QR.splitN (fun h38 => ?_) (fun h38 => ?_)
    ·refine QR.s' rfl <| QR.s' rfl <| QR.s' rfl <| QR.s' rfl <| QR.q' (fun w' hw' => r_pick true rfl (v := .bool true) rfl) <| QR.q' (fun w' hw' => r_mv (v := .bool _) rfl) <| QR.s' rfl <| QR.s' rfl <| QR.s' rfl <| QR.s' rfl <| QR.s' rfl <| QR.s' rfl <| QR.q' (fun w' hw' => r_pick true rfl (v := .bool true) rfl) <| QR.q' (fun w' hw' => r_mv (v := .bool _) rfl) <| QR.s' rfl <| QR.s' rfl <| QR.s' rfl <| QR.u' rfl <| QR.u' rfl <| QR.u' rfl <| QR.u' rfl <| QR.u' rfl <| QR.u' rfl <| QR.u' rfl <| QR.u' rfl <| QR.u' rfl <| QR.u' rfl <| QR.s' rfl <| QR.q' (fun w' hw' => r_pick true rfl (v := .bool true) rfl) <| QR.nil ?_
     intro w39 hk40
     exact ⟨⟨rfl, rfl, (eDT ((jmf h38).1 trivial)), trivial⟩, hk40⟩
    ·refine QR.g' rfl (fun w' hw' => fA fa102_1 rfl) <| QR.g' rfl (fun w' hw' => r_ld (v := .int .i64 ((gt x.Maps k).Copies)) sca3 rfl ((hb32.lo hw').cell rfl)) <| QR.gcall rfl ent133 (fun w' hw' => (c_spec_l1In w' ((gt x.Maps k).Copies) 0 99).mono fun _ _ h => ⟨h.1, hw'.trans h.2⟩) rfl <| QR.g' rfl (fun w' hw' => r_not rfl) <| QR.q' (fun w' hw' => r_pick false rfl (v := .bool _) rfl) <| QR.q' (fun w' hw' => r_mv (v := .bool _) rfl) <| QR.splitN (fun h41 => ?_) (fun h41 => ?_)
     ·refine QR.s' rfl <| QR.s' rfl <| QR.s' rfl <| QR.s' rfl <| QR.s' rfl <| QR.s' rfl <| QR.q' (fun w' hw' => r_pick true rfl (v := .bool true) rfl) <| QR.q' (fun w' hw' => r_mv (v := .bool _) rfl) <| QR.s' rfl <| QR.s' rfl <| QR.s' rfl <| QR.u' rfl <| QR.u' rfl <| QR.u' rfl <| QR.u' rfl <| QR.u' rfl <| QR.u' rfl <| QR.u' rfl <| QR.u' rfl <| QR.u' rfl <| QR.u' rfl <| QR.s' rfl <| QR.q' (fun w' hw' => r_pick true rfl (v := .bool true) rfl) <| QR.nil ?_
      intro w42 hk43
      exact ⟨⟨rfl, rfl, (eDT (((jmf h41).trans (jmt h38)).1 trivial)), trivial⟩, hk43⟩
     ·refine QR.g' rfl (fun w' hw' => fA fa102_2 rfl) <| QR.g' rfl (fun w' hw' => r_ld (v := .int .i64 ((gt x.Maps k).Torn)) sca3 rfl ((hb32.lo hw').cell rfl)) <| QR.g' rfl (fun w' hw' => fA fa102_1 rfl) <| QR.g' rfl (fun w' hw' => r_ld (v := .int .i64 ((gt x.Maps k).Copies)) sca3 rfl ((hb32.lo hw').cell rfl)) <| QR.gcall rfl ent133 (fun w' hw' => (c_spec_l1In w' ((gt x.Maps k).Torn) 0 ((gt x.Maps k).Copies)).mono fun _ _ h => ⟨h.1, hw'.trans h.2⟩) rfl <| QR.g' rfl (fun w' hw' => r_not rfl) <| QR.q' (fun w' hw' => r_pick false rfl (v := .bool _) rfl) <| QR.q' (fun w' hw' => r_mv (v := .bool _) rfl) <| QR.splitN (fun h44 => ?_) (fun h44 => ?_)
      ·refine QR.s' rfl <| QR.s' rfl <| QR.s' rfl <| QR.u' rfl <| QR.u' rfl <| QR.u' rfl <| QR.u' rfl <| QR.u' rfl <| QR.u' rfl <| QR.u' rfl <| QR.u' rfl <| QR.u' rfl <| QR.u' rfl <| QR.s' rfl <| QR.q' (fun w' hw' => r_pick true rfl (v := .bool true) rfl) <| QR.nil ?_
       intro w45 hk46
       exact ⟨⟨rfl, rfl, (eDT ((((jmf h44).trans (jmt h41)).trans (jmt h38)).1 trivial)), trivial⟩, hk46⟩
      ·refine QR.g' rfl (fun w' hw' => r_mv (v := .int .i64 _) rfl) <| QR.g' rfl (fun w' hw' => r_gt rfl rfl) <| QR.g' rfl (fun w' hw' => r_mv (v := .bool _) rfl) <| QR.splitD (fun h47 => ?_) (fun h47 => ?_)
       ·refine QR.g' rfl (fun w' hw' => fA fa34_0 rfl) <| QR.g' rfl (fun w' hw' => r_ld (v := .slice Ax1 nx1 cx1) sca31 rfl ((hm35.lo hw').cell rfl)) <| QR.g' rfl (fun w' hw' => r_mv (v := .int .i64 _) rfl) <| QR.g' rfl (fun w' hw' => r_sub rfl rfl (by omega)) <| ?_
        have hx49 := hm36.elem (i := ((k : Int) - 1).toNat) (by omega)
        rw [show ((k : Int) - 1).toNat = k - 1 from by omega] at hx49
        have hx50 : x.Maps[((k : Int) - 1).toNat]? = some (gt x.Maps (k - 1)) := (show ((k : Int) - 1).toNat = k - 1 from by omega) ▸ hx49
        refine QR.g' rfl (fun w' hw' => r_ixR tsl31 (hm36.lo hw') rfl rfl (by omega)) <| QR.g' rfl (fun w' hw' => fA fa102_0 rfl) <| QR.g' rfl (fun w' hw' => r_ld (v := .int .i64 ((gt x.Maps (k - 1)).Id)) sca3 rfl ((hm36.lo hw').cell hx50 rfl)) <| QR.g' rfl (fun w' hw' => fA fa102_0 rfl) <| QR.g' rfl (fun w' hw' => r_ld (v := .int .i64 ((gt x.Maps k).Id)) sca3 rfl ((hb32.lo hw').cell rfl)) <| QR.g' rfl (fun w' hw' => r_ge rfl rfl) <| QR.g' rfl (fun w' hw' => r_pick true rfl (v := .bool _) rfl) <| QR.q' (fun w' hw' => r_pick false rfl (v := .bool _) rfl) <| QR.nil ?_
        intro w51 hk52
        exact ⟨⟨rfl, rfl, (eDD ((((jat h47).trans (jmt h44)).trans (jmt h41)).trans (jmt h38))), trivial⟩, hk52⟩
       ·refine QR.s' rfl <| QR.s' rfl <| QR.s' rfl <| QR.s' rfl <| QR.s' rfl <| QR.s' rfl <| QR.s' rfl <| QR.s' rfl <| QR.s' rfl <| QR.s' rfl <| QR.g' rfl (fun w' hw' => r_pick false rfl (v := .bool false) rfl) <| QR.q' (fun w' hw' => r_pick false rfl (v := .bool _) rfl) <| QR.nil ?_
        intro w53 hk54
        exact ⟨⟨rfl, rfl, (eDF ((((jaf h47).trans (jmt h44)).trans (jmt h41)).trans (jmt h38)).2), trivial⟩, hk54⟩
   rintro f55 w56 ⟨hat57, hk58⟩
   rw [← sets_of_at hat57]
   have hz59 := hk58.size
   have hB60 := ((hB11.lo hk24).new hk30).lo hk58
   refine W.cond_d rfl (fun h61 => ?_) (fun h61 => ?_)
   ·refine Ws (Wr (Q (aB rfl) <| Qn (W.ret (ret1 rfl (v := .bool _) rfl (⟨eR (eDF (by subst hlex1; first | exact (fun hh => hh.1 k (by omega) ‹_›) | (have h1 := MTo.end_ (And.right ‹_ ∧ MTo _ _›) (by omega); exact ⟨fun h => ⟨h1, by omega⟩, fun h => by omega⟩))), hB60⟩)))))
   ·have hq62 : 1 ≤ ((gt x.Maps k).Id) ∧ ((gt x.Maps k).Id) ≤ 99 := (Classical.not_not.1 (not_or.1 h61).1)
    have hq63 : 0 ≤ ((gt x.Maps k).Copies) ∧ ((gt x.Maps k).Copies) ≤ 99 := (Classical.not_not.1 (not_or.1 (not_or.1 h61).2).1)
    have hq64 : 0 ≤ ((gt x.Maps k).Torn) ∧ ((gt x.Maps k).Torn) ≤ ((gt x.Maps k).Copies) := (Classical.not_not.1 (not_or.1 (not_or.1 (not_or.1 h61).2).2).1)
    have hq65 : ¬ ((0 < (k : Int)) ∧ (((gt x.Maps k).Id) ≤ ((gt x.Maps (k - 1)).Id))) := (not_or.1 (not_or.1 (not_or.1 h61).2).2).2
    refine W.skip (Wr (Q (mI rfl) <| Q (r_add rfl rfl (by omega)) <| Q (aI rfl) <| Qn (⟨k + 1, _, rfl, ⟨rfl, rfl, trivial⟩, ⟨hB60, hm35.lo hk58, hm36.lo hk58, ((hm15.lo hk24).kn hk30).lo hk58, ?_⟩, ?_⟩)))
    ·exact (by exact ⟨by omega, MTo.next (And.right ‹_ ∧ MTo _ _›) ‹_›⟩)
    ·exact (by omega)
  ·refine W.exit (xin_here (Ws (Wr (Q (fA fa34_0 rfl) <| Q (lB sca31 rfl hm13 rfl) <| Q (r_len und31 rfl) <| Q (r_le rfl rfl) <| Q (aB rfl) <| Qn (W.ret (ret1 rfl (v := .bool _) rfl (⟨eR (eDD (by subst hlex1; first | exact (fun hh => hh.1 k (by omega) ‹_›) | (have h1 := MTo.end_ (And.right ‹_ ∧ MTo _ _›) (by omega); exact ⟨fun h => ⟨h1, by omega⟩, fun h => by omega⟩))), hB11⟩)))))))
theorem c_spec_l32Lent (w : World) (x : Library) {Ax1 : Option Addr} {nx1 cx1 Bx1 : Nat} (hx1 : SlR w Bx1 encLMap 3 Ax1 nx1 cx1 x.Maps) {Ax2 : Option Addr} {nx2 cx2 Bx2 : Nat} (hx2 : SlR w Bx2 encAway 2 Ax2 nx2 cx2 x.Away) : Calls Tryz.prog 130 #[.agg (List.toArray (cLb Ax1 nx1 cx1 Ax2 nx2 cx2 x))] w fun e w' => e = .returned (.bool (decide (AwayOK x.Maps x.Away ∧ x.Away.length ≤ 8))) ∧ Lo w w' := by
 refine calls_W 70 Tryz.func130 rfl rfl rfl ?_
 have hbdx1 := hx1.bound
 have hlex1 := hx1.len
 have hBbx1 := hx1.bd
 have hbdx2 := hx2.bound
 have hlex2 := hx2.len
 have hBbx2 := hx2.bd
 refine Ws (Wr (SR.box (v := .agg (List.toArray _)) (l := (cLb Ax1 nx1 cx1 Ax2 nx2 cx2 x)) rfl rfl ?_))
 intro g1 w2 hg3 hk4 hs5 hb6
 refine Q (aB rfl) <| Qn (Ws (Ws (Wr (Q (aI rfl) <| Qn (W.block (W.loop (σ := Nat) (fun g => [(1, .pointer (pA g1)), (3, .int .i64 (g : Int))]) (fun g w' => (Lo w w') ∧ (Blk w' g1 34 (cLb Ax1 nx1 cx1 Ax2 nx2 cx2 x)) ∧ (SlR w' Bx1 encLMap 3 Ax1 nx1 cx1 x.Maps) ∧ (SlR w' Bx2 encAway 2 Ax2 nx2 cx2 x.Away) ∧ (g ≤ nx2 ∧ ATo x.Maps x.Away g)) (fun g => nx2 - g) 0 ?_ ?_ ?_))))))
 ·exact ⟨rfl, rfl, trivial⟩
 ·exact ⟨((Lo.refl w).lo hk4), hb6, hx1.lo hk4, hx2.lo hk4, (by exact ⟨Nat.zero_le _, ATo.zero⟩)⟩
 ·rintro k f9 w10 hP12
  obtain ⟨hB11, hm13, hm14, hm15, hi16⟩ : (Lo w w10) ∧ (Blk w10 g1 34 (cLb Ax1 nx1 cx1 Ax2 nx2 cx2 x)) ∧ (SlR w10 Bx1 encLMap 3 Ax1 nx1 cx1 x.Maps) ∧ (SlR w10 Bx2 encAway 2 Ax2 nx2 cx2 x.Away) ∧ (k ≤ nx2 ∧ ATo x.Maps x.Away k) := hP12
  refine (?_ : W _ _ _ _ _ (act _ (sets f9 [(1, .pointer (pA g1)), (3, .int .i64 (k : Int))])) _)
  have hzw10 := hB11.size
  have hl17 := hm13.lt
  refine Ws (Ws (Wr (Q (mI rfl) <| Q (fA fa34_1 rfl) <| Q (lB sca32 rfl hm13 rfl) <| Q (r_len und32 rfl) <| Q (r_lt rfl rfl) <| Qn (W.cond_d rfl (fun h18 => ?_) (fun h18 => ?_)))))
  ·refine W.skip (Ws (W.block (Ws (Wr (Q (fA fa34_1 rfl) <| Q (lB sca32 rfl hm13 rfl) <| Q (mI rfl) <| ?_)))))
   have hx20 := hm15.elem (i := k) (by omega)
   refine Q (r_ixR tsl32 hm15 rfl rfl (by omega)) <| Q (r_lda (l := encAway (gt x.Away k)) agg129 rfl (fun _ _ hu => hm15.cell hx20 hu) (hm15.esz _)) <| SR.alloc (l := [.int .i64 0, .int .i64 0]) tz129 rfl ?_
   intro g21 w22 hg23 hk24 hs25 hb26
   refine Qw (o := 0) (vs := [.int .i64 ((gt x.Away k).Map), .int .i64 ((gt x.Away k).Reader)]) agg129.2 rfl rfl rfl rfl hb26 ler rfl ?_
   intro w29 hk30 hs31 hb32
   refine Qn (Ws (Ws ?_))
   have hm35 := (hm13.lo hk24).kn hk30
   have hm36 := (hm14.lo hk24).kn hk30
   have hm37 := (hm15.lo hk24).kn hk30
   refine W.regJS (fun f' w' => At f' [(1, .pointer (pA g1)), (3, .int .i64 (k : Int)), (4, .pointer (pA g21)), (27, .bool (decide (((idxF (hasId ((gt x.Away k).Map)) x.Maps) < 0) ∨ (¬ (1 ≤ ((gt x.Away k).Reader) ∧ ((gt x.Away k).Reader) ≤ 999)))))] ∧ Lo w29 w' ∧ (idxF (hasId ((gt x.Away k).Map)) x.Maps < (x.Maps.length : Int) ∧ -1 ≤ idxF (hasId ((gt x.Away k).Map)) x.Maps)) ?_ ?_
   ·refine Q (lG agg34 rfl hm35 rfl) <| Q (fA fa129_0 rfl) <| Q (lB sca3 rfl hb32 rfl) <| Qv ent165 (c_spec_l32Map w29 x hm36 hm37 ((gt x.Away k).Map)) rfl fun w38 hk39 hz40 => ?_
    have hq42 : idxF (hasId ((gt x.Away k).Map)) x.Maps < (x.Maps.length : Int) ∧ -1 ≤ idxF (hasId ((gt x.Away k).Map)) x.Maps := idx_lt
    refine Q (r_lt rfl rfl) <| Q (mB rfl) <| SR.splitD (fun h43 => ?_) (fun h43 => ?_)
    ·refine Qs rfl <| Qs rfl <| Qs rfl <| Qs rfl <| Q (r_pick true rfl (v := .bool true) rfl) <| Qn (⟨_, rfl, ⟨⟨rfl, rfl, rfl, (eDT ((jot h43).1 trivial)), trivial⟩, hk39, hq42⟩⟩)
    ·have hq44 := Int.not_lt.1 h43
     refine Qg rfl (fA fa129_1 rfl) <| Qg rfl (lB sca3 rfl (hb32.lo hk39) rfl) <| SR.gcall rfl ent133 (c_spec_l1In w38 ((gt x.Away k).Reader) 1 999) rfl ?_
     rintro e w45 ⟨rfl, hk46⟩
     refine ⟨_, rfl, ?_⟩
     have hz47 := hk46.size
     refine Qg rfl (r_not rfl) <| Q (r_pick false rfl (v := .bool _) rfl) <| Qn (⟨_, rfl, ⟨⟨rfl, rfl, rfl, (eND (jof h43)), trivial⟩, (hk39.trans hk46), hq42⟩⟩)
   rintro f49 w50 ⟨hat51, hk52, hq53⟩
   rw [← sets_of_at hat51]
   have hz54 := hk52.size
   have hB55 := ((hB11.lo hk24).new hk30).lo hk52
   refine W.cond_d rfl (fun h56 => ?_) (fun h56 => ?_)
   ·refine Ws (Wr (Q (aB rfl) <| Qn (W.ret (ret1 rfl (v := .bool _) rfl (⟨eR (eDF (by subst hlex2; first | exact (fun hh => hh.1 k (by omega) (a_bad1 ‹_›)) | exact (fun hh => hh.1 k (by omega) (a_bad2 ‹_›)) | (have h1 := ATo.end_ (And.right ‹_ ∧ ATo _ _ _›) (by omega); exact ⟨fun h => ⟨h1, by omega⟩, fun h => by omega⟩))), hB55⟩)))))
   ·have hq57 : ¬ ((idxF (hasId ((gt x.Away k).Map)) x.Maps) < 0) := (not_or.1 h56).1
    have hq58 : 1 ≤ ((gt x.Away k).Reader) ∧ ((gt x.Away k).Reader) ≤ 999 := (Classical.not_not.1 (not_or.1 h56).2)
    have hq59 := Int.not_lt.1 hq57
    refine W.skip (Ws (W.regJD mo (by kernel_rfl) (fun f' w' => At f' [(1, .pointer (pA g1)), (3, .int .i64 (k : Int)), (65, .bool (decide ((0 < (k : Int)) ∧ ((((gt x.Away k).Map) < ((gt x.Away (k - 1)).Map)) ∨ ((((gt x.Away (k - 1)).Map) = ((gt x.Away k).Map)) ∧ (((gt x.Away k).Reader) ≤ ((gt x.Away (k - 1)).Reader)))))))] ∧ Lo w50 w') ?_ ?_))
    ·refine QR.q' (fun w' hw' => r_mv (v := .int .i64 _) rfl) <| QR.q' (fun w' hw' => r_gt rfl rfl) <| QR.q' (fun w' hw' => r_mv (v := .bool _) rfl) <| QR.splitD (fun h60 => ?_) (fun h60 => ?_)
     ·refine QR.g' rfl (fun w' hw' => fA fa34_1 rfl) <| QR.g' rfl (fun w' hw' => r_ld (v := .slice Ax2 nx2 cx2) sca32 rfl (((hm35.lo hk52).lo hw').cell rfl)) <| QR.g' rfl (fun w' hw' => r_mv (v := .int .i64 _) rfl) <| QR.g' rfl (fun w' hw' => r_sub rfl rfl (by omega)) <| ?_
      have hx62 := (hm37.lo hk52).elem (i := ((k : Int) - 1).toNat) (by omega)
      rw [show ((k : Int) - 1).toNat = k - 1 from by omega] at hx62
      have hx63 : x.Away[((k : Int) - 1).toNat]? = some (gt x.Away (k - 1)) := (show ((k : Int) - 1).toNat = k - 1 from by omega) ▸ hx62
      refine QR.g' rfl (fun w' hw' => r_ixR tsl32 ((hm37.lo hk52).lo hw') rfl rfl (by omega)) <| QR.g' rfl (fun w' hw' => fA fa129_0 rfl) <| QR.g' rfl (fun w' hw' => r_ld (v := .int .i64 ((gt x.Away (k - 1)).Map)) sca3 rfl (((hm37.lo hk52).lo hw').cell hx63 rfl)) <| QR.g' rfl (fun w' hw' => fA fa129_0 rfl) <| QR.g' rfl (fun w' hw' => r_ld (v := .int .i64 ((gt x.Away k).Map)) sca3 rfl (((hb32.lo hk52).lo hw').cell rfl)) <| QR.g' rfl (fun w' hw' => r_gt rfl rfl) <| QR.g' rfl (fun w' hw' => r_mv (v := .bool _) rfl) <| QR.splitD (fun h64 => ?_) (fun h64 => ?_)
      ·refine QR.s' rfl <| QR.s' rfl <| QR.s' rfl <| QR.s' rfl <| QR.s' rfl <| QR.s' rfl <| QR.s' rfl <| QR.s' rfl <| QR.s' rfl <| QR.s' rfl <| QR.s' rfl <| QR.u' rfl <| QR.u' rfl <| QR.u' rfl <| QR.u' rfl <| QR.u' rfl <| QR.u' rfl <| QR.u' rfl <| QR.u' rfl <| QR.u' rfl <| QR.u' rfl <| QR.s' rfl <| QR.g' rfl (fun w' hw' => r_pick true rfl (v := .bool true) rfl) <| QR.q' (fun w' hw' => r_pick true rfl (v := .bool _) rfl) <| QR.nil ?_
       intro w65 hk66
       exact ⟨⟨rfl, rfl, (eDT (((jot h64).trans (jat h60)).1 trivial)), trivial⟩, hk66⟩
      ·refine QR.g' rfl (fun w' hw' => fA fa34_1 rfl) <| QR.g' rfl (fun w' hw' => r_ld (v := .slice Ax2 nx2 cx2) sca32 rfl (((hm35.lo hk52).lo hw').cell rfl)) <| QR.g' rfl (fun w' hw' => r_mv (v := .int .i64 _) rfl) <| QR.g' rfl (fun w' hw' => r_sub rfl rfl (by omega)) <| QR.g' rfl (fun w' hw' => r_ixR tsl32 ((hm37.lo hk52).lo hw') rfl rfl (by omega)) <| QR.g' rfl (fun w' hw' => fA fa129_0 rfl) <| QR.g' rfl (fun w' hw' => r_ld (v := .int .i64 ((gt x.Away (k - 1)).Map)) sca3 rfl (((hm37.lo hk52).lo hw').cell hx63 rfl)) <| QR.g' rfl (fun w' hw' => fA fa129_0 rfl) <| QR.g' rfl (fun w' hw' => r_ld (v := .int .i64 ((gt x.Away k).Map)) sca3 rfl (((hb32.lo hk52).lo hw').cell rfl)) <| QR.g' rfl (fun w' hw' => r_eq rfl rfl) <| QR.g' rfl (fun w' hw' => r_mv (v := .bool _) rfl) <| QR.splitD (fun h67 => ?_) (fun h67 => ?_)
       ·refine QR.g' rfl (fun w' hw' => fA fa34_1 rfl) <| QR.g' rfl (fun w' hw' => r_ld (v := .slice Ax2 nx2 cx2) sca32 rfl (((hm35.lo hk52).lo hw').cell rfl)) <| QR.g' rfl (fun w' hw' => r_mv (v := .int .i64 _) rfl) <| QR.g' rfl (fun w' hw' => r_sub rfl rfl (by omega)) <| QR.g' rfl (fun w' hw' => r_ixR tsl32 ((hm37.lo hk52).lo hw') rfl rfl (by omega)) <| QR.g' rfl (fun w' hw' => fA fa129_1 rfl) <| QR.g' rfl (fun w' hw' => r_ld (v := .int .i64 ((gt x.Away (k - 1)).Reader)) sca3 rfl (((hm37.lo hk52).lo hw').cell hx63 rfl)) <| QR.g' rfl (fun w' hw' => fA fa129_1 rfl) <| QR.g' rfl (fun w' hw' => r_ld (v := .int .i64 ((gt x.Away k).Reader)) sca3 rfl (((hb32.lo hk52).lo hw').cell rfl)) <| QR.g' rfl (fun w' hw' => r_ge rfl rfl) <| QR.g' rfl (fun w' hw' => r_pick true rfl (v := .bool _) rfl) <| QR.g' rfl (fun w' hw' => r_pick false rfl (v := .bool _) rfl) <| QR.q' (fun w' hw' => r_pick true rfl (v := .bool _) rfl) <| QR.nil ?_
        intro w68 hk69
        exact ⟨⟨rfl, rfl, (eDD (((jat h67).trans (jof h64)).trans (jat h60))), trivial⟩, hk69⟩
       ·refine QR.s' rfl <| QR.s' rfl <| QR.s' rfl <| QR.s' rfl <| QR.s' rfl <| QR.s' rfl <| QR.s' rfl <| QR.s' rfl <| QR.s' rfl <| QR.s' rfl <| QR.g' rfl (fun w' hw' => r_pick false rfl (v := .bool false) rfl) <| QR.g' rfl (fun w' hw' => r_pick false rfl (v := .bool _) rfl) <| QR.q' (fun w' hw' => r_pick true rfl (v := .bool _) rfl) <| QR.nil ?_
        intro w70 hk71
        exact ⟨⟨rfl, rfl, (eDF (((jaf h67).trans (jof h64)).trans (jat h60)).2), trivial⟩, hk71⟩
     ·refine QR.s' rfl <| QR.s' rfl <| QR.s' rfl <| QR.s' rfl <| QR.s' rfl <| QR.s' rfl <| QR.s' rfl <| QR.s' rfl <| QR.s' rfl <| QR.s' rfl <| QR.s' rfl <| QR.u' rfl <| QR.u' rfl <| QR.u' rfl <| QR.u' rfl <| QR.u' rfl <| QR.u' rfl <| QR.u' rfl <| QR.u' rfl <| QR.u' rfl <| QR.u' rfl <| QR.u' rfl <| QR.u' rfl <| QR.u' rfl <| QR.u' rfl <| QR.u' rfl <| QR.u' rfl <| QR.u' rfl <| QR.u' rfl <| QR.u' rfl <| QR.u' rfl <| QR.u' rfl <| QR.u' rfl <| QR.s' rfl <| QR.q' (fun w' hw' => r_pick false rfl (v := .bool false) rfl) <| QR.nil ?_
      intro w72 hk73
      exact ⟨⟨rfl, rfl, (eDF (jaf h60).2), trivial⟩, hk73⟩
    rintro f74 w75 ⟨hat76, hk77⟩
    rw [← sets_of_at hat76]
    have hz78 := hk77.size
    have hB79 := hB55.lo hk77
    refine W.cond_d rfl (fun h80 => ?_) (fun h80 => ?_)
    ·have hq81 : 0 < (k : Int) := h80.1
     have hq82 : (((gt x.Away k).Map) < ((gt x.Away (k - 1)).Map)) ∨ ((((gt x.Away (k - 1)).Map) = ((gt x.Away k).Map)) ∧ (((gt x.Away k).Reader) ≤ ((gt x.Away (k - 1)).Reader))) := h80.2
     refine Ws (Wr (Q (aB rfl) <| Qn (W.ret (ret1 rfl (v := .bool _) rfl (⟨eR (eDF (by subst hlex2; first | exact (fun hh => hh.1 k (by omega) (a_bad1 ‹_›)) | exact (fun hh => hh.1 k (by omega) (a_bad2 ‹_›)) | (have h1 := ATo.end_ (And.right ‹_ ∧ ATo _ _ _›) (by omega); exact ⟨fun h => ⟨h1, by omega⟩, fun h => by omega⟩))), hB79⟩)))))
    ·refine W.skip (Wr (Q (mI rfl) <| Q (r_add rfl rfl (by omega)) <| Q (aI rfl) <| Qn (⟨k + 1, _, rfl, ⟨rfl, rfl, trivial⟩, ⟨hB79, ((hm35.lo hk52).lo hk77), ((hm36.lo hk52).lo hk77), ((hm37.lo hk52).lo hk77), ?_⟩, ?_⟩)))
     ·exact (by exact ⟨by omega, ATo.next (And.right ‹_ ∧ ATo _ _ _›) (a_good ‹_› ‹_›)⟩)
     ·exact (by omega)
  ·refine W.exit (xin_here (Ws (Wr (Q (fA fa34_1 rfl) <| Q (lB sca32 rfl hm13 rfl) <| Q (r_len und32 rfl) <| Q (r_le rfl rfl) <| Q (aB rfl) <| Qn (W.ret (ret1 rfl (v := .bool _) rfl (⟨eR (eDD (by subst hlex2; first | exact (fun hh => hh.1 k (by omega) (a_bad1 ‹_›)) | exact (fun hh => hh.1 k (by omega) (a_bad2 ‹_›)) | (have h1 := ATo.end_ (And.right ‹_ ∧ ATo _ _ _›) (by omega); exact ⟨fun h => ⟨h1, by omega⟩, fun h => by omega⟩))), hB11⟩)))))))
theorem z_c_spec_l32Good_36 (x : Library) (nx1 : Nat) (hbdx1 : (nx1 : Int) ≤ 9223372036854775807) (hlex1 : nx1 = x.Maps.length) (nx2 : Nat) (hbdx2 : (nx2 : Int) ≤ 9223372036854775807) (hlex2 : nx2 = x.Away.length) : ((MapsOK x.Maps ∧ x.Maps.length ≤ 8) ∧ ((AwayOK x.Maps x.Away ∧ x.Away.length ≤ 8) ∧ ((0 ≤ x.Bought ∧ x.Bought ≤ 9999) ∧ ((0 ≤ x.Dropped ∧ x.Dropped ≤ 9999) ∧ ((0 ≤ x.Mended ∧ x.Mended ≤ 9999) ∧ (x.Bought = (((if false = true then sumT x.Maps else sumC x.Maps) + (nx2 : Int)) + x.Dropped))))))) ↔ (LibOK x) := by
 subst hlex1 hlex2
 unfold LibOK
 constructor <;> (intro h; obtain ⟨h1, h2, h⟩ := h; refine ⟨h1, h2, ?_⟩; simpa using h)
theorem c_spec_l32Good (w : World) (x : Library) {Ax1 : Option Addr} {nx1 cx1 Bx1 : Nat} (hx1 : SlR w Bx1 encLMap 3 Ax1 nx1 cx1 x.Maps) {Ax2 : Option Addr} {nx2 cx2 Bx2 : Nat} (hx2 : SlR w Bx2 encAway 2 Ax2 nx2 cx2 x.Away) : Calls Tryz.prog 80 #[.agg (List.toArray (cLb Ax1 nx1 cx1 Ax2 nx2 cx2 x))] w fun e w' => e = .returned (.bool (decide (LibOK x))) ∧ Lo w w' := by
 refine calls_W 38 Tryz.func80 rfl rfl rfl ?_
 have hbdx1 := hx1.bound
 have hlex1 := hx1.len
 have hBbx1 := hx1.bd
 have hbdx2 := hx2.bound
 have hlex2 := hx2.len
 have hBbx2 := hx2.bd
 refine Ws (Wr (SR.box (v := .agg (List.toArray _)) (l := (cLb Ax1 nx1 cx1 Ax2 nx2 cx2 x)) rfl rfl ?_))
 intro g1 w2 hg3 hk4 hs5 hb6
 refine Q (aB rfl) <| Qn (Ws (W.regJD mo (by kernel_rfl) (fun f' w' => At f' [(2, .bool (decide ((MapsOK x.Maps ∧ x.Maps.length ≤ 8) ∧ ((AwayOK x.Maps x.Away ∧ x.Away.length ≤ 8) ∧ ((0 ≤ x.Bought ∧ x.Bought ≤ 9999) ∧ ((0 ≤ x.Dropped ∧ x.Dropped ≤ 9999) ∧ ((0 ≤ x.Mended ∧ x.Mended ≤ 9999) ∧ (x.Bought = (((if false = true then sumT x.Maps else sumC x.Maps) + (nx2 : Int)) + x.Dropped)))))))))] ∧ Lo w2 w') ?_ ?_))
 ·refine QR.q' (fun w' hw' => r_lda (l := (cLb Ax1 nx1 cx1 Ax2 nx2 cx2 x)) agg34 rfl (fun _ _ hu => (hb6.lo hw').cell hu) rfl) <| QR.call ent129 (fun w' hw' => (c_spec_l32Maps w' x ((hx1.lo hk4).lo hw') ((hx2.lo hk4).lo hw')).mono fun _ _ h => ⟨h.1, hw'.trans h.2⟩) rfl <| QR.q' (fun w' hw' => r_mv (v := .bool _) rfl) <| QR.splitD (fun h9 => ?_) (fun h9 => ?_)
  ·have hq10 := And.left h9
   have hq11 := And.left h9
   have hq12 := And.right h9
   refine QR.g' rfl (fun w' hw' => r_lda (l := (cLb Ax1 nx1 cx1 Ax2 nx2 cx2 x)) agg34 rfl (fun _ _ hu => (hb6.lo hw').cell hu) rfl) <| QR.gcall rfl ent130 (fun w' hw' => (c_spec_l32Lent w' x ((hx1.lo hk4).lo hw') ((hx2.lo hk4).lo hw')).mono fun _ _ h => ⟨h.1, hw'.trans h.2⟩) rfl <| QR.q' (fun w' hw' => r_pick true rfl (v := .bool _) rfl) <| QR.q' (fun w' hw' => r_mv (v := .bool _) rfl) <| QR.splitD (fun h13 => ?_) (fun h13 => ?_)
   ·refine QR.g' rfl (fun w' hw' => fA fa34_2 rfl) <| QR.g' rfl (fun w' hw' => r_ld (v := .int .i64 x.Bought) sca3 rfl ((hb6.lo hw').cell rfl)) <| QR.gcall rfl ent131 (fun w' hw' => (c_spec_l32Count w' x.Bought).mono fun _ _ h => ⟨h.1, hw'.trans h.2⟩) rfl <| QR.q' (fun w' hw' => r_pick true rfl (v := .bool _) rfl) <| QR.q' (fun w' hw' => r_mv (v := .bool _) rfl) <| QR.splitD (fun h14 => ?_) (fun h14 => ?_)
    ·refine QR.g' rfl (fun w' hw' => fA fa34_3 rfl) <| QR.g' rfl (fun w' hw' => r_ld (v := .int .i64 x.Dropped) sca3 rfl ((hb6.lo hw').cell rfl)) <| QR.gcall rfl ent131 (fun w' hw' => (c_spec_l32Count w' x.Dropped).mono fun _ _ h => ⟨h.1, hw'.trans h.2⟩) rfl <| QR.q' (fun w' hw' => r_pick true rfl (v := .bool _) rfl) <| QR.q' (fun w' hw' => r_mv (v := .bool _) rfl) <| QR.splitD (fun h15 => ?_) (fun h15 => ?_)
     ·refine QR.g' rfl (fun w' hw' => fA fa34_4 rfl) <| QR.g' rfl (fun w' hw' => r_ld (v := .int .i64 x.Mended) sca3 rfl ((hb6.lo hw').cell rfl)) <| QR.gcall rfl ent131 (fun w' hw' => (c_spec_l32Count w' x.Mended).mono fun _ _ h => ⟨h.1, hw'.trans h.2⟩) rfl <| QR.q' (fun w' hw' => r_pick true rfl (v := .bool _) rfl) <| QR.q' (fun w' hw' => r_mv (v := .bool _) rfl) <| QR.splitD (fun h16 => ?_) (fun h16 => ?_)
      ·refine QR.g' rfl (fun w' hw' => fA fa34_2 rfl) <| QR.g' rfl (fun w' hw' => r_ld (v := .int .i64 x.Bought) sca3 rfl ((hb6.lo hw').cell rfl)) <| QR.g' rfl (fun w' hw' => r_lda (l := (cLb Ax1 nx1 cx1 Ax2 nx2 cx2 x)) agg34 rfl (fun _ _ hu => (hb6.lo hw').cell hu) rfl) <| QR.gcall rfl ent132 (fun w' hw' => (c_spec_l32There w' x ((hx1.lo hk4).lo hw') ((hx2.lo hk4).lo hw') false (by first | assumption | exact MTo.end_ (And.right ‹_ ∧ MTo _ _›) (by omega)) (by omega)).mono fun _ _ h => ⟨h.1, hw'.trans h.2⟩) rfl <| ?_
       have hq17 : 0 ≤ (if false = true then sumT x.Maps else sumC x.Maps) ∧ (if false = true then sumT x.Maps else sumC x.Maps) ≤ 792 := there_rng false ‹MapsOK _› (by omega)
       refine QR.g' rfl (fun w' hw' => fA fa34_1 rfl) <| QR.g' rfl (fun w' hw' => r_ld (v := .slice Ax2 nx2 cx2) sca32 rfl ((hb6.lo hw').cell rfl)) <| QR.g' rfl (fun w' hw' => r_len und32 rfl) <| QR.g' rfl (fun w' hw' => r_add rfl rfl (by omega)) <| QR.g' rfl (fun w' hw' => fA fa34_3 rfl) <| QR.g' rfl (fun w' hw' => r_ld (v := .int .i64 x.Dropped) sca3 rfl ((hb6.lo hw').cell rfl)) <| QR.g' rfl (fun w' hw' => r_add rfl rfl (by omega)) <| QR.g' rfl (fun w' hw' => r_eq rfl rfl) <| QR.q' (fun w' hw' => r_pick true rfl (v := .bool _) rfl) <| QR.q' (fun w' hw' => r_as (v := .bool _) rfl) <| QR.nil ?_
       intro w18 hk19
       exact ⟨⟨(eDD (((((jat h16).trans (jat h15)).trans (jat h14)).trans (jat h13)).trans (jat h9))), trivial⟩, hk19⟩
      ·refine QR.s' rfl <| QR.s' rfl <| QR.s' rfl <| QR.s' rfl <| QR.s' rfl <| QR.s' rfl <| QR.s' rfl <| QR.s' rfl <| QR.s' rfl <| QR.s' rfl <| QR.s' rfl <| QR.s' rfl <| QR.q' (fun w' hw' => r_pick false rfl (v := .bool false) rfl) <| QR.q' (fun w' hw' => r_as (v := .bool _) rfl) <| QR.nil ?_
       intro w20 hk21
       exact ⟨⟨(eDF (((((jaf h16).trans (jat h15)).trans (jat h14)).trans (jat h13)).trans (jat h9)).2), trivial⟩, hk21⟩
     ·refine QR.s' rfl <| QR.s' rfl <| QR.s' rfl <| QR.q' (fun w' hw' => r_pick false rfl (v := .bool false) rfl) <| QR.q' (fun w' hw' => r_mv (v := .bool _) rfl) <| QR.s' rfl <| QR.s' rfl <| QR.s' rfl <| QR.s' rfl <| QR.s' rfl <| QR.s' rfl <| QR.s' rfl <| QR.s' rfl <| QR.s' rfl <| QR.s' rfl <| QR.s' rfl <| QR.s' rfl <| QR.q' (fun w' hw' => r_pick false rfl (v := .bool false) rfl) <| QR.q' (fun w' hw' => r_as (v := .bool _) rfl) <| QR.nil ?_
      intro w22 hk23
      exact ⟨⟨(eDF ((((jaf h15).trans (jat h14)).trans (jat h13)).trans (jat h9)).2), trivial⟩, hk23⟩
    ·refine QR.s' rfl <| QR.s' rfl <| QR.s' rfl <| QR.q' (fun w' hw' => r_pick false rfl (v := .bool false) rfl) <| QR.q' (fun w' hw' => r_mv (v := .bool _) rfl) <| QR.s' rfl <| QR.s' rfl <| QR.s' rfl <| QR.q' (fun w' hw' => r_pick false rfl (v := .bool false) rfl) <| QR.q' (fun w' hw' => r_mv (v := .bool _) rfl) <| QR.s' rfl <| QR.s' rfl <| QR.s' rfl <| QR.s' rfl <| QR.s' rfl <| QR.s' rfl <| QR.s' rfl <| QR.s' rfl <| QR.s' rfl <| QR.s' rfl <| QR.s' rfl <| QR.s' rfl <| QR.q' (fun w' hw' => r_pick false rfl (v := .bool false) rfl) <| QR.q' (fun w' hw' => r_as (v := .bool _) rfl) <| QR.nil ?_
     intro w24 hk25
     exact ⟨⟨(eDF (((jaf h14).trans (jat h13)).trans (jat h9)).2), trivial⟩, hk25⟩
   ·refine QR.s' rfl <| QR.s' rfl <| QR.s' rfl <| QR.q' (fun w' hw' => r_pick false rfl (v := .bool false) rfl) <| QR.q' (fun w' hw' => r_mv (v := .bool _) rfl) <| QR.s' rfl <| QR.s' rfl <| QR.s' rfl <| QR.q' (fun w' hw' => r_pick false rfl (v := .bool false) rfl) <| QR.q' (fun w' hw' => r_mv (v := .bool _) rfl) <| QR.s' rfl <| QR.s' rfl <| QR.s' rfl <| QR.q' (fun w' hw' => r_pick false rfl (v := .bool false) rfl) <| QR.q' (fun w' hw' => r_mv (v := .bool _) rfl) <| QR.s' rfl <| QR.s' rfl <| QR.s' rfl <| QR.s' rfl <| QR.s' rfl <| QR.s' rfl <| QR.s' rfl <| QR.s' rfl <| QR.s' rfl <| QR.s' rfl <| QR.s' rfl <| QR.s' rfl <| QR.q' (fun w' hw' => r_pick false rfl (v := .bool false) rfl) <| QR.q' (fun w' hw' => r_as (v := .bool _) rfl) <| QR.nil ?_
    intro w26 hk27
    exact ⟨⟨(eDF ((jaf h13).trans (jat h9)).2), trivial⟩, hk27⟩
  ·refine QR.s' rfl <| QR.s' rfl <| QR.q' (fun w' hw' => r_pick false rfl (v := .bool false) rfl) <| QR.q' (fun w' hw' => r_mv (v := .bool _) rfl) <| QR.s' rfl <| QR.s' rfl <| QR.s' rfl <| QR.q' (fun w' hw' => r_pick false rfl (v := .bool false) rfl) <| QR.q' (fun w' hw' => r_mv (v := .bool _) rfl) <| QR.s' rfl <| QR.s' rfl <| QR.s' rfl <| QR.q' (fun w' hw' => r_pick false rfl (v := .bool false) rfl) <| QR.q' (fun w' hw' => r_mv (v := .bool _) rfl) <| QR.s' rfl <| QR.s' rfl <| QR.s' rfl <| QR.q' (fun w' hw' => r_pick false rfl (v := .bool false) rfl) <| QR.q' (fun w' hw' => r_mv (v := .bool _) rfl) <| QR.s' rfl <| QR.s' rfl <| QR.s' rfl <| QR.s' rfl <| QR.s' rfl <| QR.s' rfl <| QR.s' rfl <| QR.s' rfl <| QR.s' rfl <| QR.s' rfl <| QR.s' rfl <| QR.s' rfl <| QR.q' (fun w' hw' => r_pick false rfl (v := .bool false) rfl) <| QR.q' (fun w' hw' => r_as (v := .bool _) rfl) <| QR.nil ?_
   intro w28 hk29
   exact ⟨⟨(eDF (jaf h9).2), trivial⟩, hk29⟩
 rintro f30 w31 ⟨hat32, hk33⟩
 rw [← sets_of_at hat32]
 have hz34 := hk33.size
 refine W.ret (ret1 rfl (v := .bool _) rfl (⟨eR (eDD (z_c_spec_l32Good_36 x nx1 hbdx1 hlex1 nx2 hbdx2 hlex2)), (((Lo.refl w).lo hk4).lo hk33)⟩))
theorem z_c_impl_IsLibrary_62 (x : Library) (nx1 : Nat) (hbdx1 : (nx1 : Int) ≤ 9223372036854775807) (hlex1 : nx1 = x.Maps.length) (nx2 : Nat) (hbdx2 : (nx2 : Int) ≤ 9223372036854775807) (hlex2 : nx2 = x.Away.length) (hp0 : (nx1 : Int) ≤ 1048576) (k : Nat) (hi16 : k ≤ nx1 ∧ MTo x.Maps k) (h18 : (k : Int) < (nx1 : Int)) (hx20 : x.Maps[k]? = some (gt x.Maps k)) (h61 : (¬ (1 ≤ ((gt x.Maps k).Id) ∧ ((gt x.Maps k).Id) ≤ 99)) ∨ ((¬ (0 ≤ ((gt x.Maps k).Copies) ∧ ((gt x.Maps k).Copies) ≤ 99)) ∨ ((¬ (0 ≤ ((gt x.Maps k).Torn) ∧ ((gt x.Maps k).Torn) ≤ ((gt x.Maps k).Copies))) ∨ ((0 < (k : Int)) ∧ (((gt x.Maps k).Id) ≤ ((gt x.Maps (k - 1)).Id)))))) : ¬ (LibOK x) := by
 subst hlex1 hlex2
 first | exact (fun hh => hh.1.1 k (by omega) ‹_›) | exact (fun hh => hh.2.1.1 j (by omega) (a_badI (MTo.end_ (And.right ‹_ ∧ MTo _ _›) (by omega)) ‹_›)) | (have h1 := MTo.end_ (And.right ‹_ ∧ MTo _ _›) (by omega); have h2 := ATo.end_ (And.right ‹_ ∧ ATo _ _ _›) (by omega); unfold LibOK; constructor <;> (intro h; simp only [h1, h2, true_and] at h ⊢; omega))
theorem z_c_impl_IsLibrary_125 (x : Library) (nx1 : Nat) (hbdx1 : (nx1 : Int) ≤ 9223372036854775807) (hlex1 : nx1 = x.Maps.length) (nx2 : Nat) (hbdx2 : (nx2 : Int) ≤ 9223372036854775807) (hlex2 : nx2 = x.Away.length) (hp0 : (nx1 : Int) ≤ 1048576) (k : Nat) (hi16 : k ≤ nx1 ∧ MTo x.Maps k) (h18 : ¬ ((k : Int) < (nx1 : Int))) (j : Nat) (hi74 : j ≤ nx2 ∧ ATo x.Maps x.Away j) (h76 : (j : Int) < (nx2 : Int)) (hx78 : x.Away[j]? = some (gt x.Away j)) (hq100 : bsP cmpM ((gt x.Away j).Map) x.Maps ≤ x.Maps.length) (h121 : (¬ (bsF cmpM ((gt x.Away j).Map) x.Maps)) ∨ ((¬ (1 ≤ ((gt x.Away j).Reader) ∧ ((gt x.Away j).Reader) ≤ 999)) ∨ ((0 < (j : Int)) ∧ (0 ≤ (cmpA (gt x.Away (j - 1)) (gt x.Away j)))))) : ¬ (LibOK x) := by
 subst hlex1 hlex2
 first | exact (fun hh => hh.1.1 k (by omega) ‹_›) | exact (fun hh => hh.2.1.1 j (by omega) (a_badI (MTo.end_ (And.right ‹_ ∧ MTo _ _›) (by omega)) ‹_›)) | (have h1 := MTo.end_ (And.right ‹_ ∧ MTo _ _›) (by omega); have h2 := ATo.end_ (And.right ‹_ ∧ ATo _ _ _›) (by omega); unfold LibOK; constructor <;> (intro h; simp only [h1, h2, true_and] at h ⊢; omega))
theorem z_c_impl_IsLibrary_156 (x : Library) (nx1 : Nat) (hbdx1 : (nx1 : Int) ≤ 9223372036854775807) (hlex1 : nx1 = x.Maps.length) (nx2 : Nat) (hbdx2 : (nx2 : Int) ≤ 9223372036854775807) (hlex2 : nx2 = x.Away.length) (hp0 : (nx1 : Int) ≤ 1048576) (k : Nat) (hi16 : k ≤ nx1 ∧ MTo x.Maps k) (h18 : ¬ ((k : Int) < (nx1 : Int))) (j : Nat) (hi74 : j ≤ nx2 ∧ ATo x.Maps x.Away j) (h76 : ¬ ((j : Int) < (nx2 : Int))) : (((nx1 : Int) ≤ 8) ∧ (((nx2 : Int) ≤ 8) ∧ ((0 ≤ x.Bought ∧ x.Bought ≤ 9999) ∧ ((0 ≤ x.Dropped ∧ x.Dropped ≤ 9999) ∧ ((0 ≤ x.Mended ∧ x.Mended ≤ 9999) ∧ (x.Bought = (((sumC x.Maps) + (nx2 : Int)) + x.Dropped))))))) ↔ (LibOK x) := by
 subst hlex1 hlex2
 first | exact (fun hh => hh.1.1 k (by omega) ‹_›) | exact (fun hh => hh.2.1.1 j (by omega) (a_badI (MTo.end_ (And.right ‹_ ∧ MTo _ _›) (by omega)) ‹_›)) | (have h1 := MTo.end_ (And.right ‹_ ∧ MTo _ _›) (by omega); have h2 := ATo.end_ (And.right ‹_ ∧ ATo _ _ _›) (by omega); unfold LibOK; constructor <;> (intro h; simp only [h1, h2, true_and] at h ⊢; omega))
theorem c_impl_IsLibrary (w : World) (x : Library) {Ax1 : Option Addr} {nx1 cx1 Bx1 : Nat} (hx1 : SlR w Bx1 encLMap 3 Ax1 nx1 cx1 x.Maps) {Ax2 : Option Addr} {nx2 cx2 Bx2 : Nat} (hx2 : SlR w Bx2 encAway 2 Ax2 nx2 cx2 x.Away) (hp0 : (nx1 : Int) ≤ 1048576) : Calls Tryz.prog 72 #[.agg (List.toArray (cLb Ax1 nx1 cx1 Ax2 nx2 cx2 x))] w fun e w' => e = .returned (.bool (decide (LibOK x))) ∧ Lo w w' := by
 refine calls_W 130 Tryz.func72 rfl rfl rfl ?_
 have hbdx1 := hx1.bound
 have hlex1 := hx1.len
 have hBbx1 := hx1.bd
 have hbdx2 := hx2.bound
 have hlex2 := hx2.len
 have hBbx2 := hx2.bd
 refine Ws (Wr (SR.box (v := .agg (List.toArray _)) (l := (cLb Ax1 nx1 cx1 Ax2 nx2 cx2 x)) rfl rfl ?_))
 intro g1 w2 hg3 hk4 hs5 hb6
 refine Q (aB rfl) <| Qn (Ws (Ws (Wr (Q (fA fa34_0 rfl) <| Q (lB sca31 rfl hb6 rfl) <| Q (r_len und31 rfl) <| Q (r_mv (v := .int .i64 0) rfl) <| Qn (W.block (W.loop (σ := Nat) (fun g => [(1, .pointer (pA g1)), (10, .slice Ax1 nx1 cx1), (11, .int .i64 (nx1 : Int)), (12, .int .i64 (g : Int))]) (fun g w' => (Lo w w') ∧ (Blk w' g1 34 (cLb Ax1 nx1 cx1 Ax2 nx2 cx2 x)) ∧ (SlR w' Bx1 encLMap 3 Ax1 nx1 cx1 x.Maps) ∧ (SlR w' Bx2 encAway 2 Ax2 nx2 cx2 x.Away) ∧ (g ≤ nx1 ∧ MTo x.Maps g)) (fun g => nx1 - g) 0 ?_ ?_ ?_))))))
 ·exact (At.r rfl)
 ·exact ⟨((Lo.refl w).lo hk4), hb6, hx1.lo hk4, hx2.lo hk4, (by exact ⟨Nat.zero_le _, MTo.zero⟩)⟩
 ·rintro k f9 w10 hP12
  obtain ⟨hB11, hm13, hm14, hm15, hi16⟩ : (Lo w w10) ∧ (Blk w10 g1 34 (cLb Ax1 nx1 cx1 Ax2 nx2 cx2 x)) ∧ (SlR w10 Bx1 encLMap 3 Ax1 nx1 cx1 x.Maps) ∧ (SlR w10 Bx2 encAway 2 Ax2 nx2 cx2 x.Away) ∧ (k ≤ nx1 ∧ MTo x.Maps k) := hP12
  refine (?_ : W _ _ _ _ _ (act _ (sets f9 [(1, .pointer (pA g1)), (10, .slice Ax1 nx1 cx1), (11, .int .i64 (nx1 : Int)), (12, .int .i64 (k : Int))])) _)
  have hzw10 := hB11.size
  have hl17 := hm13.lt
  refine Ws (Wr (Q (r_lt rfl rfl) <| Qn (Ws (W.cond_d rfl (fun h18 => ?_) (fun h18 => ?_)))))
  ·refine W.skip (Ws (W.block (Ws (Wr (Q (mI rfl) <| ?_)))))
   have hx20 := hm14.elem (i := k) (by omega)
   refine Q (r_ixR tsl31 hm14 rfl rfl (by omega)) <| Q (r_lda (l := encLMap (gt x.Maps k)) agg102 rfl (fun _ _ hu => hm14.cell hx20 hu) (hm14.esz _)) <| SR.alloc (l := [.int .i64 0, .int .i64 0, .int .i64 0]) tz102 rfl ?_
   intro g21 w22 hg23 hk24 hs25 hb26
   refine Q (aI rfl) <| Qw (o := 0) (vs := [.int .i64 ((gt x.Maps k).Id), .int .i64 ((gt x.Maps k).Copies), .int .i64 ((gt x.Maps k).Torn)]) agg102.2 rfl rfl rfl rfl hb26 ler rfl ?_
   intro w29 hk30 hs31 hb32
   refine Qn (Ws ?_)
   have hm35 := (hm13.lo hk24).kn hk30
   have hm36 := (hm14.lo hk24).kn hk30
   refine W.regJD mo (by kernel_rfl) (fun f' w' => At f' [(1, .pointer (pA g1)), (10, .slice Ax1 nx1 cx1), (11, .int .i64 (nx1 : Int)), (12, .int .i64 (k : Int)), (50, .bool (decide ((¬ (1 ≤ ((gt x.Maps k).Id) ∧ ((gt x.Maps k).Id) ≤ 99)) ∨ ((¬ (0 ≤ ((gt x.Maps k).Copies) ∧ ((gt x.Maps k).Copies) ≤ 99)) ∨ ((¬ (0 ≤ ((gt x.Maps k).Torn) ∧ ((gt x.Maps k).Torn) ≤ ((gt x.Maps k).Copies))) ∨ ((0 < (k : Int)) ∧ (((gt x.Maps k).Id) ≤ ((gt x.Maps (k - 1)).Id))))))))] ∧ Lo w29 w') ?_ ?_
   ·refine QR.q' (fun w' hw' => fA fa102_0 rfl) <| QR.q' (fun w' hw' => r_ld (v := .int .i64 ((gt x.Maps k).Id)) sca3 rfl ((hb32.lo hw').cell rfl)) <| QR.call ent120 (fun w' hw' => (c_impl_isMapId w' ((gt x.Maps k).Id)).mono fun _ _ h => ⟨h.1, hw'.trans h.2⟩) rfl <| QR.q' (fun w' hw' => r_not rfl) <| QR.q' (fun w' hw' => r_mv (v := .bool _) rfl) <| QR.splitN (fun h38 => ?_) (fun h38 => ?_)
    ·refine QR.s' rfl <| QR.s' rfl <| QR.s' rfl <| QR.s' rfl <| QR.q' (fun w' hw' => r_pick true rfl (v := .bool true) rfl) <| QR.q' (fun w' hw' => r_mv (v := .bool _) rfl) <| QR.s' rfl <| QR.s' rfl <| QR.s' rfl <| QR.s' rfl <| QR.s' rfl <| QR.s' rfl <| QR.q' (fun w' hw' => r_pick true rfl (v := .bool true) rfl) <| QR.q' (fun w' hw' => r_mv (v := .bool _) rfl) <| QR.s' rfl <| QR.s' rfl <| QR.s' rfl <| QR.u' rfl <| QR.u' rfl <| QR.u' rfl <| QR.u' rfl <| QR.u' rfl <| QR.u' rfl <| QR.u' rfl <| QR.u' rfl <| QR.u' rfl <| QR.u' rfl <| QR.s' rfl <| QR.q' (fun w' hw' => r_pick true rfl (v := .bool true) rfl) <| QR.nil ?_
     intro w39 hk40
     exact ⟨⟨rfl, rfl, rfl, rfl, (eDT ((jmf h38).1 trivial)), trivial⟩, hk40⟩
    ·refine QR.g' rfl (fun w' hw' => fA fa102_1 rfl) <| QR.g' rfl (fun w' hw' => r_ld (v := .int .i64 ((gt x.Maps k).Copies)) sca3 rfl ((hb32.lo hw').cell rfl)) <| QR.gcall rfl ent66 (fun w' hw' => (c_impl_within w' ((gt x.Maps k).Copies) 0 99).mono fun _ _ h => ⟨h.1, hw'.trans h.2⟩) rfl <| QR.g' rfl (fun w' hw' => r_not rfl) <| QR.q' (fun w' hw' => r_pick false rfl (v := .bool _) rfl) <| QR.q' (fun w' hw' => r_mv (v := .bool _) rfl) <| QR.splitN (fun h41 => ?_) (fun h41 => ?_)
     ·refine QR.s' rfl <| QR.s' rfl <| QR.s' rfl <| QR.s' rfl <| QR.s' rfl <| QR.s' rfl <| QR.q' (fun w' hw' => r_pick true rfl (v := .bool true) rfl) <| QR.q' (fun w' hw' => r_mv (v := .bool _) rfl) <| QR.s' rfl <| QR.s' rfl <| QR.s' rfl <| QR.u' rfl <| QR.u' rfl <| QR.u' rfl <| QR.u' rfl <| QR.u' rfl <| QR.u' rfl <| QR.u' rfl <| QR.u' rfl <| QR.u' rfl <| QR.u' rfl <| QR.s' rfl <| QR.q' (fun w' hw' => r_pick true rfl (v := .bool true) rfl) <| QR.nil ?_
      intro w42 hk43
      exact ⟨⟨rfl, rfl, rfl, rfl, (eDT (((jmf h41).trans (jmt h38)).1 trivial)), trivial⟩, hk43⟩
     ·refine QR.g' rfl (fun w' hw' => fA fa102_2 rfl) <| QR.g' rfl (fun w' hw' => r_ld (v := .int .i64 ((gt x.Maps k).Torn)) sca3 rfl ((hb32.lo hw').cell rfl)) <| QR.g' rfl (fun w' hw' => fA fa102_1 rfl) <| QR.g' rfl (fun w' hw' => r_ld (v := .int .i64 ((gt x.Maps k).Copies)) sca3 rfl ((hb32.lo hw').cell rfl)) <| QR.gcall rfl ent66 (fun w' hw' => (c_impl_within w' ((gt x.Maps k).Torn) 0 ((gt x.Maps k).Copies)).mono fun _ _ h => ⟨h.1, hw'.trans h.2⟩) rfl <| QR.g' rfl (fun w' hw' => r_not rfl) <| QR.q' (fun w' hw' => r_pick false rfl (v := .bool _) rfl) <| QR.q' (fun w' hw' => r_mv (v := .bool _) rfl) <| QR.splitN (fun h44 => ?_) (fun h44 => ?_)
      ·refine QR.s' rfl <| QR.s' rfl <| QR.s' rfl <| QR.u' rfl <| QR.u' rfl <| QR.u' rfl <| QR.u' rfl <| QR.u' rfl <| QR.u' rfl <| QR.u' rfl <| QR.u' rfl <| QR.u' rfl <| QR.u' rfl <| QR.s' rfl <| QR.q' (fun w' hw' => r_pick true rfl (v := .bool true) rfl) <| QR.nil ?_
       intro w45 hk46
       exact ⟨⟨rfl, rfl, rfl, rfl, (eDT ((((jmf h44).trans (jmt h41)).trans (jmt h38)).1 trivial)), trivial⟩, hk46⟩
      ·refine QR.g' rfl (fun w' hw' => r_mv (v := .int .i64 _) rfl) <| QR.g' rfl (fun w' hw' => r_gt rfl rfl) <| QR.g' rfl (fun w' hw' => r_mv (v := .bool _) rfl) <| QR.splitD (fun h47 => ?_) (fun h47 => ?_)
       ·refine QR.g' rfl (fun w' hw' => fA fa102_0 rfl) <| QR.g' rfl (fun w' hw' => r_ld (v := .int .i64 ((gt x.Maps k).Id)) sca3 rfl ((hb32.lo hw').cell rfl)) <| QR.g' rfl (fun w' hw' => fA fa34_0 rfl) <| QR.g' rfl (fun w' hw' => r_ld (v := .slice Ax1 nx1 cx1) sca31 rfl ((hm35.lo hw').cell rfl)) <| QR.g' rfl (fun w' hw' => r_mv (v := .int .i64 _) rfl) <| QR.g' rfl (fun w' hw' => r_sub rfl rfl (by omega)) <| ?_
        have hx49 := hm36.elem (i := ((k : Int) - 1).toNat) (by omega)
        rw [show ((k : Int) - 1).toNat = k - 1 from by omega] at hx49
        have hx50 : x.Maps[((k : Int) - 1).toNat]? = some (gt x.Maps (k - 1)) := (show ((k : Int) - 1).toNat = k - 1 from by omega) ▸ hx49
        refine QR.g' rfl (fun w' hw' => r_ixR tsl31 (hm36.lo hw') rfl rfl (by omega)) <| QR.g' rfl (fun w' hw' => fA fa102_0 rfl) <| QR.g' rfl (fun w' hw' => r_ld (v := .int .i64 ((gt x.Maps (k - 1)).Id)) sca3 rfl ((hm36.lo hw').cell hx50 rfl)) <| QR.g' rfl (fun w' hw' => r_le rfl rfl) <| QR.g' rfl (fun w' hw' => r_pick true rfl (v := .bool _) rfl) <| QR.q' (fun w' hw' => r_pick false rfl (v := .bool _) rfl) <| QR.nil ?_
        intro w51 hk52
        exact ⟨⟨rfl, rfl, rfl, rfl, (eDD ((((jat h47).trans (jmt h44)).trans (jmt h41)).trans (jmt h38))), trivial⟩, hk52⟩
       ·refine QR.s' rfl <| QR.s' rfl <| QR.s' rfl <| QR.s' rfl <| QR.s' rfl <| QR.s' rfl <| QR.s' rfl <| QR.s' rfl <| QR.s' rfl <| QR.s' rfl <| QR.g' rfl (fun w' hw' => r_pick false rfl (v := .bool false) rfl) <| QR.q' (fun w' hw' => r_pick false rfl (v := .bool _) rfl) <| QR.nil ?_
        intro w53 hk54
        exact ⟨⟨rfl, rfl, rfl, rfl, (eDF ((((jaf h47).trans (jmt h44)).trans (jmt h41)).trans (jmt h38)).2), trivial⟩, hk54⟩
   rintro f55 w56 ⟨hat57, hk58⟩
   rw [← sets_of_at hat57]
   have hz59 := hk58.size
   have hB60 := ((hB11.lo hk24).new hk30).lo hk58
   refine W.cond_d rfl (fun h61 => ?_) (fun h61 => ?_)
   ·refine Ws (Wr (Q (aB rfl) <| Qn (W.ret (ret1 rfl (v := .bool _) rfl (⟨eR (eDF (z_c_impl_IsLibrary_62 x nx1 hbdx1 hlex1 nx2 hbdx2 hlex2 hp0 k hi16 h18 hx20 h61)), hB60⟩)))))
   ·have hq63 : 1 ≤ ((gt x.Maps k).Id) ∧ ((gt x.Maps k).Id) ≤ 99 := (Classical.not_not.1 (not_or.1 h61).1)
    have hq64 : 0 ≤ ((gt x.Maps k).Copies) ∧ ((gt x.Maps k).Copies) ≤ 99 := (Classical.not_not.1 (not_or.1 (not_or.1 h61).2).1)
    have hq65 : 0 ≤ ((gt x.Maps k).Torn) ∧ ((gt x.Maps k).Torn) ≤ ((gt x.Maps k).Copies) := (Classical.not_not.1 (not_or.1 (not_or.1 (not_or.1 h61).2).2).1)
    have hq66 : ¬ ((0 < (k : Int)) ∧ (((gt x.Maps k).Id) ≤ ((gt x.Maps (k - 1)).Id))) := (not_or.1 (not_or.1 (not_or.1 h61).2).2).2
    refine W.skip (Wr (Q (r_add rfl rfl (by omega)) <| Q (mI rfl) <| Qn (⟨k + 1, _, rfl, (At.r rfl), ⟨hB60, hm35.lo hk58, hm36.lo hk58, ((hm15.lo hk24).kn hk30).lo hk58, ?_⟩, ?_⟩)))
    ·exact (by exact ⟨by omega, MTo.next (And.right ‹_ ∧ MTo _ _›) ‹_›⟩)
    ·exact (by omega)
  ·refine W.exit (xin_here (Ws (Ws (Wr (Q (fA fa34_1 rfl) <| Q (lB sca32 rfl hm13 rfl) <| Q (r_len und32 rfl) <| Q (r_mv (v := .int .i64 0) rfl) <| Qn (W.block (W.loop (σ := Nat) (fun g => [(1, .pointer (pA g1)), (53, .slice Ax2 nx2 cx2), (54, .int .i64 (nx2 : Int)), (55, .int .i64 (g : Int))]) (fun g w' => (Lo w w') ∧ (Blk w' g1 34 (cLb Ax1 nx1 cx1 Ax2 nx2 cx2 x)) ∧ (SlR w' Bx1 encLMap 3 Ax1 nx1 cx1 x.Maps) ∧ (SlR w' Bx2 encAway 2 Ax2 nx2 cx2 x.Away) ∧ (g ≤ nx2 ∧ ATo x.Maps x.Away g)) (fun g => nx2 - g) 0 ?_ ?_ ?_)))))))
   ·exact (At.r rfl)
   ·exact ⟨hB11, hm13, hm14, hm15, (by exact ⟨Nat.zero_le _, ATo.zero⟩)⟩
   ·rintro j f67 w68 hP70
    obtain ⟨hB69, hm71, hm72, hm73, hi74⟩ : (Lo w w68) ∧ (Blk w68 g1 34 (cLb Ax1 nx1 cx1 Ax2 nx2 cx2 x)) ∧ (SlR w68 Bx1 encLMap 3 Ax1 nx1 cx1 x.Maps) ∧ (SlR w68 Bx2 encAway 2 Ax2 nx2 cx2 x.Away) ∧ (j ≤ nx2 ∧ ATo x.Maps x.Away j) := hP70
    refine (?_ : W _ _ _ _ _ (act _ (sets f67 [(1, .pointer (pA g1)), (53, .slice Ax2 nx2 cx2), (54, .int .i64 (nx2 : Int)), (55, .int .i64 (j : Int))])) _)
    have hzw68 := hB69.size
    have hl75 := hm71.lt
    refine Ws (Wr (Q (r_lt rfl rfl) <| Qn (Ws (W.cond_d rfl (fun h76 => ?_) (fun h76 => ?_)))))
    ·refine W.skip (Ws (W.block (Ws (Wr (Q (mI rfl) <| ?_)))))
     have hx78 := hm73.elem (i := j) (by omega)
     refine Q (r_ixR tsl32 hm73 rfl rfl (by omega)) <| Q (r_lda (l := encAway (gt x.Away j)) agg129 rfl (fun _ _ hu => hm73.cell hx78 hu) (hm73.esz _)) <| SR.alloc (l := [.int .i64 0, .int .i64 0]) tz129 rfl ?_
     intro g79 w80 hg81 hk82 hs83 hb84
     refine Q (aI rfl) <| Qw (o := 0) (vs := [.int .i64 ((gt x.Away j).Map), .int .i64 ((gt x.Away j).Reader)]) agg129.2 rfl rfl rfl rfl hb84 ler rfl ?_
     intro w87 hk88 hs89 hb90
     refine Qn (Ws ?_)
     have hm93 := (hm71.lo hk82).kn hk88
     have hm94 := (hm72.lo hk82).kn hk88
     have hm95 := (hm73.lo hk82).kn hk88
     refine Wr (Q (lG agg34 rfl hm93 rfl) <| Q (fA fa129_0 rfl) <| Q (lB sca3 rfl hb90 rfl) <| Qv ent121 (c__impl_Library__mapAt w87 x hm94 hm95 ((gt x.Away j).Map) (by omega)) rfl fun w96 hk97 hz98 => ?_)
     have hq100 : bsP cmpM ((gt x.Away j).Map) x.Maps ≤ x.Maps.length := bsP_le
     refine Q (mT rfl) <| Q (xI rfl rfl) <| Q (xB rfl rfl) <| Q (aI rfl) <| Q (aB rfl) <| Qn (Ws (W.regJD mo (by kernel_rfl) (fun f' w' => At f' [(1, .pointer (pA g1)), (53, .slice Ax2 nx2 cx2), (54, .int .i64 (nx2 : Int)), (55, .int .i64 (j : Int)), (89, .bool (decide ((¬ (bsF cmpM ((gt x.Away j).Map) x.Maps)) ∨ ((¬ (1 ≤ ((gt x.Away j).Reader) ∧ ((gt x.Away j).Reader) ≤ 999)) ∨ ((0 < (j : Int)) ∧ (0 ≤ (cmpA (gt x.Away (j - 1)) (gt x.Away j))))))))] ∧ Lo w96 w') ?_ ?_))
     ·refine QR.q' (fun w' hw' => r_mv (v := .bool _) rfl) <| QR.q' (fun w' hw' => r_not rfl) <| QR.q' (fun w' hw' => r_mv (v := .bool _) rfl) <| QR.splitN (fun h101 => ?_) (fun h101 => ?_)
      ·refine QR.s' rfl <| QR.s' rfl <| QR.s' rfl <| QR.s' rfl <| QR.q' (fun w' hw' => r_pick true rfl (v := .bool true) rfl) <| QR.q' (fun w' hw' => r_mv (v := .bool _) rfl) <| QR.s' rfl <| QR.s' rfl <| QR.s' rfl <| QR.u' rfl <| QR.u' rfl <| QR.u' rfl <| QR.u' rfl <| QR.u' rfl <| QR.u' rfl <| QR.u' rfl <| QR.u' rfl <| QR.u' rfl <| QR.s' rfl <| QR.q' (fun w' hw' => r_pick true rfl (v := .bool true) rfl) <| QR.nil ?_
       intro w102 hk103
       exact ⟨⟨rfl, rfl, rfl, rfl, (eDT ((jmf h101).1 trivial)), trivial⟩, hk103⟩
      ·refine QR.g' rfl (fun w' hw' => fA fa129_1 rfl) <| QR.g' rfl (fun w' hw' => r_ld (v := .int .i64 ((gt x.Away j).Reader)) sca3 rfl (((hb90.lo hk97).lo hw').cell rfl)) <| QR.gcall rfl ent122 (fun w' hw' => (c_impl_isId w' ((gt x.Away j).Reader)).mono fun _ _ h => ⟨h.1, hw'.trans h.2⟩) rfl <| QR.g' rfl (fun w' hw' => r_not rfl) <| QR.q' (fun w' hw' => r_pick false rfl (v := .bool _) rfl) <| QR.q' (fun w' hw' => r_mv (v := .bool _) rfl) <| QR.splitN (fun h104 => ?_) (fun h104 => ?_)
       ·refine QR.s' rfl <| QR.s' rfl <| QR.s' rfl <| QR.u' rfl <| QR.u' rfl <| QR.u' rfl <| QR.u' rfl <| QR.u' rfl <| QR.u' rfl <| QR.u' rfl <| QR.u' rfl <| QR.u' rfl <| QR.s' rfl <| QR.q' (fun w' hw' => r_pick true rfl (v := .bool true) rfl) <| QR.nil ?_
        intro w105 hk106
        exact ⟨⟨rfl, rfl, rfl, rfl, (eDT (((jmf h104).trans (jmt h101)).1 trivial)), trivial⟩, hk106⟩
       ·refine QR.g' rfl (fun w' hw' => r_mv (v := .int .i64 _) rfl) <| QR.g' rfl (fun w' hw' => r_gt rfl rfl) <| QR.g' rfl (fun w' hw' => r_mv (v := .bool _) rfl) <| QR.splitD (fun h107 => ?_) (fun h107 => ?_)
        ·refine QR.g' rfl (fun w' hw' => fA fa34_1 rfl) <| QR.g' rfl (fun w' hw' => r_ld (v := .slice Ax2 nx2 cx2) sca32 rfl (((hm93.lo hk97).lo hw').cell rfl)) <| QR.g' rfl (fun w' hw' => r_mv (v := .int .i64 _) rfl) <| QR.g' rfl (fun w' hw' => r_sub rfl rfl (by omega)) <| ?_
         have hx109 := (hm95.lo hk97).elem (i := ((j : Int) - 1).toNat) (by omega)
         rw [show ((j : Int) - 1).toNat = j - 1 from by omega] at hx109
         have hx110 : x.Away[((j : Int) - 1).toNat]? = some (gt x.Away (j - 1)) := (show ((j : Int) - 1).toNat = j - 1 from by omega) ▸ hx109
         refine QR.g' rfl (fun w' hw' => r_ixR tsl32 ((hm95.lo hk97).lo hw') rfl rfl (by omega)) <| QR.g' rfl (fun w' hw' => r_lda (l := encAway (gt x.Away (j - 1))) agg129 rfl (fun _ _ hu => ((hm95.lo hk97).lo hw').cell hx110 hu) (((hm95.lo hk97).lo hw').esz _)) <| QR.g' rfl (fun w' hw' => r_lda (l := [.int .i64 ((gt x.Away j).Map), .int .i64 ((gt x.Away j).Reader)]) agg129 rfl (fun _ _ hu => ((hb90.lo hk97).lo hw').cell hu) rfl) <| QR.gcall rfl ent123 (fun w' hw' => (c_impl_compareAway w' (gt x.Away (j - 1)) (gt x.Away j)).mono fun _ _ h => ⟨h.1, hw'.trans h.2⟩) rfl <| QR.g' rfl (fun w' hw' => r_ge rfl rfl) <| QR.g' rfl (fun w' hw' => r_pick true rfl (v := .bool _) rfl) <| QR.q' (fun w' hw' => r_pick false rfl (v := .bool _) rfl) <| QR.nil ?_
         intro w111 hk112
         exact ⟨⟨rfl, rfl, rfl, rfl, (eDD (((jat h107).trans (jmt h104)).trans (jmt h101))), trivial⟩, hk112⟩
        ·refine QR.s' rfl <| QR.s' rfl <| QR.s' rfl <| QR.s' rfl <| QR.s' rfl <| QR.s' rfl <| QR.s' rfl <| QR.s' rfl <| QR.s' rfl <| QR.g' rfl (fun w' hw' => r_pick false rfl (v := .bool false) rfl) <| QR.q' (fun w' hw' => r_pick false rfl (v := .bool _) rfl) <| QR.nil ?_
         intro w113 hk114
         exact ⟨⟨rfl, rfl, rfl, rfl, (eDF (((jaf h107).trans (jmt h104)).trans (jmt h101)).2), trivial⟩, hk114⟩
     rintro f115 w116 ⟨hat117, hk118⟩
     rw [← sets_of_at hat117]
     have hz119 := hk118.size
     have hB120 := (((hB69.lo hk82).new hk88).lo hk97).lo hk118
     refine W.cond_d rfl (fun h121 => ?_) (fun h121 => ?_)
     ·refine Ws (Wr (Q (aB rfl) <| Qn (W.ret (ret1 rfl (v := .bool _) rfl (⟨eR (eDF (z_c_impl_IsLibrary_125 x nx1 hbdx1 hlex1 nx2 hbdx2 hlex2 hp0 k hi16 h18 j hi74 h76 hx78 hq100 h121)), hB120⟩)))))
     ·have hq126 : bsF cmpM ((gt x.Away j).Map) x.Maps := (Classical.not_not.1 (not_or.1 h121).1)
      have hq127 : 1 ≤ ((gt x.Away j).Reader) ∧ ((gt x.Away j).Reader) ≤ 999 := (Classical.not_not.1 (not_or.1 (not_or.1 h121).2).1)
      have hq128 : ¬ ((0 < (j : Int)) ∧ (0 ≤ (cmpA (gt x.Away (j - 1)) (gt x.Away j)))) := (not_or.1 (not_or.1 h121).2).2
      refine W.skip (Wr (Q (r_add rfl rfl (by omega)) <| Q (mI rfl) <| Qn (⟨j + 1, _, rfl, (At.r rfl), ⟨hB120, ((hm93.lo hk97).lo hk118), ((hm94.lo hk97).lo hk118), ((hm95.lo hk97).lo hk118), ?_⟩, ?_⟩)))
      ·exact (by exact ⟨by omega, ATo.next (And.right ‹_ ∧ ATo _ _ _›) (a_goodI (MTo.end_ (And.right ‹_ ∧ MTo _ _›) (by omega)) ‹_›)⟩)
      ·exact (by omega)
    ·refine W.exit (xin_here (Ws (W.regJD mo (by kernel_rfl) (fun f' w' => At f' [(2, .bool (decide (((nx1 : Int) ≤ 8) ∧ (((nx2 : Int) ≤ 8) ∧ ((0 ≤ x.Bought ∧ x.Bought ≤ 9999) ∧ ((0 ≤ x.Dropped ∧ x.Dropped ≤ 9999) ∧ ((0 ≤ x.Mended ∧ x.Mended ≤ 9999) ∧ (x.Bought = (((sumC x.Maps) + (nx2 : Int)) + x.Dropped)))))))))] ∧ Lo w68 w') ?_ ?_)))
     ·refine QR.q' (fun w' hw' => fA fa34_0 rfl) <| QR.q' (fun w' hw' => r_ld (v := .slice Ax1 nx1 cx1) sca31 rfl ((hm71.lo hw').cell rfl)) <| QR.q' (fun w' hw' => r_len und31 rfl) <| QR.q' (fun w' hw' => r_le rfl rfl) <| QR.q' (fun w' hw' => r_mv (v := .bool _) rfl) <| QR.splitD (fun h132 => ?_) (fun h132 => ?_)
      ·refine QR.g' rfl (fun w' hw' => fA fa34_1 rfl) <| QR.g' rfl (fun w' hw' => r_ld (v := .slice Ax2 nx2 cx2) sca32 rfl ((hm71.lo hw').cell rfl)) <| QR.g' rfl (fun w' hw' => r_len und32 rfl) <| QR.g' rfl (fun w' hw' => r_le rfl rfl) <| QR.q' (fun w' hw' => r_pick true rfl (v := .bool _) rfl) <| QR.q' (fun w' hw' => r_mv (v := .bool _) rfl) <| QR.splitD (fun h133 => ?_) (fun h133 => ?_)
       ·refine QR.g' rfl (fun w' hw' => fA fa34_2 rfl) <| QR.g' rfl (fun w' hw' => r_ld (v := .int .i64 x.Bought) sca3 rfl ((hm71.lo hw').cell rfl)) <| QR.gcall rfl ent124 (fun w' hw' => (c_impl_isSum w' x.Bought).mono fun _ _ h => ⟨h.1, hw'.trans h.2⟩) rfl <| QR.q' (fun w' hw' => r_pick true rfl (v := .bool _) rfl) <| QR.q' (fun w' hw' => r_mv (v := .bool _) rfl) <| QR.splitD (fun h134 => ?_) (fun h134 => ?_)
        ·refine QR.g' rfl (fun w' hw' => fA fa34_3 rfl) <| QR.g' rfl (fun w' hw' => r_ld (v := .int .i64 x.Dropped) sca3 rfl ((hm71.lo hw').cell rfl)) <| QR.gcall rfl ent124 (fun w' hw' => (c_impl_isSum w' x.Dropped).mono fun _ _ h => ⟨h.1, hw'.trans h.2⟩) rfl <| QR.q' (fun w' hw' => r_pick true rfl (v := .bool _) rfl) <| QR.q' (fun w' hw' => r_mv (v := .bool _) rfl) <| QR.splitD (fun h135 => ?_) (fun h135 => ?_)
         ·refine QR.g' rfl (fun w' hw' => fA fa34_4 rfl) <| QR.g' rfl (fun w' hw' => r_ld (v := .int .i64 x.Mended) sca3 rfl ((hm71.lo hw').cell rfl)) <| QR.gcall rfl ent124 (fun w' hw' => (c_impl_isSum w' x.Mended).mono fun _ _ h => ⟨h.1, hw'.trans h.2⟩) rfl <| QR.q' (fun w' hw' => r_pick true rfl (v := .bool _) rfl) <| QR.q' (fun w' hw' => r_mv (v := .bool _) rfl) <| QR.splitD (fun h136 => ?_) (fun h136 => ?_)
          ·refine QR.g' rfl (fun w' hw' => fA fa34_2 rfl) <| QR.g' rfl (fun w' hw' => r_ld (v := .int .i64 x.Bought) sca3 rfl ((hm71.lo hw').cell rfl)) <| QR.g' rfl (fun w' hw' => r_lda (l := (cLb Ax1 nx1 cx1 Ax2 nx2 cx2 x)) agg34 rfl (fun _ _ hu => (hm71.lo hw').cell hu) rfl) <| QR.gcall rfl ent125 (fun w' hw' => (c__impl_Library__copies w' x (hm72.lo hw') (hm73.lo hw') (by first | assumption | exact MTo.end_ (And.right ‹_ ∧ MTo _ _›) (by omega)) (by omega)).mono fun _ _ h => ⟨h.1, hw'.trans h.2⟩) rfl <| ?_
           have hq137 : 0 ≤ sumC x.Maps ∧ sumC x.Maps ≤ 792 := sumC_rng (by first | assumption | exact MTo.end_ (And.right ‹_ ∧ MTo _ _›) (by omega)) (by omega)
           refine QR.g' rfl (fun w' hw' => fA fa34_1 rfl) <| QR.g' rfl (fun w' hw' => r_ld (v := .slice Ax2 nx2 cx2) sca32 rfl ((hm71.lo hw').cell rfl)) <| QR.g' rfl (fun w' hw' => r_len und32 rfl) <| QR.g' rfl (fun w' hw' => r_add rfl rfl (by omega)) <| QR.g' rfl (fun w' hw' => fA fa34_3 rfl) <| QR.g' rfl (fun w' hw' => r_ld (v := .int .i64 x.Dropped) sca3 rfl ((hm71.lo hw').cell rfl)) <| QR.g' rfl (fun w' hw' => r_add rfl rfl (by omega)) <| QR.g' rfl (fun w' hw' => r_eq rfl rfl) <| QR.q' (fun w' hw' => r_pick true rfl (v := .bool _) rfl) <| QR.q' (fun w' hw' => r_as (v := .bool _) rfl) <| QR.nil ?_
           intro w138 hk139
           exact ⟨⟨(eDD (((((jat h136).trans (jat h135)).trans (jat h134)).trans (jat h133)).trans (jat h132))), trivial⟩, hk139⟩
          ·refine QR.s' rfl <| QR.s' rfl <| QR.s' rfl <| QR.s' rfl <| QR.s' rfl <| QR.s' rfl <| QR.s' rfl <| QR.s' rfl <| QR.s' rfl <| QR.s' rfl <| QR.s' rfl <| QR.s' rfl <| QR.q' (fun w' hw' => r_pick false rfl (v := .bool false) rfl) <| QR.q' (fun w' hw' => r_as (v := .bool _) rfl) <| QR.nil ?_
           intro w140 hk141
           exact ⟨⟨(eDF (((((jaf h136).trans (jat h135)).trans (jat h134)).trans (jat h133)).trans (jat h132)).2), trivial⟩, hk141⟩
         ·refine QR.s' rfl <| QR.s' rfl <| QR.s' rfl <| QR.q' (fun w' hw' => r_pick false rfl (v := .bool false) rfl) <| QR.q' (fun w' hw' => r_mv (v := .bool _) rfl) <| QR.s' rfl <| QR.s' rfl <| QR.s' rfl <| QR.s' rfl <| QR.s' rfl <| QR.s' rfl <| QR.s' rfl <| QR.s' rfl <| QR.s' rfl <| QR.s' rfl <| QR.s' rfl <| QR.s' rfl <| QR.q' (fun w' hw' => r_pick false rfl (v := .bool false) rfl) <| QR.q' (fun w' hw' => r_as (v := .bool _) rfl) <| QR.nil ?_
          intro w142 hk143
          exact ⟨⟨(eDF ((((jaf h135).trans (jat h134)).trans (jat h133)).trans (jat h132)).2), trivial⟩, hk143⟩
        ·refine QR.s' rfl <| QR.s' rfl <| QR.s' rfl <| QR.q' (fun w' hw' => r_pick false rfl (v := .bool false) rfl) <| QR.q' (fun w' hw' => r_mv (v := .bool _) rfl) <| QR.s' rfl <| QR.s' rfl <| QR.s' rfl <| QR.q' (fun w' hw' => r_pick false rfl (v := .bool false) rfl) <| QR.q' (fun w' hw' => r_mv (v := .bool _) rfl) <| QR.s' rfl <| QR.s' rfl <| QR.s' rfl <| QR.s' rfl <| QR.s' rfl <| QR.s' rfl <| QR.s' rfl <| QR.s' rfl <| QR.s' rfl <| QR.s' rfl <| QR.s' rfl <| QR.s' rfl <| QR.q' (fun w' hw' => r_pick false rfl (v := .bool false) rfl) <| QR.q' (fun w' hw' => r_as (v := .bool _) rfl) <| QR.nil ?_
         intro w144 hk145
         exact ⟨⟨(eDF (((jaf h134).trans (jat h133)).trans (jat h132)).2), trivial⟩, hk145⟩
       ·refine QR.s' rfl <| QR.s' rfl <| QR.s' rfl <| QR.q' (fun w' hw' => r_pick false rfl (v := .bool false) rfl) <| QR.q' (fun w' hw' => r_mv (v := .bool _) rfl) <| QR.s' rfl <| QR.s' rfl <| QR.s' rfl <| QR.q' (fun w' hw' => r_pick false rfl (v := .bool false) rfl) <| QR.q' (fun w' hw' => r_mv (v := .bool _) rfl) <| QR.s' rfl <| QR.s' rfl <| QR.s' rfl <| QR.q' (fun w' hw' => r_pick false rfl (v := .bool false) rfl) <| QR.q' (fun w' hw' => r_mv (v := .bool _) rfl) <| QR.s' rfl <| QR.s' rfl <| QR.s' rfl <| QR.s' rfl <| QR.s' rfl <| QR.s' rfl <| QR.s' rfl <| QR.s' rfl <| QR.s' rfl <| QR.s' rfl <| QR.s' rfl <| QR.s' rfl <| QR.q' (fun w' hw' => r_pick false rfl (v := .bool false) rfl) <| QR.q' (fun w' hw' => r_as (v := .bool _) rfl) <| QR.nil ?_
        intro w146 hk147
        exact ⟨⟨(eDF ((jaf h133).trans (jat h132)).2), trivial⟩, hk147⟩
      ·refine QR.s' rfl <| QR.s' rfl <| QR.s' rfl <| QR.s' rfl <| QR.q' (fun w' hw' => r_pick false rfl (v := .bool false) rfl) <| QR.q' (fun w' hw' => r_mv (v := .bool _) rfl) <| QR.s' rfl <| QR.s' rfl <| QR.s' rfl <| QR.q' (fun w' hw' => r_pick false rfl (v := .bool false) rfl) <| QR.q' (fun w' hw' => r_mv (v := .bool _) rfl) <| QR.s' rfl <| QR.s' rfl <| QR.s' rfl <| QR.q' (fun w' hw' => r_pick false rfl (v := .bool false) rfl) <| QR.q' (fun w' hw' => r_mv (v := .bool _) rfl) <| QR.s' rfl <| QR.s' rfl <| QR.s' rfl <| QR.q' (fun w' hw' => r_pick false rfl (v := .bool false) rfl) <| QR.q' (fun w' hw' => r_mv (v := .bool _) rfl) <| QR.s' rfl <| QR.s' rfl <| QR.s' rfl <| QR.s' rfl <| QR.s' rfl <| QR.s' rfl <| QR.s' rfl <| QR.s' rfl <| QR.s' rfl <| QR.s' rfl <| QR.s' rfl <| QR.s' rfl <| QR.q' (fun w' hw' => r_pick false rfl (v := .bool false) rfl) <| QR.q' (fun w' hw' => r_as (v := .bool _) rfl) <| QR.nil ?_
       intro w148 hk149
       exact ⟨⟨(eDF (jaf h132).2), trivial⟩, hk149⟩
     rintro f150 w151 ⟨hat152, hk153⟩
     rw [← sets_of_at hat152]
     have hz154 := hk153.size
     refine W.ret (ret1 rfl (v := .bool _) rfl (⟨eR (eDD (z_c_impl_IsLibrary_156 x nx1 hbdx1 hlex1 nx2 hbdx2 hlex2 hp0 k hi16 h18 j hi74 h76)), (hB69.lo hk153)⟩))
end Go.Proofs.YtndcchndcghmoaaGreatDoor
namespace Go.Proofs.YtndcchndcghmoaaGreatDoor
open Go Go.RowKit Fw
set_option maxRecDepth 10000
set_option maxHeartbeats 2000000
set_option linter.unusedVariables false
theorem ent126 : Ent Tryz.prog 126 := en Tryz.func126
theorem ent128 : Ent Tryz.prog 128 := en Tryz.func128
theorem ent72 : Ent Tryz.prog 72 := en Tryz.func72
theorem ent76 : Ent Tryz.prog 76 := en Tryz.func76
theorem ent80 : Ent Tryz.prog 80 := en Tryz.func80
theorem c__impl_Library__readersOf (w : World) (x : Library) {Ax1 : Option Addr} {nx1 cx1 Bx1 : Nat} (hx1 : SlR w Bx1 encLMap 3 Ax1 nx1 cx1 x.Maps) {Ax2 : Option Addr} {nx2 cx2 Bx2 : Nat} (hx2 : SlR w Bx2 encAway 2 Ax2 nx2 cx2 x.Away) (r : Int) (hp0 : nx2 ≤ 8) : Calls Tryz.prog 126 #[.agg (List.toArray (cLb Ax1 nx1 cx1 Ax2 nx2 cx2 x)), .int .i64 r] w fun e w' => ∃ (A1' : Option Addr) (n1' c1' : Nat), e = .returned (.slice A1' n1' c1') ∧ SlO w' w.heap.size encI 1 3 A1' n1' c1' (selL (ofM r) Away.Reader x.Away) ∧ Lo w w' := by
 refine calls_W 26 Tryz.func126 rfl rfl rfl ?_
 have hbdx1 := hx1.bound
 have hlex1 := hx1.len
 have hBbx1 := hx1.bd
 have hbdx2 := hx2.bound
 have hlex2 := hx2.len
 have hBbx2 := hx2.bd
 refine Ws (Wr (SR.box (v := .agg (List.toArray _)) (l := (cLb Ax1 nx1 cx1 Ax2 nx2 cx2 x)) rfl rfl ?_))
 intro g1 w2 hg3 hk4 hs5 hb6
 refine Q (r_as (v := .slice none 0 0) rfl) <| Qn (Ws (Wr (Q (r_as (v := .slice none 0 0) rfl) <| Qn (Ws (Ws (Wr (Q (fA fa34_1 rfl) <| Q (lB sca32 rfl hb6 rfl) <| Q (r_len und32 rfl) <| Q (r_mv (v := .int .i64 0) rfl) <| Qn (W.block (W.loop (σ := Nat × (Option Addr) × Nat × Nat) (fun g => [(1, .int .i64 r), (4, .slice none 0 0), (5, .slice g.2.1 g.2.2.1 g.2.2.2), (9, .slice Ax2 nx2 cx2), (10, .int .i64 (nx2 : Int)), (11, .int .i64 (g.1 : Int))]) (fun g w' => (Lo w w') ∧ (SlR w' Bx2 encAway 2 Ax2 nx2 cx2 x.Away) ∧ (SlO w' w.heap.size encI 1 3 g.2.1 g.2.2.1 g.2.2.2 (selL (ofM r) Away.Reader (x.Away.take g.1))) ∧ (g.1 ≤ nx2)) (fun g => nx2 - g.1) (0, (none : Option Addr), 0, 0) ?_ ?_ ?_)))))))))
 ·exact (At.r rfl)
 ·exact ⟨((Lo.refl w).lo hk4), hx2.lo hk4, (SlO.eqv (SlO.nil (base := w.heap.size) (e := 3) (enc := encI) (fun _ => rfl) (by omega)) (by rfl)), (by (try dsimp only); omega)⟩
 ·rintro ⟨k, A9, n9, c9⟩ f10 w11 hP13
  obtain ⟨hB12, hm14, hO15, hi16⟩ : (Lo w w11) ∧ (SlR w11 Bx2 encAway 2 Ax2 nx2 cx2 x.Away) ∧ (SlO w11 w.heap.size encI 1 3 A9 n9 c9 (selL (ofM r) Away.Reader (x.Away.take k))) ∧ (k ≤ nx2) := hP13
  refine (?_ : W _ _ _ _ _ (act _ (sets f10 [(1, .int .i64 r), (4, .slice none 0 0), (5, .slice A9 n9 c9), (9, .slice Ax2 nx2 cx2), (10, .int .i64 (nx2 : Int)), (11, .int .i64 (k : Int))])) _)
  have hzw11 := hB12.size
  have hl17 := hO15.len
  have hl18 := hO15.rd.bound
  have hq19 := sel_lenT x.Away k (ofM r) Away.Reader
  refine Ws (Wr (Q (r_lt rfl rfl) <| Qn (Ws (W.cond_d rfl (fun h20 => ?_) (fun h20 => ?_)))))
  ·refine W.skip (Ws (W.block (Ws ?_)))
   have hx22 := hm14.elem (i := k) (by omega)
   refine Wr (Q (r_ixR tsl32 hm14 rfl rfl (by omega)) <| Q (r_lda (l := encAway (gt x.Away k)) agg129 rfl (fun _ _ hu => hm14.cell hx22 hu) (hm14.esz _)) <| SR.alloc (l := [.int .i64 0, .int .i64 0]) tz129 rfl ?_)
   intro g23 w24 hg25 hk26 hs27 hb28
   refine Qw (o := 0) (vs := [.int .i64 ((gt x.Away k).Map), .int .i64 ((gt x.Away k).Reader)]) agg129.2 rfl rfl rfl rfl hb28 ler rfl ?_
   intro w32 hk33 hs34 hb35
   have hB37 := (hB12.lo hk26).new hk33
   refine Qn (Ws ?_)
   have hm38 := (hO15.lo hk26).kd hk33 (SlO.ne (g := g23) hO15)
   have hm39 := (hm14.lo hk26).kn hk33
   refine Wr (Q (fA fa129_0 rfl) <| Q (lB sca3 rfl hb35 rfl) <| Q (mI rfl) <| Q (r_eq rfl rfl) <| Qn (W.cond_d rfl (fun h40 => ?_) (fun h40 => ?_)))
   ·refine Wr (Q (mL rfl) <| Q (fA fa129_1 rfl) <| Q (lB sca3 rfl hb35 rfl) <| SR.lit (vs := [.int .i64 ((gt x.Away k).Reader)]) (L := ([(gt x.Away k).Reader] : List Int)) (enc := encI) tel93 (fun _ => rfl) rfl rfl rfl (by decide) ?_)
    intro g41 w42 hg43 hk44 hO45
    have hz46 := hk44.size
    refine SR.app tel93 rfl rfl (hm38.lo hk44) (hO45.rd) (fun _ => rfl) (by omega) (by omega) ?_
    intro A49 c50 w51 hk52 hO53 hN54
    have hz55 := hk52.size
    refine Q (aL rfl) <| Qn ?_
    have hm59 := (hm39.lo hk44).kp hk52 (fun b_ hb e' => by have := (hm38.lo hk44).base_le e'; omega)
    refine Wr (Q (r_add rfl rfl (by omega)) <| Q (mI rfl) <| Qn (⟨(k + 1, A49, n9 + 1, c50), _, rfl, (At.r rfl), ⟨((hB37.lo hk44).step hk52 (fun i_ hi_ e' => by have := (hm38.lo hk44).base_le e'; first | omega | exact e' | exact .inl e' | exact .inr e')), hm59, (SlO.eqv hO53 (by first | exact sel_yes (by omega) (decide_eq_true ‹_›) | exact sel_no (by omega) (decide_eq_false ‹_›))), ?_⟩, ?_⟩))
    ·exact (by (try dsimp only); omega)
    ·exact (by (try dsimp only); omega)
   ·refine W.skip (Wr (Q (r_add rfl rfl (by omega)) <| Q (mI rfl) <| Qn (⟨(k + 1, A9, n9, c9), _, rfl, (At.r rfl), ⟨hB37, hm39, (SlO.eqv hm38 (by first | exact sel_yes (by omega) (decide_eq_true ‹_›) | exact sel_no (by omega) (decide_eq_false ‹_›))), ?_⟩, ?_⟩)))
    ·exact (by (try dsimp only); omega)
    ·exact (by (try dsimp only); omega)
  ·refine W.exit (xin_here (Ws (Wr (Q (mL rfl) <| Q (aL rfl) <| Qn (W.ret (ret1 rfl (v := .slice _ _ _) rfl (⟨A9, n9, c9, eR rfl, (SlO.eqv (hO15.down) (by exact sel_end (by omega))), hB12⟩)))))))
theorem c_spec_l32At (w : World) (x : Library) {Ax1 : Option Addr} {nx1 cx1 Bx1 : Nat} (hx1 : SlR w Bx1 encLMap 3 Ax1 nx1 cx1 x.Maps) {Ax2 : Option Addr} {nx2 cx2 Bx2 : Nat} (hx2 : SlR w Bx2 encAway 2 Ax2 nx2 cx2 x.Away) (r : Int) (hp0 : nx2 ≤ 8) : Calls Tryz.prog 128 #[.agg (List.toArray (cLb Ax1 nx1 cx1 Ax2 nx2 cx2 x)), .int .i64 r] w fun e w' => ∃ (A1' : Option Addr) (n1' c1' : Nat), e = .returned (.slice A1' n1' c1') ∧ SlO w' w.heap.size encI 1 3 A1' n1' c1' (selL (ofM r) Away.Reader x.Away) ∧ Lo w w' := by
 refine calls_W 33 Tryz.func128 rfl rfl rfl ?_
 have hbdx1 := hx1.bound
 have hlex1 := hx1.len
 have hBbx1 := hx1.bd
 have hbdx2 := hx2.bound
 have hlex2 := hx2.len
 have hBbx2 := hx2.bd
 refine Ws (Wr (SR.box (v := .agg (List.toArray _)) (l := (cLb Ax1 nx1 cx1 Ax2 nx2 cx2 x)) rfl rfl ?_))
 intro g1 w2 hg3 hk4 hs5 hb6
 refine Q (r_as (v := .slice none 0 0) rfl) <| Qn (Ws (Wr (SR.lit (vs := []) (L := ([] : List Int)) (enc := encI) tel93 (fun _ => rfl) rfl rfl rfl (by decide) ?_)))
 intro g9 w10 hg11 hk12 hO13
 have hz14 := hk12.size
 refine Q (aL rfl) <| Qn (Ws (Ws (Wr (Q (aI rfl) <| Qn (W.block (W.loop (σ := Nat × (Option Addr) × Nat × Nat) (fun g => [(1, .int .i64 r), (2, .pointer (pA g1)), (4, .slice none 0 0), (5, .slice g.2.1 g.2.2.1 g.2.2.2), (6, .int .i64 (g.1 : Int))]) (fun g w' => (Lo w w') ∧ (Blk w' g1 34 (cLb Ax1 nx1 cx1 Ax2 nx2 cx2 x)) ∧ (SlR w' Bx1 encLMap 3 Ax1 nx1 cx1 x.Maps) ∧ (SlR w' Bx2 encAway 2 Ax2 nx2 cx2 x.Away) ∧ (SlO w' w.heap.size encI 1 3 g.2.1 g.2.2.1 g.2.2.2 (selL (ofM r) Away.Reader (x.Away.take g.1))) ∧ (¬ g.2.1 = some ⟨g1, 0, none⟩) ∧ (g.1 ≤ nx2)) (fun g => nx2 - g.1) (0, (pA g9), 0, 0) ?_ ?_ ?_))))))
 ·exact (At.r rfl)
 ·show (Lo w w10) ∧ (Blk w10 g1 34 (cLb Ax1 nx1 cx1 Ax2 nx2 cx2 x)) ∧ (SlR w10 Bx1 encLMap 3 Ax1 nx1 cx1 x.Maps) ∧ (SlR w10 Bx2 encAway 2 Ax2 nx2 cx2 x.Away) ∧ (SlO w10 w.heap.size encI 1 3 (pA g9) 0 0 (selL (ofM r) Away.Reader (x.Away.take 0))) ∧ (¬ (pA g9) = some ⟨g1, 0, none⟩) ∧ (0 ≤ nx2)
  exact ⟨(((Lo.refl w).lo hk4).lo hk12), hb6.lo hk12, ((hx1.lo hk4).lo hk12), ((hx2.lo hk4).lo hk12), (SlO.eqv (hO13.down) (by rfl)), (fun e' => by have := hO13.base_le e'; omega), (by (try dsimp only); omega)⟩
 ·rintro ⟨k, A18, n18, c18⟩ f19 w20 hP22
  obtain ⟨hB21, hm23, hm24, hm25, hO26, hd28, hi27⟩ : (Lo w w20) ∧ (Blk w20 g1 34 (cLb Ax1 nx1 cx1 Ax2 nx2 cx2 x)) ∧ (SlR w20 Bx1 encLMap 3 Ax1 nx1 cx1 x.Maps) ∧ (SlR w20 Bx2 encAway 2 Ax2 nx2 cx2 x.Away) ∧ (SlO w20 w.heap.size encI 1 3 A18 n18 c18 (selL (ofM r) Away.Reader (x.Away.take k))) ∧ (¬ A18 = some ⟨g1, 0, none⟩) ∧ (k ≤ nx2) := hP22
  refine (?_ : W _ _ _ _ _ (act _ (sets f19 [(1, .int .i64 r), (2, .pointer (pA g1)), (4, .slice none 0 0), (5, .slice A18 n18 c18), (6, .int .i64 (k : Int))])) _)
  have hzw20 := hB21.size
  have hl29 := hm23.lt
  have hl30 := hO26.len
  have hl31 := hO26.rd.bound
  have hq32 := sel_lenT x.Away k (ofM r) Away.Reader
  refine Ws (Ws (Wr (Q (mI rfl) <| Q (fA fa34_1 rfl) <| Q (lB sca32 rfl hm23 rfl) <| Q (r_len und32 rfl) <| Q (r_lt rfl rfl) <| Qn (W.cond_d rfl (fun h33 => ?_) (fun h33 => ?_)))))
  ·refine W.skip (Ws (W.block (Ws (Wr (Q (fA fa34_1 rfl) <| Q (lB sca32 rfl hm23 rfl) <| Q (mI rfl) <| ?_)))))
   have hx35 := hm25.elem (i := k) (by omega)
   refine Q (r_ixR tsl32 hm25 rfl rfl (by omega)) <| Q (fA fa129_0 rfl) <| Q (r_ld (v := .int .i64 ((gt x.Away k).Map)) sca3 rfl (hm25.cell hx35 rfl)) <| Q (mI rfl) <| Q (r_eq rfl rfl) <| Qn (W.cond_d rfl (fun h36 => ?_) (fun h36 => ?_))
   ·refine Wr (Q (mL rfl) <| Q (fA fa34_1 rfl) <| Q (lB sca32 rfl hm23 rfl) <| Q (mI rfl) <| Q (r_ixR tsl32 hm25 rfl rfl (by omega)) <| Q (fA fa129_1 rfl) <| Q (r_ld (v := .int .i64 ((gt x.Away k).Reader)) sca3 rfl (hm25.cell hx35 rfl)) <| SR.lit (vs := [.int .i64 ((gt x.Away k).Reader)]) (L := ([(gt x.Away k).Reader] : List Int)) (enc := encI) tel93 (fun _ => rfl) rfl rfl rfl (by decide) ?_)
    intro g37 w38 hg39 hk40 hO41
    have hz42 := hk40.size
    refine SR.app tel93 rfl rfl (hO26.lo hk40) (hO41.rd) (fun _ => rfl) (by omega) (by omega) ?_
    intro A45 c46 w47 hk48 hO49 hN50
    have hz51 := hk48.size
    have hd53 : ¬ A45 = some ⟨g1, 0, none⟩ := fun e' => (hN50 g1 e').elim (fun h => hd28 (h.trans e')) (fun h => by have := (hm23.lo hk40).lt; omega)
    refine Q (aL rfl) <| Qn ?_
    have hm56 := (hm24.lo hk40).kp hk48 (fun b_ hb e' => by have := (hO26.lo hk40).base_le e'; omega)
    have hm57 := (hm25.lo hk40).kp hk48 (fun b_ hb e' => by have := (hO26.lo hk40).base_le e'; omega)
    refine Wr (Q (mI rfl) <| Q (r_add rfl rfl (by omega)) <| Q (aI rfl) <| Qn (⟨(k + 1, A45, n18 + 1, c46), _, rfl, (At.r rfl), (show (Lo w w47) ∧ (Blk w47 g1 34 (cLb Ax1 nx1 cx1 Ax2 nx2 cx2 x)) ∧ (SlR w47 Bx1 encLMap 3 Ax1 nx1 cx1 x.Maps) ∧ (SlR w47 Bx2 encAway 2 Ax2 nx2 cx2 x.Away) ∧ (SlO w47 w.heap.size encI 1 3 A45 (n18 + 1) c46 (selL (ofM r) Away.Reader (x.Away.take (k + 1)))) ∧ (¬ A45 = some ⟨g1, 0, none⟩) ∧ (k + 1 ≤ nx2) from ⟨((hB21.lo hk40).step hk48 (fun i_ hi_ e' => by have := (hO26.lo hk40).base_le e'; first | omega | exact e' | exact .inl e' | exact .inr e')), ((hm23.lo hk40).kp hk48 (fun e' => hd28 e')), hm56, hm57, (SlO.eqv hO49 (by first | exact sel_yes (by omega) (decide_eq_true ‹_›) | exact sel_no (by omega) (decide_eq_false ‹_›))), hd53, ?_⟩), ?_⟩))
    ·exact (by (try dsimp only); omega)
    ·exact (by (try dsimp only); omega)
   ·refine W.skip (Wr (Q (mI rfl) <| Q (r_add rfl rfl (by omega)) <| Q (aI rfl) <| Qn (⟨(k + 1, A18, n18, c18), _, rfl, (At.r rfl), (show (Lo w w20) ∧ (Blk w20 g1 34 (cLb Ax1 nx1 cx1 Ax2 nx2 cx2 x)) ∧ (SlR w20 Bx1 encLMap 3 Ax1 nx1 cx1 x.Maps) ∧ (SlR w20 Bx2 encAway 2 Ax2 nx2 cx2 x.Away) ∧ (SlO w20 w.heap.size encI 1 3 A18 n18 c18 (selL (ofM r) Away.Reader (x.Away.take (k + 1)))) ∧ (¬ A18 = some ⟨g1, 0, none⟩) ∧ (k + 1 ≤ nx2) from ⟨hB21, hm23, hm24, hm25, (SlO.eqv hO26 (by first | exact sel_yes (by omega) (decide_eq_true ‹_›) | exact sel_no (by omega) (decide_eq_false ‹_›))), hd28, ?_⟩), ?_⟩)))
    ·exact (by (try dsimp only); omega)
    ·exact (by (try dsimp only); omega)
  ·refine W.exit (xin_here (Ws (Wr (Q (mL rfl) <| Q (aL rfl) <| Qn (W.ret (ret1 rfl (v := .slice _ _ _) rfl (⟨A18, n18, c18, eR rfl, (SlO.eqv (hO26.down) (by exact sel_end (by omega))), hB21⟩)))))))
theorem c_spec_l32Text (w : World) (x : Library) {Ax1 : Option Addr} {nx1 cx1 Bx1 : Nat} (hx1 : SlR w Bx1 encLMap 3 Ax1 nx1 cx1 x.Maps) {Ax2 : Option Addr} {nx2 cx2 Bx2 : Nat} (hx2 : SlR w Bx2 encAway 2 Ax2 nx2 cx2 x.Away) (i : Int) (hp0 : LibOK x) (hp1 : 0 ≤ i ∧ i < (nx1 : Int)) : Calls Tryz.prog 76 #[.agg (List.toArray (cLb Ax1 nx1 cx1 Ax2 nx2 cx2 x)), .int .i64 i] w fun e w' => e = .returned (str (textL x i)) ∧ Lo w w' := by
 refine calls_W 27 Tryz.func76 rfl rfl rfl ?_
 have hbdx1 := hx1.bound
 have hlex1 := hx1.len
 have hBbx1 := hx1.bd
 have hbdx2 := hx2.bound
 have hlex2 := hx2.len
 have hBbx2 := hx2.bd
 have hla := lib_len hp0
 refine Ws (Wr (SR.box (v := .agg (List.toArray _)) (l := (cLb Ax1 nx1 cx1 Ax2 nx2 cx2 x)) rfl rfl ?_))
 intro g1 w2 hg3 hk4 hs5 hb6
 refine Q (r_as (v := str ([] : List UInt8)) rfl) <| Qn (Ws (Wr (Q (fA fa34_0 rfl) <| Q (lB sca31 rfl hb6 rfl) <| Q (mI rfl) <| ?_)))
 have hx10 := (hx1.lo hk4).elem (i := i.toNat) (by omega)
 have hq11 := maps_rng ‹LibOK x›.1.1 hx10
 refine Q (r_ixR tsl31 (hx1.lo hk4) rfl rfl (by omega)) <| Q (r_lda (l := encLMap (gt x.Maps i.toNat)) agg102 rfl (fun _ _ hu => (hx1.lo hk4).cell hx10 hu) ((hx1.lo hk4).esz _)) <| SR.alloc (l := [.int .i64 0, .int .i64 0, .int .i64 0]) tz102 rfl ?_
 intro g12 w13 hg14 hk15 hs16 hb17
 refine Qw (o := 0) (vs := [.int .i64 ((gt x.Maps i.toNat).Id), .int .i64 ((gt x.Maps i.toNat).Copies), .int .i64 ((gt x.Maps i.toNat).Torn)]) agg102.2 rfl rfl rfl rfl hb17 ler rfl ?_
 intro w20 hk21 hs22 hb23
 refine Qn (Ws (W.regA (Lo w20) (fun f' w' => ∃ (A47 : Option Addr) (n48 : Nat) (c49 : Nat), At f' [(4, str (((((Lib.itoa ((gt x.Maps i.toNat).Copies)) ++ ([32, 116, 111, 114, 110, 32] : List UInt8)) ++ (Lib.itoa ((gt x.Maps i.toNat).Torn))) ++ ([32, 97, 119, 97, 121, 32] : List UInt8)) ++ (Lib.itoa (n48 : Int))))] ∧ (Lo w20 w') ∧ ((Lib.itoa ((gt x.Maps i.toNat).Copies)).length ≤ 21) ∧ ((Lib.itoa ((gt x.Maps i.toNat).Torn)).length ≤ 21) ∧ (n48 = (selL (ofM ((gt x.Maps i.toNat).Id)) Away.Reader x.Away).length) ∧ ((n48 : Int) ≤ 9223372036854775807) ∧ ((selL (ofM ((gt x.Maps i.toNat).Id)) Away.Reader x.Away).length ≤ x.Away.length) ∧ ((Lib.itoa (n48 : Int)).length ≤ 21)) mo ?_ ?_))
 ·intro w63 hk64
  have hz65 := hk64.size
  refine Ak 0 rfl hk64 (fun w' hw' => fA fa102_1 rfl) <| Ak 1 rfl hk64 (fun w' hw' => r_ld (v := .int .i64 ((gt x.Maps i.toNat).Copies)) sca3 rfl ((hb23.lo hw').cell rfl)) <| Ak 4 rfl hk64 (fun w' hw' => fA fa102_2 rfl) <| Ak 5 rfl hk64 (fun w' hw' => r_ld (v := .int .i64 ((gt x.Maps i.toNat).Torn)) sca3 rfl ((hb23.lo hw').cell rfl)) <| Ak 9 rfl hk64 (fun w' hw' => r_lda (l := (cLb Ax1 nx1 cx1 Ax2 nx2 cx2 x)) agg34 rfl (fun _ _ hu => (((hb6.lo hk15).kn hk21).lo hw').cell hu) rfl) <| Ak 10 rfl hk64 (fun w' hw' => fA fa102_0 rfl) <| Ak 11 rfl hk64 (fun w' hw' => r_ld (v := .int .i64 ((gt x.Maps i.toNat).Id)) sca3 rfl ((hb23.lo hw').cell rfl)) <| Ab 2 rfl (Qv ent75 (c_spec_l1Num w63 ((gt x.Maps i.toNat).Copies) (by omega)) rfl fun w67 hk68 hz69 => ?_)
  have hS71 := hk64.lo hk68
  have hq72 : (Lib.itoa ((gt x.Maps i.toNat).Copies)).length ≤ 21 := itoa_len (n := (gt x.Maps i.toNat).Copies) (by omega) (by omega)
  refine Qn ⟨hS71, _, rfl, (Ak 3 rfl hS71 (fun w' hw' => r_cat rfl rfl (by first | omega | (simp only [List.length_append, List.length_cons, List.length_nil, List.length_take, List.length_drop]; omega) | (simp only [List.length_append, List.length_cons, List.length_nil, List.length_take, List.length_drop] at *; omega))) <| Ab 6 rfl (Qv ent75 (c_spec_l1Num w67 ((gt x.Maps i.toNat).Torn) (by omega)) rfl fun w73 hk74 hz75 => ?_))⟩
  have hS77 := hS71.lo hk74
  have hq78 : (Lib.itoa ((gt x.Maps i.toNat).Torn)).length ≤ 21 := itoa_len (n := (gt x.Maps i.toNat).Torn) (by omega) (by omega)
  refine Qn ⟨hS77, _, rfl, (Ak 7 rfl hS77 (fun w' hw' => r_cat rfl rfl (by first | omega | (simp only [List.length_append, List.length_cons, List.length_nil, List.length_take, List.length_drop]; omega) | (simp only [List.length_append, List.length_cons, List.length_nil, List.length_take, List.length_drop] at *; omega))) <| Ak 8 rfl hS77 (fun w' hw' => r_cat rfl rfl (by first | omega | (simp only [List.length_append, List.length_cons, List.length_nil, List.length_take, List.length_drop]; omega) | (simp only [List.length_append, List.length_cons, List.length_nil, List.length_take, List.length_drop] at *; omega))) <| Ab 12 rfl (SR.call ent128 (c_spec_l32At w73 x ((((((hx1.lo hk4).lo hk15).kn hk21).lo hk64).lo hk68).lo hk74) ((((((hx2.lo hk4).lo hk15).kn hk21).lo hk64).lo hk68).lo hk74) ((gt x.Maps i.toNat).Id) (by omega)) rfl ?_))⟩
  rintro e w79 ⟨A81, n82, c83, rfl, hO84, hk80⟩
  refine ⟨_, rfl, ?_⟩
  have hz85 := hk80.size
  have hS87 := hS77.lo hk80
  have hl88 := hO84.len
  have hl89 := hO84.rd.bound
  have hq90 := sel_len x.Away (ofM ((gt x.Maps i.toNat).Id)) Away.Reader
  refine Qn ⟨hS87, _, rfl, (Ak 13 rfl hS87 (fun w' hw' => r_len und93 rfl) <| Ab 14 rfl (Qv ent75 (c_spec_l1Num w79 (n82 : Int) (by omega)) rfl fun w91 hk92 hz93 => ?_))⟩
  have hS95 := hS87.lo hk92
  have hq96 : (Lib.itoa (n82 : Int)).length ≤ 21 := itoa_len (n := (n82 : Int)) (by omega) (by omega)
  refine Qn ⟨hS95, _, rfl, (Ak 15 rfl hS95 (fun w' hw' => r_cat rfl rfl (by first | omega | (simp only [List.length_append, List.length_cons, List.length_nil, List.length_take, List.length_drop]; omega) | (simp only [List.length_append, List.length_cons, List.length_nil, List.length_take, List.length_drop] at *; omega))) <| Ak 16 rfl hS95 (fun w' hw' => r_as (v := str _) rfl) <| AH.done (by kernel_rfl) (⟨A81, n82, c83, ⟨rfl, trivial⟩, hS95, hq72, hq78, hl88, hl89, hq90, hq96⟩))⟩
 rintro f97 w98 ⟨A47, n48, c49, hat100, hR99, hq38, hq44, hl54, hl55, hq56, hq62⟩
 rw [← sets_of_at hat100]
 have hz101 := hR99.size
 refine W.ret (ret1 rfl (v := str _) rfl (⟨eR (eS (by unfold textL textM; rw [← ‹_ = (selL _ _ _).length›])), (((((Lo.refl w).lo hk4).lo hk15).new hk21).lo hR99)⟩))
theorem c_spec_MapText (w : World) (x : Library) {Ax1 : Option Addr} {nx1 cx1 Bx1 : Nat} (hx1 : SlR w Bx1 encLMap 3 Ax1 nx1 cx1 x.Maps) {Ax2 : Option Addr} {nx2 cx2 Bx2 : Nat} (hx2 : SlR w Bx2 encAway 2 Ax2 nx2 cx2 x.Away) (id : Int) : Calls Tryz.prog 176 #[.agg (List.toArray (cLb Ax1 nx1 cx1 Ax2 nx2 cx2 x)), .int .i64 id] w fun e w' => e = .returned (.tuple (List.toArray [str ((mapT x id).1), .bool ((mapT x id).2)])) ∧ Lo w w' := by
 refine calls_W 20 Tryz.func176 rfl rfl rfl ?_
 have hbdx1 := hx1.bound
 have hlex1 := hx1.len
 have hBbx1 := hx1.bd
 have hbdx2 := hx2.bound
 have hlex2 := hx2.len
 have hBbx2 := hx2.bd
 refine Ws (Wr (SR.box (v := .agg (List.toArray _)) (l := (cLb Ax1 nx1 cx1 Ax2 nx2 cx2 x)) rfl rfl ?_))
 intro g1 w2 hg3 hk4 hs5 hb6
 refine Q (r_as (v := str ([] : List UInt8)) rfl) <| Q (aB rfl) <| Qn (Ws (Wr (Q (lG agg34 rfl hb6 rfl) <| Q (mI rfl) <| Qv ent165 (c_spec_l32Map w2 x (hx1.lo hk4) (hx2.lo hk4) id) rfl fun w9 hk10 hz11 => ?_)))
 have hq13 : idxF (hasId id) x.Maps < (x.Maps.length : Int) ∧ -1 ≤ idxF (hasId id) x.Maps := idx_lt
 refine Q (aI rfl) <| Qn (Ws (Ws ?_))
 have hm14 := (hx1.lo hk4).lo hk10
 have hm15 := (hx2.lo hk4).lo hk10
 refine W.regJS (fun f' w' => At f' [(2, .pointer (pA g1)), (4, str ([] : List UInt8)), (5, .bool false), (6, .int .i64 (idxF (hasId id) x.Maps)), (16, .bool (decide ((¬ (LibOK x)) ∨ ((idxF (hasId id) x.Maps) < 0))))] ∧ Lo w9 w') ?_ ?_
 ·refine Q (lG agg34 rfl (hb6.lo hk10) rfl) <| Qv ent80 (c_spec_l32Good w9 x hm14 hm15) rfl fun w16 hk17 hz18 => (Q (r_not rfl) <| Q (mB rfl) <| SR.splitN (fun h20 => ?_) (fun h20 => ?_))
  ·refine Qs rfl <| Qs rfl <| Q (r_pick true rfl (v := .bool true) rfl) <| Qn (⟨_, rfl, ⟨⟨rfl, rfl, rfl, rfl, (eDT ((jmf h20).1 trivial)), trivial⟩, hk17⟩⟩)
  ·have hq21 := And.left h20
   have hq22 := lib_len h20
   have hq23 := And.left hq21
   have hq24 := And.right hq21
   refine Qg rfl (mI rfl) <| Qg rfl (r_lt rfl rfl) <| Q (r_pick false rfl (v := .bool _) rfl) <| Qn (⟨_, rfl, ⟨⟨rfl, rfl, rfl, rfl, (eDD (jmt h20)), trivial⟩, hk17⟩⟩)
 rintro f25 w26 ⟨hat27, hk28⟩
 rw [← sets_of_at hat27]
 have hz29 := hk28.size
 have hB30 := (((Lo.refl w).lo hk4).lo hk10).lo hk28
 refine W.cond_d rfl (fun h31 => ?_) (fun h31 => ?_)
 ·refine Ws (Wr (Q (r_as (v := str ([] : List UInt8)) rfl) <| Q (aB rfl) <| Qn (W.ret (ret2 rfl (v := str _) (v' := .bool _) rfl rfl (⟨eR (eT2 (eS (by first | (rw [mapT_noI ‹_›]; done) | (rw [mapT_noS ‹_›]; done) | (rw [mapT_eqI ‹bsF _ _ _› ‹LibOK _›, ← ‹_ = (selL _ _ _).length›]; first | done | rfl) | (rw [mapT_eqS ⟨‹LibOK x›, by omega⟩]; first | done | rfl))) (eB (by first | (rw [mapT_noI ‹_›]; done) | (rw [mapT_noS ‹_›]; done) | (rw [mapT_eqI ‹bsF _ _ _› ‹LibOK _›]; done) | (rw [mapT_eqS ⟨‹LibOK x›, by omega⟩]; done)))), hB30⟩)))))
 ·have hq33 : LibOK x := (Classical.not_not.1 (not_or.1 h31).1)
  have hq34 : ¬ ((idxF (hasId id) x.Maps) < 0) := (not_or.1 h31).2
  have hq35 := And.left hq33
  have hq36 := lib_len hq33
  have hq37 := Int.not_lt.1 hq34
  have hq38 := And.left hq35
  have hq39 := And.right hq35
  refine W.skip (Ws (Wr (Q (lG agg34 rfl ((hb6.lo hk10).lo hk28) rfl) <| Q (mI rfl) <| Qv ent76 (c_spec_l32Text w26 x (hm14.lo hk28) (hm15.lo hk28) (idxF (hasId id) x.Maps) (by assumption) (by omega)) rfl fun w41 hk42 hz43 => ?_)))
  have hq45 : (textL x (idxF (hasId id) x.Maps)).length ≤ 75 := textL_len (x := x) (by assumption) (i := (idxF (hasId id) x.Maps)) (by omega)
  refine Q (aS rfl) <| Q (aB rfl) <| Qn (W.ret (ret2 rfl (v := str _) (v' := .bool _) rfl rfl (⟨eR (eT2 (eS (by first | (rw [mapT_noI ‹_›]; done) | (rw [mapT_noS ‹_›]; done) | (rw [mapT_eqI ‹bsF _ _ _› ‹LibOK _›, ← ‹_ = (selL _ _ _).length›]; first | done | rfl) | (rw [mapT_eqS ⟨‹LibOK x›, by omega⟩]; first | done | rfl))) (eB (by first | (rw [mapT_noI ‹_›]; done) | (rw [mapT_noS ‹_›]; done) | (rw [mapT_eqI ‹bsF _ _ _› ‹LibOK _›]; done) | (rw [mapT_eqS ⟨‹LibOK x›, by omega⟩]; done)))), (hB30.lo hk42)⟩)))
theorem c_impl_MapText (w : World) (x : Library) {Ax1 : Option Addr} {nx1 cx1 Bx1 : Nat} (hx1 : SlR w Bx1 encLMap 3 Ax1 nx1 cx1 x.Maps) {Ax2 : Option Addr} {nx2 cx2 Bx2 : Nat} (hx2 : SlR w Bx2 encAway 2 Ax2 nx2 cx2 x.Away) (id : Int) (hp0 : (nx1 : Int) ≤ 1048576) (hE : EnvW w) : Calls Tryz.prog 73 #[.agg (List.toArray (cLb Ax1 nx1 cx1 Ax2 nx2 cx2 x)), .int .i64 id] w fun e w' => e = .returned (.tuple (List.toArray [str ((mapT x id).1), .bool ((mapT x id).2)])) ∧ Lo w w' := by
 refine calls_W 42 Tryz.func73 rfl rfl rfl ?_
 have hbdx1 := hx1.bound
 have hlex1 := hx1.len
 have hBbx1 := hx1.bd
 have hbdx2 := hx2.bound
 have hlex2 := hx2.len
 have hBbx2 := hx2.bd
 refine Ws (Wr (SR.box (v := .agg (List.toArray _)) (l := (cLb Ax1 nx1 cx1 Ax2 nx2 cx2 x)) rfl rfl ?_))
 intro g1 w2 hg3 hk4 hs5 hb6
 refine Q (r_as (v := str ([] : List UInt8)) rfl) <| Q (aB rfl) <| Qn (Ws (Wr (Q (lG agg34 rfl hb6 rfl) <| Q (mI rfl) <| Qv ent121 (c__impl_Library__mapAt w2 x (hx1.lo hk4) (hx2.lo hk4) id (by omega)) rfl fun w9 hk10 hz11 => ?_)))
 have hq13 : bsP cmpM id x.Maps ≤ x.Maps.length := bsP_le
 refine Q (mT rfl) <| Q (xI rfl rfl) <| Q (xB rfl rfl) <| Q (aI rfl) <| Q (aB rfl) <| Qn (Ws (Ws ?_))
 have hm14 := (hx1.lo hk4).lo hk10
 have hm15 := (hx2.lo hk4).lo hk10
 refine W.regJS (fun f' w' => At f' [(1, .int .i64 id), (2, .pointer (pA g1)), (4, str ([] : List UInt8)), (5, .bool false), (6, .int .i64 (bsP cmpM id x.Maps : Int)), (21, .bool (decide ((¬ (bsF cmpM id x.Maps)) ∨ (¬ (LibOK x)))))] ∧ Lo w9 w') ?_ ?_
 ·refine Q (mB rfl) <| Q (r_not rfl) <| Q (mB rfl) <| SR.splitN (fun h16 => ?_) (fun h16 => ?_)
  ·refine Qs rfl <| Qs rfl <| Qs rfl <| Q (r_pick true rfl (v := .bool true) rfl) <| Qn (⟨_, rfl, ⟨⟨rfl, rfl, rfl, rfl, rfl, (eDT ((jmf h16).1 trivial)), trivial⟩, (Lo.refl _)⟩⟩)
  ·have hq17 := And.left h16
   have hq18 := And.left h16
   refine Qg rfl (lG agg34 rfl (hb6.lo hk10) rfl) <| SR.gcall rfl ent72 (c_impl_IsLibrary w9 x hm14 hm15 (by omega)) rfl ?_
   rintro e w19 ⟨rfl, hk20⟩
   refine ⟨_, rfl, ?_⟩
   have hz21 := hk20.size
   refine Qg rfl (r_not rfl) <| Q (r_pick false rfl (v := .bool _) rfl) <| Qn (⟨_, rfl, ⟨⟨rfl, rfl, rfl, rfl, rfl, (eND (jmt h16)), trivial⟩, hk20⟩⟩)
 rintro f23 w24 ⟨hat25, hk26⟩
 rw [← sets_of_at hat25]
 have hz27 := hk26.size
 have hB28 := (((Lo.refl w).lo hk4).lo hk10).lo hk26
 refine W.cond_d rfl (fun h29 => ?_) (fun h29 => ?_)
 ·refine Ws (Wr (Q (r_as (v := str ([] : List UInt8)) rfl) <| Q (aB rfl) <| Qn (W.ret (ret2 rfl (v := str _) (v' := .bool _) rfl rfl (⟨eR (eT2 (eS (by first | (rw [mapT_noI ‹_›]; done) | (rw [mapT_noS ‹_›]; done) | (rw [mapT_eqI ‹bsF _ _ _› ‹LibOK _›, ← ‹_ = (selL _ _ _).length›]; first | done | rfl) | (rw [mapT_eqS ⟨‹LibOK x›, by omega⟩]; first | done | rfl))) (eB (by first | (rw [mapT_noI ‹_›]; done) | (rw [mapT_noS ‹_›]; done) | (rw [mapT_eqI ‹bsF _ _ _› ‹LibOK _›]; done) | (rw [mapT_eqS ⟨‹LibOK x›, by omega⟩]; done)))), hB28⟩)))))
 ·have hq31 : bsF cmpM id x.Maps := (Classical.not_not.1 (not_or.1 h29).1)
  have hq32 : LibOK x := (Classical.not_not.1 (not_or.1 h29).2)
  have hq33 := And.left hq31
  have hq34 := And.left hq31
  have hq35 := And.left hq32
  have hq36 := lib_len hq32
  have hq37 := And.left hq35
  have hq38 := And.right hq35
  refine W.skip (Ws ?_)
  have hm39 := (hb6.lo hk10).lo hk26
  refine Wr (Q (fA fa34_0 rfl) <| Q (lB sca31 rfl hm39 rfl) <| Q (mI rfl) <| ?_)
  have hx41 := (hm14.lo hk26).elem (i := (bsP cmpM id x.Maps : Int).toNat) (by omega)
  have hq42 := maps_rng ‹LibOK x›.1.1 hx41
  refine Q (r_ixR tsl31 (hm14.lo hk26) rfl rfl (by omega)) <| Q (r_lda (l := encLMap (gt x.Maps ((bsP cmpM id x.Maps : Int).toNat))) agg102 rfl (fun _ _ hu => (hm14.lo hk26).cell hx41 hu) ((hm14.lo hk26).esz _)) <| SR.alloc (l := [.int .i64 0, .int .i64 0, .int .i64 0]) tz102 rfl ?_
  intro g43 w44 hg45 hk46 hs47 hb48
  refine Qw (o := 0) (vs := [.int .i64 ((gt x.Maps ((bsP cmpM id x.Maps : Int).toNat)).Id), .int .i64 ((gt x.Maps ((bsP cmpM id x.Maps : Int).toNat)).Copies), .int .i64 ((gt x.Maps ((bsP cmpM id x.Maps : Int).toNat)).Torn)]) agg102.2 rfl rfl rfl rfl hb48 ler rfl ?_
  intro w51 hk52 hs53 hb54
  have hB56 := (hB28.lo hk46).new hk52
  refine Qn (Ws (W.regA (Lo w51) (fun f' w' => ∃ (A78 : Option Addr) (n79 : Nat) (c80 : Nat), At f' [(4, str (((((Lib.itoa ((gt x.Maps ((bsP cmpM id x.Maps : Int).toNat)).Copies)) ++ ([32, 116, 111, 114, 110, 32] : List UInt8)) ++ (Lib.itoa ((gt x.Maps ((bsP cmpM id x.Maps : Int).toNat)).Torn))) ++ ([32, 97, 119, 97, 121, 32] : List UInt8)) ++ (Lib.itoa (n79 : Int)))), (5, .bool true)] ∧ (Lo w51 w') ∧ ((Lib.itoa ((gt x.Maps ((bsP cmpM id x.Maps : Int).toNat)).Copies)).length ≤ 21) ∧ ((Lib.itoa ((gt x.Maps ((bsP cmpM id x.Maps : Int).toNat)).Torn)).length ≤ 21) ∧ (n79 = (selL (ofM id) Away.Reader x.Away).length) ∧ ((n79 : Int) ≤ 9223372036854775807) ∧ ((selL (ofM id) Away.Reader x.Away).length ≤ x.Away.length) ∧ ((Lib.itoa (n79 : Int)).length ≤ 21)) mo ?_ ?_))
  ·intro w94 hk95
   have hz96 := hk95.size
   have hB97 := hB56.lo hk95
   refine Ak 0 rfl hk95 (fun w' hw' => fA fa102_1 rfl) <| Ak 1 rfl hk95 (fun w' hw' => r_ld (v := .int .i64 ((gt x.Maps ((bsP cmpM id x.Maps : Int).toNat)).Copies)) sca3 rfl ((hb54.lo hw').cell rfl)) <| Ak 4 rfl hk95 (fun w' hw' => fA fa102_2 rfl) <| Ak 5 rfl hk95 (fun w' hw' => r_ld (v := .int .i64 ((gt x.Maps ((bsP cmpM id x.Maps : Int).toNat)).Torn)) sca3 rfl ((hb54.lo hw').cell rfl)) <| Ak 9 rfl hk95 (fun w' hw' => r_lda (l := (cLb Ax1 nx1 cx1 Ax2 nx2 cx2 x)) agg34 rfl (fun _ _ hu => (((hm39.lo hk46).kn hk52).lo hw').cell hu) rfl) <| Ak 10 rfl hk95 (fun w' hw' => r_mv (v := .int .i64 _) rfl) <| Ab 2 rfl (Qv ent74 (c_impl_text w94 ((gt x.Maps ((bsP cmpM id x.Maps : Int).toNat)).Copies) (by omega) (hE.lo hB97)) rfl fun w98 hk99 hz100 => ?_)
   have hB101 := hB97.lo hk99
   have hS102 := hk95.lo hk99
   have hq103 : (Lib.itoa ((gt x.Maps ((bsP cmpM id x.Maps : Int).toNat)).Copies)).length ≤ 21 := itoa_len (n := (gt x.Maps ((bsP cmpM id x.Maps : Int).toNat)).Copies) (by omega) (by omega)
   refine Qn ⟨hS102, _, rfl, (Ak 3 rfl hS102 (fun w' hw' => r_cat rfl rfl (by first | omega | (simp only [List.length_append, List.length_cons, List.length_nil, List.length_take, List.length_drop]; omega) | (simp only [List.length_append, List.length_cons, List.length_nil, List.length_take, List.length_drop] at *; omega))) <| Ab 6 rfl (Qv ent74 (c_impl_text w98 ((gt x.Maps ((bsP cmpM id x.Maps : Int).toNat)).Torn) (by omega) (hE.lo hB101)) rfl fun w104 hk105 hz106 => ?_))⟩
   have hS108 := hS102.lo hk105
   have hq109 : (Lib.itoa ((gt x.Maps ((bsP cmpM id x.Maps : Int).toNat)).Torn)).length ≤ 21 := itoa_len (n := (gt x.Maps ((bsP cmpM id x.Maps : Int).toNat)).Torn) (by omega) (by omega)
   refine Qn ⟨hS108, _, rfl, (Ak 7 rfl hS108 (fun w' hw' => r_cat rfl rfl (by first | omega | (simp only [List.length_append, List.length_cons, List.length_nil, List.length_take, List.length_drop]; omega) | (simp only [List.length_append, List.length_cons, List.length_nil, List.length_take, List.length_drop] at *; omega))) <| Ak 8 rfl hS108 (fun w' hw' => r_cat rfl rfl (by first | omega | (simp only [List.length_append, List.length_cons, List.length_nil, List.length_take, List.length_drop]; omega) | (simp only [List.length_append, List.length_cons, List.length_nil, List.length_take, List.length_drop] at *; omega))) <| Ab 11 rfl (SR.call ent126 (c__impl_Library__readersOf w104 x ((((((hm14.lo hk26).lo hk46).kn hk52).lo hk95).lo hk99).lo hk105) ((((((hm15.lo hk26).lo hk46).kn hk52).lo hk95).lo hk99).lo hk105) id (by omega)) rfl ?_))⟩
   rintro e w110 ⟨A112, n113, c114, rfl, hO115, hk111⟩
   refine ⟨_, rfl, ?_⟩
   have hz116 := hk111.size
   have hS118 := hS108.lo hk111
   have hl119 := hO115.len
   have hl120 := hO115.rd.bound
   have hq121 := sel_len x.Away (ofM id) Away.Reader
   refine Qn ⟨hS118, _, rfl, (Ak 12 rfl hS118 (fun w' hw' => r_len und93 rfl) <| Ab 13 rfl (Qv ent74 (c_impl_text w110 (n113 : Int) (by omega) (hE.lo ((hB101.lo hk105).lo hk111))) rfl fun w122 hk123 hz124 => ?_))⟩
   have hS126 := hS118.lo hk123
   have hq127 : (Lib.itoa (n113 : Int)).length ≤ 21 := itoa_len (n := (n113 : Int)) (by omega) (by omega)
   refine Qn ⟨hS126, _, rfl, (Ak 14 rfl hS126 (fun w' hw' => r_cat rfl rfl (by first | omega | (simp only [List.length_append, List.length_cons, List.length_nil, List.length_take, List.length_drop]; omega) | (simp only [List.length_append, List.length_cons, List.length_nil, List.length_take, List.length_drop] at *; omega))) <| Ak 15 rfl hS126 (fun w' hw' => r_as (v := str _) rfl) <| Ak 16 rfl hS126 (fun w' hw' => r_as (v := .bool true) rfl) <| AH.done (by kernel_rfl) (⟨A112, n113, c114, ⟨rfl, rfl, trivial⟩, hS126, hq103, hq109, hl119, hl120, hq121, hq127⟩))⟩
  rintro f128 w129 ⟨A78, n79, c80, hat131, hR130, hq69, hq75, hl85, hl86, hq87, hq93⟩
  rw [← sets_of_at hat131]
  have hz132 := hR130.size
  refine W.ret (ret2 rfl (v := str _) (v' := .bool _) rfl rfl (⟨eR (eT2 (eS (by first | (rw [mapT_noI ‹_›]; done) | (rw [mapT_noS ‹_›]; done) | (rw [mapT_eqI ‹bsF _ _ _› ‹LibOK _›, ← ‹_ = (selL _ _ _).length›]; first | done | rfl) | (rw [mapT_eqS ⟨‹LibOK x›, by omega⟩]; first | done | rfl))) (eB (by first | (rw [mapT_noI ‹_›]; done) | (rw [mapT_noS ‹_›]; done) | (rw [mapT_eqI ‹bsF _ _ _› ‹LibOK _›]; done) | (rw [mapT_eqS ⟨‹LibOK x›, by omega⟩]; done)))), (hB56.lo hR130)⟩))
end Go.Proofs.YtndcchndcghmoaaGreatDoor
namespace Go.Proofs.YtndcchndcghmoaaGreatDoor
open Go Go.RowKit Fw
set_option maxRecDepth 10000
set_option maxHeartbeats 2000000
set_option linter.unusedVariables false
theorem c_spec_CopiesThere (w : World) (x : Library) {Ax1 : Option Addr} {nx1 cx1 Bx1 : Nat} (hx1 : SlR w Bx1 encLMap 3 Ax1 nx1 cx1 x.Maps) {Ax2 : Option Addr} {nx2 cx2 Bx2 : Nat} (hx2 : SlR w Bx2 encAway 2 Ax2 nx2 cx2 x.Away) (hp0 : (nx1 : Int) ≤ 1048576) : Calls Tryz.prog 135 #[.agg (List.toArray (cLb Ax1 nx1 cx1 Ax2 nx2 cx2 x))] w fun e w' => e = .returned (.tuple (List.toArray [.int .i64 (if LibOK x then sumC x.Maps else 0), .bool (decide (LibOK x))])) ∧ Lo w w' := by
 refine calls_W 9 Tryz.func135 rfl rfl rfl ?_
 have hbdx1 := hx1.bound
 have hlex1 := hx1.len
 have hBbx1 := hx1.bd
 have hbdx2 := hx2.bound
 have hlex2 := hx2.len
 have hBbx2 := hx2.bd
 refine Ws (Wr (SR.box (v := .agg (List.toArray _)) (l := (cLb Ax1 nx1 cx1 Ax2 nx2 cx2 x)) rfl rfl ?_))
 intro g1 w2 hg3 hk4 hs5 hb6
 refine Q (aI rfl) <| Q (aB rfl) <| Qn (Ws (Ws (Wr (Q (lG agg34 rfl hb6 rfl) <| Qv ent80 (c_spec_l32Good w2 x (hx1.lo hk4) (hx2.lo hk4)) rfl fun w9 hk10 hz11 => ?_))))
 have hB12 := ((Lo.refl w).lo hk4).lo hk10
 refine Q (r_not rfl) <| Qn (W.cond_n rfl (fun h13 => ?_) (fun h13 => ?_))
 ·refine Ws (Wr (Q (aI rfl) <| Q (aB rfl) <| Qn (W.ret (ret2 rfl (v := .int .i64 _) (v' := .bool _) rfl rfl (⟨eR (eT2 (eI (by first | assumption | simp [*])) (eDF h13)), hB12⟩)))))
 ·have hq16 := And.left h13
  have hq17 := lib_len h13
  have hq18 := And.left hq16
  have hq19 := And.right hq16
  refine W.skip (Ws (Wr (Q (lG agg34 rfl (hb6.lo hk10) rfl) <| Qv ent132 (c_spec_l32There w9 x ((hx1.lo hk4).lo hk10) ((hx2.lo hk4).lo hk10) false (by first | assumption | exact MTo.end_ (And.right ‹_ ∧ MTo _ _›) (by omega)) (by omega)) rfl fun w22 hk23 hz24 => ?_)))
  have hq26 : 0 ≤ (if false = true then sumT x.Maps else sumC x.Maps) ∧ (if false = true then sumT x.Maps else sumC x.Maps) ≤ 792 := there_rng false ‹MapsOK _› (by omega)
  refine Q (aI rfl) <| Q (aB rfl) <| Qn (W.ret (ret2 rfl (v := .int .i64 _) (v' := .bool _) rfl rfl (⟨eR (eT2 (eI (by first | assumption | simp [*])) (eDT h13)), (hB12.lo hk23)⟩)))
theorem c_impl_MapsAt (w : World) (x : Library) {Ax1 : Option Addr} {nx1 cx1 Bx1 : Nat} (hx1 : SlR w Bx1 encLMap 3 Ax1 nx1 cx1 x.Maps) {Ax2 : Option Addr} {nx2 cx2 Bx2 : Nat} (hx2 : SlR w Bx2 encAway 2 Ax2 nx2 cx2 x.Away) (r : Int) (hp0 : (nx1 : Int) ≤ 1048576) : Calls Tryz.prog 153 #[.agg (List.toArray (cLb Ax1 nx1 cx1 Ax2 nx2 cx2 x)), .int .i64 r] w fun e w' => ∃ (A1' : Option Addr) (n1' c1' : Nat), e = .returned (.tuple (List.toArray [.slice A1' n1' c1', .bool (decide (LibOK x ∧ (1 ≤ r ∧ r ≤ 999)))])) ∧ SlO w' w.heap.size encI 1 3 A1' n1' c1' (if LibOK x ∧ (1 ≤ r ∧ r ≤ 999) then selL (atR r) Away.Map x.Away else []) ∧ Lo w w' := by
 refine calls_W 35 Tryz.func153 rfl rfl rfl ?_
 have hbdx1 := hx1.bound
 have hlex1 := hx1.len
 have hBbx1 := hx1.bd
 have hbdx2 := hx2.bound
 have hlex2 := hx2.len
 have hBbx2 := hx2.bd
 refine Ws (Wr (SR.box (v := .agg (List.toArray _)) (l := (cLb Ax1 nx1 cx1 Ax2 nx2 cx2 x)) rfl rfl ?_))
 intro g1 w2 hg3 hk4 hs5 hb6
 refine Q (r_as (v := .slice none 0 0) rfl) <| Q (aB rfl) <| Qn (Ws (Ws (W.regJS (fun f' w' => At f' [(1, .int .i64 r), (2, .pointer (pA g1)), (4, .slice none 0 0), (5, .bool false), (16, .bool (decide ((¬ (LibOK x)) ∨ (¬ (1 ≤ r ∧ r ≤ 999)))))] ∧ Lo w2 w') ?_ ?_)))
 ·refine Q (lG agg34 rfl hb6 rfl) <| Qv ent72 (c_impl_IsLibrary w2 x (hx1.lo hk4) (hx2.lo hk4) (by omega)) rfl fun w9 hk10 hz11 => (Q (r_not rfl) <| Q (mB rfl) <| SR.splitN (fun h13 => ?_) (fun h13 => ?_))
  ·refine Qs rfl <| Qs rfl <| Qs rfl <| Q (r_pick true rfl (v := .bool true) rfl) <| Qn (⟨_, rfl, ⟨⟨rfl, rfl, rfl, rfl, (eDT ((jmf h13).1 trivial)), trivial⟩, hk10⟩⟩)
  ·have hq14 := And.left h13
   have hq15 := lib_len h13
   have hq16 := And.left hq14
   have hq17 := And.right hq14
   refine Qg rfl (mI rfl) <| SR.gcall rfl ent122 (c_impl_isId w9 r) rfl ?_
   rintro e w18 ⟨rfl, hk19⟩
   refine ⟨_, rfl, ?_⟩
   have hz20 := hk19.size
   refine Qg rfl (r_not rfl) <| Q (r_pick false rfl (v := .bool _) rfl) <| Qn (⟨_, rfl, ⟨⟨rfl, rfl, rfl, rfl, (eND (jmt h13)), trivial⟩, (hk10.trans hk19)⟩⟩)
 rintro f22 w23 ⟨hat24, hk25⟩
 rw [← sets_of_at hat24]
 have hz26 := hk25.size
 have hB27 := ((Lo.refl w).lo hk4).lo hk25
 refine W.cond_d rfl (fun h28 => ?_) (fun h28 => ?_)
 ·refine Ws (Wr (Q (r_as (v := .slice none 0 0) rfl) <| Q (aB rfl) <| Qn (W.ret (ret2 rfl (v := .slice none 0 0) (v' := .bool _) rfl rfl (⟨none, 0, 0, eR (eT2 rfl (eDF (by first | assumption | exact ⟨‹_›, ‹_›⟩ | exact not_and_of_not_or_not ‹_›))), (SlO.eqv (SlO.nil (e := 3) (enc := encI) (fun _ => rfl) (by omega)) (by first | (rw [if_pos (by first | assumption | exact ⟨‹_›, ‹_›⟩)]; exact sel_end (by omega)) | (rw [if_neg (by first | assumption | exact not_and_of_not_or_not ‹_›)]))), hB27⟩)))))
 ·have hq31 : LibOK x := (Classical.not_not.1 (not_or.1 h28).1)
  have hq32 : 1 ≤ r ∧ r ≤ 999 := (Classical.not_not.1 (not_or.1 h28).2)
  have hq33 := And.left hq31
  have hq34 := lib_len hq31
  have hq35 := And.left hq33
  have hq36 := And.right hq33
  refine W.skip (Ws (Wr (Q (r_as (v := .slice none 0 0) rfl) <| Qn (Ws (Ws (Wr (Q (fA fa34_1 rfl) <| Q (lB sca32 rfl (hb6.lo hk25) rfl) <| Q (r_len und32 rfl) <| Q (r_mv (v := .int .i64 0) rfl) <| Qn (W.block (W.loop (σ := Nat × (Option Addr) × Nat × Nat) (fun g => [(1, .int .i64 r), (4, .slice none 0 0), (5, .bool false), (6, .slice g.2.1 g.2.2.1 g.2.2.2), (18, .slice Ax2 nx2 cx2), (19, .int .i64 (nx2 : Int)), (20, .int .i64 (g.1 : Int))]) (fun g w' => (Lo w w') ∧ (SlR w' Bx2 encAway 2 Ax2 nx2 cx2 x.Away) ∧ (SlO w' w.heap.size encI 1 3 g.2.1 g.2.2.1 g.2.2.2 (selL (atR r) Away.Map (x.Away.take g.1))) ∧ (g.1 ≤ nx2)) (fun g => nx2 - g.1) (0, (none : Option Addr), 0, 0) ?_ ?_ ?_)))))))))
  ·exact (At.r rfl)
  ·exact ⟨hB27, ((hx2.lo hk4).lo hk25), (SlO.eqv (SlO.nil (base := w.heap.size) (e := 3) (enc := encI) (fun _ => rfl) (by omega)) (by rfl)), (by (try dsimp only); omega)⟩
  ·rintro ⟨k, A39, n39, c39⟩ f40 w41 hP43
   obtain ⟨hB42, hm44, hO45, hi46⟩ : (Lo w w41) ∧ (SlR w41 Bx2 encAway 2 Ax2 nx2 cx2 x.Away) ∧ (SlO w41 w.heap.size encI 1 3 A39 n39 c39 (selL (atR r) Away.Map (x.Away.take k))) ∧ (k ≤ nx2) := hP43
   refine (?_ : W _ _ _ _ _ (act _ (sets f40 [(1, .int .i64 r), (4, .slice none 0 0), (5, .bool false), (6, .slice A39 n39 c39), (18, .slice Ax2 nx2 cx2), (19, .int .i64 (nx2 : Int)), (20, .int .i64 (k : Int))])) _)
   have hzw41 := hB42.size
   have hl47 := hO45.len
   have hl48 := hO45.rd.bound
   have hq49 := sel_lenT x.Away k (atR r) Away.Map
   refine Ws (Wr (Q (r_lt rfl rfl) <| Qn (Ws (W.cond_d rfl (fun h50 => ?_) (fun h50 => ?_)))))
   ·refine W.skip (Ws (W.block (Ws ?_)))
    have hx52 := hm44.elem (i := k) (by omega)
    refine Wr (Q (r_ixR tsl32 hm44 rfl rfl (by omega)) <| Q (r_lda (l := encAway (gt x.Away k)) agg129 rfl (fun _ _ hu => hm44.cell hx52 hu) (hm44.esz _)) <| SR.alloc (l := [.int .i64 0, .int .i64 0]) tz129 rfl ?_)
    intro g53 w54 hg55 hk56 hs57 hb58
    refine Qw (o := 0) (vs := [.int .i64 ((gt x.Away k).Map), .int .i64 ((gt x.Away k).Reader)]) agg129.2 rfl rfl rfl rfl hb58 ler rfl ?_
    intro w62 hk63 hs64 hb65
    have hB67 := (hB42.lo hk56).new hk63
    refine Qn (Ws ?_)
    have hm68 := (hO45.lo hk56).kd hk63 (SlO.ne (g := g53) hO45)
    have hm69 := (hm44.lo hk56).kn hk63
    refine Wr (Q (fA fa129_1 rfl) <| Q (lB sca3 rfl hb65 rfl) <| Q (mI rfl) <| Q (r_eq rfl rfl) <| Qn (W.cond_d rfl (fun h70 => ?_) (fun h70 => ?_)))
    ·refine Wr (Q (mL rfl) <| Q (fA fa129_0 rfl) <| Q (lB sca3 rfl hb65 rfl) <| SR.lit (vs := [.int .i64 ((gt x.Away k).Map)]) (L := ([(gt x.Away k).Map] : List Int)) (enc := encI) tel93 (fun _ => rfl) rfl rfl rfl (by decide) ?_)
     intro g71 w72 hg73 hk74 hO75
     have hz76 := hk74.size
     refine SR.app tel93 rfl rfl (hm68.lo hk74) (hO75.rd) (fun _ => rfl) (by omega) (by omega) ?_
     intro A79 c80 w81 hk82 hO83 hN84
     have hz85 := hk82.size
     refine Q (aL rfl) <| Qn ?_
     have hm89 := (hm69.lo hk74).kp hk82 (fun b_ hb e' => by have := (hm68.lo hk74).base_le e'; omega)
     refine Wr (Q (r_add rfl rfl (by omega)) <| Q (mI rfl) <| Qn (⟨(k + 1, A79, n39 + 1, c80), _, rfl, (At.r rfl), ⟨((hB67.lo hk74).step hk82 (fun i_ hi_ e' => by have := (hm68.lo hk74).base_le e'; first | omega | exact e' | exact .inl e' | exact .inr e')), hm89, (SlO.eqv hO83 (by first | exact sel_yes (by omega) (decide_eq_true ‹_›) | exact sel_no (by omega) (decide_eq_false ‹_›))), ?_⟩, ?_⟩))
     ·exact (by (try dsimp only); omega)
     ·exact (by (try dsimp only); omega)
    ·refine W.skip (Wr (Q (r_add rfl rfl (by omega)) <| Q (mI rfl) <| Qn (⟨(k + 1, A39, n39, c39), _, rfl, (At.r rfl), ⟨hB67, hm69, (SlO.eqv hm68 (by first | exact sel_yes (by omega) (decide_eq_true ‹_›) | exact sel_no (by omega) (decide_eq_false ‹_›))), ?_⟩, ?_⟩)))
     ·exact (by (try dsimp only); omega)
     ·exact (by (try dsimp only); omega)
   ·refine W.exit (xin_here (Ws (Wr (Q (mL rfl) <| Q (aL rfl) <| Q (aB rfl) <| Qn (W.ret (ret2 rfl (v := .slice _ _ _) (v' := .bool _) rfl rfl (⟨A39, n39, c39, eR (eT2 rfl (eDT (by first | assumption | exact ⟨‹_›, ‹_›⟩ | exact not_and_of_not_or_not ‹_›))), (SlO.eqv (hO45.down) (by first | (rw [if_pos (by first | assumption | exact ⟨‹_›, ‹_›⟩)]; exact sel_end (by omega)) | (rw [if_neg (by first | assumption | exact not_and_of_not_or_not ‹_›)]))), hB42⟩)))))))
theorem c_spec_MapsAt (w : World) (x : Library) {Ax1 : Option Addr} {nx1 cx1 Bx1 : Nat} (hx1 : SlR w Bx1 encLMap 3 Ax1 nx1 cx1 x.Maps) {Ax2 : Option Addr} {nx2 cx2 Bx2 : Nat} (hx2 : SlR w Bx2 encAway 2 Ax2 nx2 cx2 x.Away) (r : Int) (hp0 : (nx1 : Int) ≤ 1048576) : Calls Tryz.prog 140 #[.agg (List.toArray (cLb Ax1 nx1 cx1 Ax2 nx2 cx2 x)), .int .i64 r] w fun e w' => ∃ (A1' : Option Addr) (n1' c1' : Nat), e = .returned (.tuple (List.toArray [.slice A1' n1' c1', .bool (decide (LibOK x ∧ (1 ≤ r ∧ r ≤ 999)))])) ∧ SlO w' w.heap.size encI 1 3 A1' n1' c1' (if LibOK x ∧ (1 ≤ r ∧ r ≤ 999) then selL (atR r) Away.Map x.Away else []) ∧ Lo w w' := by
 refine calls_W 43 Tryz.func140 rfl rfl rfl ?_
 have hbdx1 := hx1.bound
 have hlex1 := hx1.len
 have hBbx1 := hx1.bd
 have hbdx2 := hx2.bound
 have hlex2 := hx2.len
 have hBbx2 := hx2.bd
 refine Ws (Wr (SR.box (v := .agg (List.toArray _)) (l := (cLb Ax1 nx1 cx1 Ax2 nx2 cx2 x)) rfl rfl ?_))
 intro g1 w2 hg3 hk4 hs5 hb6
 refine Q (r_as (v := .slice none 0 0) rfl) <| Q (aB rfl) <| Qn (Ws (Wr (SR.lit (vs := []) (L := ([] : List Int)) (enc := encI) tel93 (fun _ => rfl) rfl rfl rfl (by decide) ?_)))
 intro g9 w10 hg11 hk12 hO13
 have hz14 := hk12.size
 refine Q (aL rfl) <| Qn (Ws (Ws ?_))
 have hm16 := (hx1.lo hk4).lo hk12
 have hm17 := (hx2.lo hk4).lo hk12
 refine W.regJS (fun f' w' => At f' [(1, .int .i64 r), (2, .pointer (pA g1)), (4, .slice none 0 0), (5, .bool false), (6, .slice (pA g9) 0 0), (16, .bool (decide ((¬ (LibOK x)) ∨ (¬ (1 ≤ r ∧ r ≤ 999)))))] ∧ Lo w10 w') ?_ ?_
 ·refine Q (lG agg34 rfl (hb6.lo hk12) rfl) <| Qv ent80 (c_spec_l32Good w10 x hm16 hm17) rfl fun w18 hk19 hz20 => (Q (r_not rfl) <| Q (mB rfl) <| SR.splitN (fun h22 => ?_) (fun h22 => ?_))
  ·refine Qs rfl <| Qs rfl <| Qs rfl <| Q (r_pick true rfl (v := .bool true) rfl) <| Qn (⟨_, rfl, ⟨⟨rfl, rfl, rfl, rfl, rfl, (eDT ((jmf h22).1 trivial)), trivial⟩, hk19⟩⟩)
  ·have hq23 := And.left h22
   have hq24 := lib_len h22
   have hq25 := And.left hq23
   have hq26 := And.right hq23
   refine Qg rfl (mI rfl) <| SR.gcall rfl ent133 (c_spec_l1In w18 r 1 999) rfl ?_
   rintro e w27 ⟨rfl, hk28⟩
   refine ⟨_, rfl, ?_⟩
   have hz29 := hk28.size
   refine Qg rfl (r_not rfl) <| Q (r_pick false rfl (v := .bool _) rfl) <| Qn (⟨_, rfl, ⟨⟨rfl, rfl, rfl, rfl, rfl, (eND (jmt h22)), trivial⟩, (hk19.trans hk28)⟩⟩)
 rintro f31 w32 ⟨hat33, hk34⟩
 rw [← sets_of_at hat33]
 have hz35 := hk34.size
 have hB36 := (((Lo.refl w).lo hk4).lo hk12).lo hk34
 refine W.cond_d rfl (fun h37 => ?_) (fun h37 => ?_)
 ·refine Ws (Wr (Q (mL rfl) <| Q (aL rfl) <| Q (aB rfl) <| Qn (W.ret (ret2 rfl (v := .slice _ _ _) (v' := .bool _) rfl rfl (⟨(pA g9), 0, 0, eR (eT2 rfl (eDF (by first | assumption | exact ⟨‹_›, ‹_›⟩ | exact not_and_of_not_or_not ‹_›))), (SlO.eqv ((hO13.lo hk34).down) (by first | (rw [if_pos (by first | assumption | exact ⟨‹_›, ‹_›⟩)]; exact sel_end (by omega)) | (rw [if_neg (by first | assumption | exact not_and_of_not_or_not ‹_›)]))), hB36⟩)))))
 ·have hq39 : LibOK x := (Classical.not_not.1 (not_or.1 h37).1)
  have hq40 : 1 ≤ r ∧ r ≤ 999 := (Classical.not_not.1 (not_or.1 h37).2)
  have hq41 := And.left hq39
  have hq42 := lib_len hq39
  have hq43 := And.left hq41
  have hq44 := And.right hq41
  refine W.skip (Ws (Ws (Wr (Q (aI rfl) <| Qn (W.block (W.loop (σ := Nat × (Option Addr) × Nat × Nat) (fun g => [(1, .int .i64 r), (2, .pointer (pA g1)), (4, .slice none 0 0), (5, .bool false), (6, .slice g.2.1 g.2.2.1 g.2.2.2), (7, .int .i64 (g.1 : Int))]) (fun g w' => (Lo w w') ∧ (Blk w' g1 34 (cLb Ax1 nx1 cx1 Ax2 nx2 cx2 x)) ∧ (SlR w' Bx1 encLMap 3 Ax1 nx1 cx1 x.Maps) ∧ (SlR w' Bx2 encAway 2 Ax2 nx2 cx2 x.Away) ∧ (SlO w' w.heap.size encI 1 3 g.2.1 g.2.2.1 g.2.2.2 (selL (atR r) Away.Map (x.Away.take g.1))) ∧ (¬ g.2.1 = some ⟨g1, 0, none⟩) ∧ (g.1 ≤ nx2)) (fun g => nx2 - g.1) (0, (pA g9), 0, 0) ?_ ?_ ?_))))))
  ·exact (At.r rfl)
  ·show (Lo w w32) ∧ (Blk w32 g1 34 (cLb Ax1 nx1 cx1 Ax2 nx2 cx2 x)) ∧ (SlR w32 Bx1 encLMap 3 Ax1 nx1 cx1 x.Maps) ∧ (SlR w32 Bx2 encAway 2 Ax2 nx2 cx2 x.Away) ∧ (SlO w32 w.heap.size encI 1 3 (pA g9) 0 0 (selL (atR r) Away.Map (x.Away.take 0))) ∧ (¬ (pA g9) = some ⟨g1, 0, none⟩) ∧ (0 ≤ nx2)
   exact ⟨hB36, ((hb6.lo hk12).lo hk34), hm16.lo hk34, hm17.lo hk34, (SlO.eqv ((hO13.lo hk34).down) (by rfl)), (fun e' => by have := (hO13.lo hk34).base_le e'; omega), (by (try dsimp only); omega)⟩
  ·rintro ⟨k, A46, n46, c46⟩ f47 w48 hP50
   obtain ⟨hB49, hm51, hm52, hm53, hO54, hd56, hi55⟩ : (Lo w w48) ∧ (Blk w48 g1 34 (cLb Ax1 nx1 cx1 Ax2 nx2 cx2 x)) ∧ (SlR w48 Bx1 encLMap 3 Ax1 nx1 cx1 x.Maps) ∧ (SlR w48 Bx2 encAway 2 Ax2 nx2 cx2 x.Away) ∧ (SlO w48 w.heap.size encI 1 3 A46 n46 c46 (selL (atR r) Away.Map (x.Away.take k))) ∧ (¬ A46 = some ⟨g1, 0, none⟩) ∧ (k ≤ nx2) := hP50
   refine (?_ : W _ _ _ _ _ (act _ (sets f47 [(1, .int .i64 r), (2, .pointer (pA g1)), (4, .slice none 0 0), (5, .bool false), (6, .slice A46 n46 c46), (7, .int .i64 (k : Int))])) _)
   have hzw48 := hB49.size
   have hl57 := hm51.lt
   have hl58 := hO54.len
   have hl59 := hO54.rd.bound
   have hq60 := sel_lenT x.Away k (atR r) Away.Map
   refine Ws (Ws (Wr (Q (mI rfl) <| Q (fA fa34_1 rfl) <| Q (lB sca32 rfl hm51 rfl) <| Q (r_len und32 rfl) <| Q (r_lt rfl rfl) <| Qn (W.cond_d rfl (fun h61 => ?_) (fun h61 => ?_)))))
   ·refine W.skip (Ws (W.block (Ws (Wr (Q (fA fa34_1 rfl) <| Q (lB sca32 rfl hm51 rfl) <| Q (mI rfl) <| ?_)))))
    have hx63 := hm53.elem (i := k) (by omega)
    refine Q (r_ixR tsl32 hm53 rfl rfl (by omega)) <| Q (fA fa129_1 rfl) <| Q (r_ld (v := .int .i64 ((gt x.Away k).Reader)) sca3 rfl (hm53.cell hx63 rfl)) <| Q (mI rfl) <| Q (r_eq rfl rfl) <| Qn (W.cond_d rfl (fun h64 => ?_) (fun h64 => ?_))
    ·refine Wr (Q (mL rfl) <| Q (fA fa34_1 rfl) <| Q (lB sca32 rfl hm51 rfl) <| Q (mI rfl) <| Q (r_ixR tsl32 hm53 rfl rfl (by omega)) <| Q (fA fa129_0 rfl) <| Q (r_ld (v := .int .i64 ((gt x.Away k).Map)) sca3 rfl (hm53.cell hx63 rfl)) <| SR.lit (vs := [.int .i64 ((gt x.Away k).Map)]) (L := ([(gt x.Away k).Map] : List Int)) (enc := encI) tel93 (fun _ => rfl) rfl rfl rfl (by decide) ?_)
     intro g65 w66 hg67 hk68 hO69
     have hz70 := hk68.size
     refine SR.app tel93 rfl rfl (hO54.lo hk68) (hO69.rd) (fun _ => rfl) (by omega) (by omega) ?_
     intro A73 c74 w75 hk76 hO77 hN78
     have hz79 := hk76.size
     have hd81 : ¬ A73 = some ⟨g1, 0, none⟩ := fun e' => (hN78 g1 e').elim (fun h => hd56 (h.trans e')) (fun h => by have := (hm51.lo hk68).lt; omega)
     refine Q (aL rfl) <| Qn ?_
     have hm84 := (hm52.lo hk68).kp hk76 (fun b_ hb e' => by have := (hO54.lo hk68).base_le e'; omega)
     have hm85 := (hm53.lo hk68).kp hk76 (fun b_ hb e' => by have := (hO54.lo hk68).base_le e'; omega)
     refine Wr (Q (mI rfl) <| Q (r_add rfl rfl (by omega)) <| Q (aI rfl) <| Qn (⟨(k + 1, A73, n46 + 1, c74), _, rfl, (At.r rfl), (show (Lo w w75) ∧ (Blk w75 g1 34 (cLb Ax1 nx1 cx1 Ax2 nx2 cx2 x)) ∧ (SlR w75 Bx1 encLMap 3 Ax1 nx1 cx1 x.Maps) ∧ (SlR w75 Bx2 encAway 2 Ax2 nx2 cx2 x.Away) ∧ (SlO w75 w.heap.size encI 1 3 A73 (n46 + 1) c74 (selL (atR r) Away.Map (x.Away.take (k + 1)))) ∧ (¬ A73 = some ⟨g1, 0, none⟩) ∧ (k + 1 ≤ nx2) from ⟨((hB49.lo hk68).step hk76 (fun i_ hi_ e' => by have := (hO54.lo hk68).base_le e'; first | omega | exact e' | exact .inl e' | exact .inr e')), ((hm51.lo hk68).kp hk76 (fun e' => hd56 e')), hm84, hm85, (SlO.eqv hO77 (by first | exact sel_yes (by omega) (decide_eq_true ‹_›) | exact sel_no (by omega) (decide_eq_false ‹_›))), hd81, ?_⟩), ?_⟩))
     ·exact (by (try dsimp only); omega)
     ·exact (by (try dsimp only); omega)
    ·refine W.skip (Wr (Q (mI rfl) <| Q (r_add rfl rfl (by omega)) <| Q (aI rfl) <| Qn (⟨(k + 1, A46, n46, c46), _, rfl, (At.r rfl), (show (Lo w w48) ∧ (Blk w48 g1 34 (cLb Ax1 nx1 cx1 Ax2 nx2 cx2 x)) ∧ (SlR w48 Bx1 encLMap 3 Ax1 nx1 cx1 x.Maps) ∧ (SlR w48 Bx2 encAway 2 Ax2 nx2 cx2 x.Away) ∧ (SlO w48 w.heap.size encI 1 3 A46 n46 c46 (selL (atR r) Away.Map (x.Away.take (k + 1)))) ∧ (¬ A46 = some ⟨g1, 0, none⟩) ∧ (k + 1 ≤ nx2) from ⟨hB49, hm51, hm52, hm53, (SlO.eqv hO54 (by first | exact sel_yes (by omega) (decide_eq_true ‹_›) | exact sel_no (by omega) (decide_eq_false ‹_›))), hd56, ?_⟩), ?_⟩)))
     ·exact (by (try dsimp only); omega)
     ·exact (by (try dsimp only); omega)
   ·refine W.exit (xin_here (Ws (Wr (Q (mL rfl) <| Q (aL rfl) <| Q (aB rfl) <| Qn (W.ret (ret2 rfl (v := .slice _ _ _) (v' := .bool _) rfl rfl (⟨A46, n46, c46, eR (eT2 rfl (eDT (by first | assumption | exact ⟨‹_›, ‹_›⟩ | exact not_and_of_not_or_not ‹_›))), (SlO.eqv (hO54.down) (by first | (rw [if_pos (by first | assumption | exact ⟨‹_›, ‹_›⟩)]; exact sel_end (by omega)) | (rw [if_neg (by first | assumption | exact not_and_of_not_or_not ‹_›)]))), hB49⟩)))))))
theorem c_impl_MayLend (w : World) (x : Library) {Ax1 : Option Addr} {nx1 cx1 Bx1 : Nat} (hx1 : SlR w Bx1 encLMap 3 Ax1 nx1 cx1 x.Maps) {Ax2 : Option Addr} {nx2 cx2 Bx2 : Nat} (hx2 : SlR w Bx2 encAway 2 Ax2 nx2 cx2 x.Away) (hp0 : (nx1 : Int) ≤ 1048576) : Calls Tryz.prog 156 #[.agg (List.toArray (cLb Ax1 nx1 cx1 Ax2 nx2 cx2 x))] w fun e w' => ∃ (A1' : Option Addr) (n1' c1' : Nat), e = .returned (.tuple (List.toArray [.slice A1' n1' c1', .bool (decide (LibOK x))])) ∧ SlO w' w.heap.size encI 1 3 A1' n1' c1' (if LibOK x then selL mayM LMap.Id x.Maps else []) ∧ Lo w w' := by
 refine calls_W 29 Tryz.func156 rfl rfl rfl ?_
 have hbdx1 := hx1.bound
 have hlex1 := hx1.len
 have hBbx1 := hx1.bd
 have hbdx2 := hx2.bound
 have hlex2 := hx2.len
 have hBbx2 := hx2.bd
 refine Ws (Wr (SR.box (v := .agg (List.toArray _)) (l := (cLb Ax1 nx1 cx1 Ax2 nx2 cx2 x)) rfl rfl ?_))
 intro g1 w2 hg3 hk4 hs5 hb6
 refine Q (r_as (v := .slice none 0 0) rfl) <| Q (aB rfl) <| Qn (Ws (Ws (Wr (Q (lG agg34 rfl hb6 rfl) <| Qv ent72 (c_impl_IsLibrary w2 x (hx1.lo hk4) (hx2.lo hk4) (by omega)) rfl fun w9 hk10 hz11 => ?_))))
 have hB12 := ((Lo.refl w).lo hk4).lo hk10
 refine Q (r_not rfl) <| Qn (W.cond_n rfl (fun h13 => ?_) (fun h13 => ?_))
 ·refine Ws (Wr (Q (r_as (v := .slice none 0 0) rfl) <| Q (aB rfl) <| Qn (W.ret (ret2 rfl (v := .slice none 0 0) (v' := .bool _) rfl rfl (⟨none, 0, 0, eR (eT2 rfl (eDF h13)), (SlO.eqv (SlO.nil (e := 3) (enc := encI) (fun _ => rfl) (by omega)) (by first | (rw [if_pos (by first | assumption | exact ⟨‹_›, ‹_›⟩)]; exact sel_end (by omega)) | (rw [if_neg (by first | assumption | exact not_and_of_not_or_not ‹_›)]))), hB12⟩)))))
 ·have hq16 := And.left h13
  have hq17 := lib_len h13
  have hq18 := And.left hq16
  have hq19 := And.right hq16
  refine W.skip (Ws (Wr (Q (r_as (v := .slice none 0 0) rfl) <| Qn (Ws (Ws (Wr (Q (fA fa34_0 rfl) <| Q (lB sca31 rfl (hb6.lo hk10) rfl) <| Q (r_len und31 rfl) <| Q (r_mv (v := .int .i64 0) rfl) <| Qn (W.block (W.loop (σ := Nat × (Option Addr) × Nat × Nat) (fun g => [(2, .slice none 0 0), (3, .bool false), (4, .slice g.2.1 g.2.2.1 g.2.2.2), (11, .slice Ax1 nx1 cx1), (12, .int .i64 (nx1 : Int)), (13, .int .i64 (g.1 : Int))]) (fun g w' => (Lo w w') ∧ (SlR w' Bx1 encLMap 3 Ax1 nx1 cx1 x.Maps) ∧ (SlO w' w.heap.size encI 1 3 g.2.1 g.2.2.1 g.2.2.2 (selL mayM LMap.Id (x.Maps.take g.1))) ∧ (g.1 ≤ nx1)) (fun g => nx1 - g.1) (0, (none : Option Addr), 0, 0) ?_ ?_ ?_)))))))))
  ·exact (At.r rfl)
  ·exact ⟨hB12, ((hx1.lo hk4).lo hk10), (SlO.eqv (SlO.nil (base := w.heap.size) (e := 3) (enc := encI) (fun _ => rfl) (by omega)) (by rfl)), (by (try dsimp only); omega)⟩
  ·rintro ⟨k, A22, n22, c22⟩ f23 w24 hP26
   obtain ⟨hB25, hm27, hO28, hi29⟩ : (Lo w w24) ∧ (SlR w24 Bx1 encLMap 3 Ax1 nx1 cx1 x.Maps) ∧ (SlO w24 w.heap.size encI 1 3 A22 n22 c22 (selL mayM LMap.Id (x.Maps.take k))) ∧ (k ≤ nx1) := hP26
   refine (?_ : W _ _ _ _ _ (act _ (sets f23 [(2, .slice none 0 0), (3, .bool false), (4, .slice A22 n22 c22), (11, .slice Ax1 nx1 cx1), (12, .int .i64 (nx1 : Int)), (13, .int .i64 (k : Int))])) _)
   have hzw24 := hB25.size
   have hl30 := hO28.len
   have hl31 := hO28.rd.bound
   have hq32 := sel_lenT x.Maps k mayM LMap.Id
   refine Ws (Wr (Q (r_lt rfl rfl) <| Qn (Ws (W.cond_d rfl (fun h33 => ?_) (fun h33 => ?_)))))
   ·refine W.skip (Ws (W.block (Ws ?_)))
    have hx35 := hm27.elem (i := k) (by omega)
    refine Wr (Q (r_ixR tsl31 hm27 rfl rfl (by omega)) <| Q (r_lda (l := encLMap (gt x.Maps k)) agg102 rfl (fun _ _ hu => hm27.cell hx35 hu) (hm27.esz _)) <| SR.alloc (l := [.int .i64 0, .int .i64 0, .int .i64 0]) tz102 rfl ?_)
    intro g36 w37 hg38 hk39 hs40 hb41
    refine Qw (o := 0) (vs := [.int .i64 ((gt x.Maps k).Id), .int .i64 ((gt x.Maps k).Copies), .int .i64 ((gt x.Maps k).Torn)]) agg102.2 rfl rfl rfl rfl hb41 ler rfl ?_
    intro w45 hk46 hs47 hb48
    have hB50 := (hB25.lo hk39).new hk46
    refine Qn (Ws ?_)
    have hm51 := (hO28.lo hk39).kd hk46 (SlO.ne (g := g36) hO28)
    have hm52 := (hm27.lo hk39).kn hk46
    refine Wr (Q (fA fa102_1 rfl) <| Q (lB sca3 rfl hb48 rfl) <| Q (fA fa102_2 rfl) <| Q (lB sca3 rfl hb48 rfl) <| Q (r_gt rfl rfl) <| Qn (W.cond_d rfl (fun h53 => ?_) (fun h53 => ?_)))
    ·refine Wr (Q (mL rfl) <| Q (fA fa102_0 rfl) <| Q (lB sca3 rfl hb48 rfl) <| SR.lit (vs := [.int .i64 ((gt x.Maps k).Id)]) (L := ([(gt x.Maps k).Id] : List Int)) (enc := encI) tel93 (fun _ => rfl) rfl rfl rfl (by decide) ?_)
     intro g54 w55 hg56 hk57 hO58
     have hz59 := hk57.size
     refine SR.app tel93 rfl rfl (hm51.lo hk57) (hO58.rd) (fun _ => rfl) (by omega) (by omega) ?_
     intro A62 c63 w64 hk65 hO66 hN67
     have hz68 := hk65.size
     refine Q (aL rfl) <| Qn ?_
     have hm72 := (hm52.lo hk57).kp hk65 (fun b_ hb e' => by have := (hm51.lo hk57).base_le e'; omega)
     refine Wr (Q (r_add rfl rfl (by omega)) <| Q (mI rfl) <| Qn (⟨(k + 1, A62, n22 + 1, c63), _, rfl, (At.r rfl), ⟨((hB50.lo hk57).step hk65 (fun i_ hi_ e' => by have := (hm51.lo hk57).base_le e'; first | omega | exact e' | exact .inl e' | exact .inr e')), hm72, (SlO.eqv hO66 (by first | exact sel_yes (by omega) (decide_eq_true ‹_›) | exact sel_no (by omega) (decide_eq_false ‹_›))), ?_⟩, ?_⟩))
     ·exact (by (try dsimp only); omega)
     ·exact (by (try dsimp only); omega)
    ·refine W.skip (Wr (Q (r_add rfl rfl (by omega)) <| Q (mI rfl) <| Qn (⟨(k + 1, A22, n22, c22), _, rfl, (At.r rfl), ⟨hB50, hm52, (SlO.eqv hm51 (by first | exact sel_yes (by omega) (decide_eq_true ‹_›) | exact sel_no (by omega) (decide_eq_false ‹_›))), ?_⟩, ?_⟩)))
     ·exact (by (try dsimp only); omega)
     ·exact (by (try dsimp only); omega)
   ·refine W.exit (xin_here (Ws (Wr (Q (mL rfl) <| Q (aL rfl) <| Q (aB rfl) <| Qn (W.ret (ret2 rfl (v := .slice _ _ _) (v' := .bool _) rfl rfl (⟨A22, n22, c22, eR (eT2 rfl (eDT h13)), (SlO.eqv (hO28.down) (by first | (rw [if_pos (by first | assumption | exact ⟨‹_›, ‹_›⟩)]; exact sel_end (by omega)) | (rw [if_neg (by first | assumption | exact not_and_of_not_or_not ‹_›)]))), hB25⟩)))))))
theorem c_spec_MayLend (w : World) (x : Library) {Ax1 : Option Addr} {nx1 cx1 Bx1 : Nat} (hx1 : SlR w Bx1 encLMap 3 Ax1 nx1 cx1 x.Maps) {Ax2 : Option Addr} {nx2 cx2 Bx2 : Nat} (hx2 : SlR w Bx2 encAway 2 Ax2 nx2 cx2 x.Away) (hp0 : (nx1 : Int) ≤ 1048576) : Calls Tryz.prog 138 #[.agg (List.toArray (cLb Ax1 nx1 cx1 Ax2 nx2 cx2 x))] w fun e w' => ∃ (A1' : Option Addr) (n1' c1' : Nat), e = .returned (.tuple (List.toArray [.slice A1' n1' c1', .bool (decide (LibOK x))])) ∧ SlO w' w.heap.size encI 1 3 A1' n1' c1' (if LibOK x then selL mayM LMap.Id x.Maps else []) ∧ Lo w w' := by
 refine calls_W 41 Tryz.func138 rfl rfl rfl ?_
 have hbdx1 := hx1.bound
 have hlex1 := hx1.len
 have hBbx1 := hx1.bd
 have hbdx2 := hx2.bound
 have hlex2 := hx2.len
 have hBbx2 := hx2.bd
 refine Ws (Wr (SR.box (v := .agg (List.toArray _)) (l := (cLb Ax1 nx1 cx1 Ax2 nx2 cx2 x)) rfl rfl ?_))
 intro g1 w2 hg3 hk4 hs5 hb6
 refine Q (r_as (v := .slice none 0 0) rfl) <| Q (aB rfl) <| Qn (Ws (Wr (SR.lit (vs := []) (L := ([] : List Int)) (enc := encI) tel93 (fun _ => rfl) rfl rfl rfl (by decide) ?_)))
 intro g9 w10 hg11 hk12 hO13
 have hz14 := hk12.size
 refine Q (aL rfl) <| Qn (Ws (Ws ?_))
 have hm16 := (hx1.lo hk4).lo hk12
 have hm17 := (hx2.lo hk4).lo hk12
 refine Wr (Q (lG agg34 rfl (hb6.lo hk12) rfl) <| Qv ent80 (c_spec_l32Good w10 x hm16 hm17) rfl fun w18 hk19 hz20 => ?_)
 have hB21 := (((Lo.refl w).lo hk4).lo hk12).lo hk19
 refine Q (r_not rfl) <| Qn (W.cond_n rfl (fun h22 => ?_) (fun h22 => ?_))
 ·refine Ws (Wr (Q (mL rfl) <| Q (aL rfl) <| Q (aB rfl) <| Qn (W.ret (ret2 rfl (v := .slice _ _ _) (v' := .bool _) rfl rfl (⟨(pA g9), 0, 0, eR (eT2 rfl (eDF h22)), (SlO.eqv ((hO13.lo hk19).down) (by first | (rw [if_pos (by first | assumption | exact ⟨‹_›, ‹_›⟩)]; exact sel_end (by omega)) | (rw [if_neg (by first | assumption | exact not_and_of_not_or_not ‹_›)]))), hB21⟩)))))
 ·have hq24 := And.left h22
  have hq25 := lib_len h22
  have hq26 := And.left hq24
  have hq27 := And.right hq24
  refine W.skip (Ws (Ws (Wr (Q (aI rfl) <| Qn (W.block (W.loop (σ := Nat × (Option Addr) × Nat × Nat) (fun g => [(1, .pointer (pA g1)), (2, .slice none 0 0), (3, .bool false), (4, .slice g.2.1 g.2.2.1 g.2.2.2), (5, .int .i64 (g.1 : Int))]) (fun g w' => (Lo w w') ∧ (Blk w' g1 34 (cLb Ax1 nx1 cx1 Ax2 nx2 cx2 x)) ∧ (SlR w' Bx1 encLMap 3 Ax1 nx1 cx1 x.Maps) ∧ (SlR w' Bx2 encAway 2 Ax2 nx2 cx2 x.Away) ∧ (SlO w' w.heap.size encI 1 3 g.2.1 g.2.2.1 g.2.2.2 (selL mayM LMap.Id (x.Maps.take g.1))) ∧ (¬ g.2.1 = some ⟨g1, 0, none⟩) ∧ (g.1 ≤ nx1)) (fun g => nx1 - g.1) (0, (pA g9), 0, 0) ?_ ?_ ?_))))))
  ·exact (At.r rfl)
  ·show (Lo w w18) ∧ (Blk w18 g1 34 (cLb Ax1 nx1 cx1 Ax2 nx2 cx2 x)) ∧ (SlR w18 Bx1 encLMap 3 Ax1 nx1 cx1 x.Maps) ∧ (SlR w18 Bx2 encAway 2 Ax2 nx2 cx2 x.Away) ∧ (SlO w18 w.heap.size encI 1 3 (pA g9) 0 0 (selL mayM LMap.Id (x.Maps.take 0))) ∧ (¬ (pA g9) = some ⟨g1, 0, none⟩) ∧ (0 ≤ nx1)
   exact ⟨hB21, ((hb6.lo hk12).lo hk19), hm16.lo hk19, hm17.lo hk19, (SlO.eqv ((hO13.lo hk19).down) (by rfl)), (fun e' => by have := (hO13.lo hk19).base_le e'; omega), (by (try dsimp only); omega)⟩
  ·rintro ⟨k, A29, n29, c29⟩ f30 w31 hP33
   obtain ⟨hB32, hm34, hm35, hm36, hO37, hd39, hi38⟩ : (Lo w w31) ∧ (Blk w31 g1 34 (cLb Ax1 nx1 cx1 Ax2 nx2 cx2 x)) ∧ (SlR w31 Bx1 encLMap 3 Ax1 nx1 cx1 x.Maps) ∧ (SlR w31 Bx2 encAway 2 Ax2 nx2 cx2 x.Away) ∧ (SlO w31 w.heap.size encI 1 3 A29 n29 c29 (selL mayM LMap.Id (x.Maps.take k))) ∧ (¬ A29 = some ⟨g1, 0, none⟩) ∧ (k ≤ nx1) := hP33
   refine (?_ : W _ _ _ _ _ (act _ (sets f30 [(1, .pointer (pA g1)), (2, .slice none 0 0), (3, .bool false), (4, .slice A29 n29 c29), (5, .int .i64 (k : Int))])) _)
   have hzw31 := hB32.size
   have hl40 := hm34.lt
   have hl41 := hO37.len
   have hl42 := hO37.rd.bound
   have hq43 := sel_lenT x.Maps k mayM LMap.Id
   refine Ws (Ws (Wr (Q (mI rfl) <| Q (fA fa34_0 rfl) <| Q (lB sca31 rfl hm34 rfl) <| Q (r_len und31 rfl) <| Q (r_lt rfl rfl) <| Qn (W.cond_d rfl (fun h44 => ?_) (fun h44 => ?_)))))
   ·refine W.skip (Ws (W.block (Ws (W.regD mo (by kernel_rfl) (QR.q' (fun w' hw' => fA fa34_0 rfl) <| QR.q' (fun w' hw' => r_ld (v := .slice Ax1 nx1 cx1) sca31 rfl ((hm34.lo hw').cell rfl)) <| QR.q' (fun w' hw' => r_mv (v := .int .i64 _) rfl) <| ?_)))))
    have hx46 := hm35.elem (i := k) (by omega)
    refine QR.q' (fun w' hw' => r_ixR tsl31 (hm35.lo hw') rfl rfl (by omega)) <| QR.q' (fun w' hw' => fA fa102_1 rfl) <| QR.q' (fun w' hw' => r_ld (v := .int .i64 ((gt x.Maps k).Copies)) sca3 rfl ((hm35.lo hw').cell hx46 rfl)) <| QR.q' (fun w' hw' => fA fa34_0 rfl) <| QR.q' (fun w' hw' => r_ld (v := .slice Ax1 nx1 cx1) sca31 rfl ((hm34.lo hw').cell rfl)) <| QR.q' (fun w' hw' => r_mv (v := .int .i64 _) rfl) <| QR.q' (fun w' hw' => r_ixR tsl31 (hm35.lo hw') rfl rfl (by omega)) <| QR.q' (fun w' hw' => fA fa102_2 rfl) <| QR.q' (fun w' hw' => r_ld (v := .int .i64 ((gt x.Maps k).Torn)) sca3 rfl ((hm35.lo hw').cell hx46 rfl)) <| QR.q' (fun w' hw' => r_gt rfl rfl) <| QR.nil ?_
    intro w47 hk48
    have hz49 := hk48.size
    have hB50 := hB32.lo hk48
    refine W.cond_d rfl (fun h51 => ?_) (fun h51 => ?_)
    ·refine Wr (Q (mL rfl) <| Q (fA fa34_0 rfl) <| Q (lB sca31 rfl (hm34.lo hk48) rfl) <| Q (mI rfl) <| Q (r_ixR tsl31 (hm35.lo hk48) rfl rfl (by omega)) <| Q (fA fa102_0 rfl) <| Q (r_ld (v := .int .i64 ((gt x.Maps k).Id)) sca3 rfl ((hm35.lo hk48).cell hx46 rfl)) <| SR.lit (vs := [.int .i64 ((gt x.Maps k).Id)]) (L := ([(gt x.Maps k).Id] : List Int)) (enc := encI) tel93 (fun _ => rfl) rfl rfl rfl (by decide) ?_)
     intro g52 w53 hg54 hk55 hO56
     have hz57 := hk55.size
     refine SR.app tel93 rfl rfl ((hO37.lo hk48).lo hk55) (hO56.rd) (fun _ => rfl) (by omega) (by omega) ?_
     intro A60 c61 w62 hk63 hO64 hN65
     have hz66 := hk63.size
     have hd68 : ¬ A60 = some ⟨g1, 0, none⟩ := fun e' => (hN65 g1 e').elim (fun h => hd39 (h.trans e')) (fun h => by have := ((hm34.lo hk48).lo hk55).lt; omega)
     refine Q (aL rfl) <| Qn ?_
     have hm71 := ((hm35.lo hk48).lo hk55).kp hk63 (fun b_ hb e' => by have := ((hO37.lo hk48).lo hk55).base_le e'; omega)
     have hm72 := ((hm36.lo hk48).lo hk55).kp hk63 (fun b_ hb e' => by have := ((hO37.lo hk48).lo hk55).base_le e'; omega)
     refine Wr (Q (mI rfl) <| Q (r_add rfl rfl (by omega)) <| Q (aI rfl) <| Qn (⟨(k + 1, A60, n29 + 1, c61), _, rfl, (At.r rfl), (show (Lo w w62) ∧ (Blk w62 g1 34 (cLb Ax1 nx1 cx1 Ax2 nx2 cx2 x)) ∧ (SlR w62 Bx1 encLMap 3 Ax1 nx1 cx1 x.Maps) ∧ (SlR w62 Bx2 encAway 2 Ax2 nx2 cx2 x.Away) ∧ (SlO w62 w.heap.size encI 1 3 A60 (n29 + 1) c61 (selL mayM LMap.Id (x.Maps.take (k + 1)))) ∧ (¬ A60 = some ⟨g1, 0, none⟩) ∧ (k + 1 ≤ nx1) from ⟨((hB50.lo hk55).step hk63 (fun i_ hi_ e' => by have := ((hO37.lo hk48).lo hk55).base_le e'; first | omega | exact e' | exact .inl e' | exact .inr e')), (((hm34.lo hk48).lo hk55).kp hk63 (fun e' => hd39 e')), hm71, hm72, (SlO.eqv hO64 (by first | exact sel_yes (by omega) (decide_eq_true ‹_›) | exact sel_no (by omega) (decide_eq_false ‹_›))), hd68, ?_⟩), ?_⟩))
     ·exact (by (try dsimp only); omega)
     ·exact (by (try dsimp only); omega)
    ·refine W.skip (Wr (Q (mI rfl) <| Q (r_add rfl rfl (by omega)) <| Q (aI rfl) <| Qn (⟨(k + 1, A29, n29, c29), _, rfl, (At.r rfl), (show (Lo w w47) ∧ (Blk w47 g1 34 (cLb Ax1 nx1 cx1 Ax2 nx2 cx2 x)) ∧ (SlR w47 Bx1 encLMap 3 Ax1 nx1 cx1 x.Maps) ∧ (SlR w47 Bx2 encAway 2 Ax2 nx2 cx2 x.Away) ∧ (SlO w47 w.heap.size encI 1 3 A29 n29 c29 (selL mayM LMap.Id (x.Maps.take (k + 1)))) ∧ (¬ A29 = some ⟨g1, 0, none⟩) ∧ (k + 1 ≤ nx1) from ⟨hB50, hm34.lo hk48, hm35.lo hk48, hm36.lo hk48, (SlO.eqv (hO37.lo hk48) (by first | exact sel_yes (by omega) (decide_eq_true ‹_›) | exact sel_no (by omega) (decide_eq_false ‹_›))), hd39, ?_⟩), ?_⟩)))
     ·exact (by (try dsimp only); omega)
     ·exact (by (try dsimp only); omega)
   ·refine W.exit (xin_here (Ws (Wr (Q (mL rfl) <| Q (aL rfl) <| Q (aB rfl) <| Qn (W.ret (ret2 rfl (v := .slice _ _ _) (v' := .bool _) rfl rfl (⟨A29, n29, c29, eR (eT2 rfl (eDT h22)), (SlO.eqv (hO37.down) (by first | (rw [if_pos (by first | assumption | exact ⟨‹_›, ‹_›⟩)]; exact sel_end (by omega)) | (rw [if_neg (by first | assumption | exact not_and_of_not_or_not ‹_›)]))), hB32⟩)))))))
theorem c_impl_TornCopies (w : World) (x : Library) {Ax1 : Option Addr} {nx1 cx1 Bx1 : Nat} (hx1 : SlR w Bx1 encLMap 3 Ax1 nx1 cx1 x.Maps) {Ax2 : Option Addr} {nx2 cx2 Bx2 : Nat} (hx2 : SlR w Bx2 encAway 2 Ax2 nx2 cx2 x.Away) (hp0 : (nx1 : Int) ≤ 1048576) : Calls Tryz.prog 157 #[.agg (List.toArray (cLb Ax1 nx1 cx1 Ax2 nx2 cx2 x))] w fun e w' => e = .returned (.tuple (List.toArray [.int .i64 (if LibOK x then sumT x.Maps else 0), .bool (decide (LibOK x))])) ∧ Lo w w' := by
 refine calls_W 23 Tryz.func157 rfl rfl rfl ?_
 have hbdx1 := hx1.bound
 have hlex1 := hx1.len
 have hBbx1 := hx1.bd
 have hbdx2 := hx2.bound
 have hlex2 := hx2.len
 have hBbx2 := hx2.bd
 refine Ws (Wr (SR.box (v := .agg (List.toArray _)) (l := (cLb Ax1 nx1 cx1 Ax2 nx2 cx2 x)) rfl rfl ?_))
 intro g1 w2 hg3 hk4 hs5 hb6
 refine Q (aI rfl) <| Q (aB rfl) <| Qn (Ws (Ws (Wr (Q (lG agg34 rfl hb6 rfl) <| Qv ent72 (c_impl_IsLibrary w2 x (hx1.lo hk4) (hx2.lo hk4) (by omega)) rfl fun w9 hk10 hz11 => ?_))))
 have hB12 := ((Lo.refl w).lo hk4).lo hk10
 refine Q (r_not rfl) <| Qn (W.cond_n rfl (fun h13 => ?_) (fun h13 => ?_))
 ·refine Ws (Wr (Q (aI rfl) <| Q (aB rfl) <| Qn (W.ret (ret2 rfl (v := .int .i64 _) (v' := .bool _) rfl rfl (⟨eR (eT2 (eI (by first | assumption | simp [*])) (eDF h13)), hB12⟩)))))
 ·have hq16 := And.left h13
  have hq17 := lib_len h13
  have hq18 := And.left hq16
  have hq19 := And.right hq16
  refine W.skip (Ws (Wr (Q (aI rfl) <| Qn (Ws (Ws (Wr (Q (fA fa34_0 rfl) <| Q (lB sca31 rfl (hb6.lo hk10) rfl) <| Q (r_len und31 rfl) <| Q (r_mv (v := .int .i64 0) rfl) <| Qn (W.block (W.loop (σ := Nat × Int) (fun g => [(2, .int .i64 0), (3, .bool false), (4, .int .i64 g.2), (11, .slice Ax1 nx1 cx1), (12, .int .i64 (nx1 : Int)), (13, .int .i64 (g.1 : Int))]) (fun g w' => (Lo w w') ∧ (SlR w' Bx1 encLMap 3 Ax1 nx1 cx1 x.Maps) ∧ (g.1 ≤ nx1 ∧ sumT (x.Maps.take g.1) = g.2 ∧ 0 ≤ g.2 ∧ g.2 ≤ 99 * (g.1 : Int))) (fun g => nx1 - g.1) (0, (0 : Int)) ?_ ?_ ?_)))))))))
  ·exact (At.r rfl)
  ·exact ⟨hB12, ((hx1.lo hk4).lo hk10), (by (try dsimp only); simp [sumT])⟩
  ·rintro ⟨k, t⟩ f22 w23 hP25
   obtain ⟨hB24, hm26, hi27⟩ : (Lo w w23) ∧ (SlR w23 Bx1 encLMap 3 Ax1 nx1 cx1 x.Maps) ∧ (k ≤ nx1 ∧ sumT (x.Maps.take k) = t ∧ 0 ≤ t ∧ t ≤ 99 * (k : Int)) := hP25
   refine (?_ : W _ _ _ _ _ (act _ (sets f22 [(2, .int .i64 0), (3, .bool false), (4, .int .i64 t), (11, .slice Ax1 nx1 cx1), (12, .int .i64 (nx1 : Int)), (13, .int .i64 (k : Int))])) _)
   have hzw23 := hB24.size
   refine Ws (Wr (Q (r_lt rfl rfl) <| Qn (Ws (W.cond_d rfl (fun h28 => ?_) (fun h28 => ?_)))))
   ·refine W.skip (Ws (W.block (Ws ?_)))
    have hx30 := hm26.elem (i := k) (by omega)
    have hq31 := maps_rng ‹MapsOK x.Maps› hx30
    refine Wr (Q (r_ixR tsl31 hm26 rfl rfl (by omega)) <| Q (r_lda (l := encLMap (gt x.Maps k)) agg102 rfl (fun _ _ hu => hm26.cell hx30 hu) (hm26.esz _)) <| SR.alloc (l := [.int .i64 0, .int .i64 0, .int .i64 0]) tz102 rfl ?_)
    intro g32 w33 hg34 hk35 hs36 hb37
    refine Qw (o := 0) (vs := [.int .i64 ((gt x.Maps k).Id), .int .i64 ((gt x.Maps k).Copies), .int .i64 ((gt x.Maps k).Torn)]) agg102.2 rfl rfl rfl rfl hb37 ler rfl ?_
    intro w40 hk41 hs42 hb43
    refine Qn (Wr (Q (mI rfl) <| Q (fA fa102_2 rfl) <| Q (lB sca3 rfl hb43 rfl) <| Q (r_add rfl rfl (by omega)) <| Q (aI rfl) <| Qn (Wr (Q (r_add rfl rfl (by omega)) <| Q (mI rfl) <| Qn (⟨(k + 1, t + ((gt x.Maps k).Torn)), _, rfl, (At.r rfl), ⟨((hB24.lo hk35).new hk41), ((hm26.lo hk35).kn hk41), ?_⟩, ?_⟩)))))
    ·exact (by (try dsimp only); have hh := ‹_ ∧ sumT _ = _ ∧ _›; have hq := maps_rng ‹MapsOK _› ‹x.Maps[k]? = some _›; exact ⟨by omega, by rw [sumT_snoc (by omega), hh.2.1], by omega, by omega⟩)
    ·exact (by (try dsimp only); omega)
   ·refine W.exit (xin_here (Ws (Wr (Q (mI rfl) <| Q (aI rfl) <| Q (aB rfl) <| Qn (W.ret (ret2 rfl (v := .int .i64 _) (v' := .bool _) rfl rfl (⟨eR (eT2 (eI (by rw [if_pos ‹_›]; have hh := ‹_ ∧ sumT _ = _ ∧ _›; rw [← hh.2.1, List.take_of_length_le (by omega)])) (eDT h13)), hB24⟩)))))))
theorem c_spec_TornCopies (w : World) (x : Library) {Ax1 : Option Addr} {nx1 cx1 Bx1 : Nat} (hx1 : SlR w Bx1 encLMap 3 Ax1 nx1 cx1 x.Maps) {Ax2 : Option Addr} {nx2 cx2 Bx2 : Nat} (hx2 : SlR w Bx2 encAway 2 Ax2 nx2 cx2 x.Away) : Calls Tryz.prog 137 #[.agg (List.toArray (cLb Ax1 nx1 cx1 Ax2 nx2 cx2 x))] w fun e w' => e = .returned (.tuple (List.toArray [.int .i64 (if LibOK x then sumT x.Maps else 0), .bool (decide (LibOK x))])) ∧ Lo w w' := by
 refine calls_W 9 Tryz.func137 rfl rfl rfl ?_
 have hbdx1 := hx1.bound
 have hlex1 := hx1.len
 have hBbx1 := hx1.bd
 have hbdx2 := hx2.bound
 have hlex2 := hx2.len
 have hBbx2 := hx2.bd
 refine Ws (Wr (SR.box (v := .agg (List.toArray _)) (l := (cLb Ax1 nx1 cx1 Ax2 nx2 cx2 x)) rfl rfl ?_))
 intro g1 w2 hg3 hk4 hs5 hb6
 refine Q (aI rfl) <| Q (aB rfl) <| Qn (Ws (Ws (Wr (Q (lG agg34 rfl hb6 rfl) <| Qv ent80 (c_spec_l32Good w2 x (hx1.lo hk4) (hx2.lo hk4)) rfl fun w9 hk10 hz11 => ?_))))
 have hB12 := ((Lo.refl w).lo hk4).lo hk10
 refine Q (r_not rfl) <| Qn (W.cond_n rfl (fun h13 => ?_) (fun h13 => ?_))
 ·refine Ws (Wr (Q (aI rfl) <| Q (aB rfl) <| Qn (W.ret (ret2 rfl (v := .int .i64 _) (v' := .bool _) rfl rfl (⟨eR (eT2 (eI (by first | assumption | simp [*])) (eDF h13)), hB12⟩)))))
 ·have hq16 := And.left h13
  have hq17 := lib_len h13
  have hq18 := And.left hq16
  have hq19 := And.right hq16
  refine W.skip (Ws (Wr (Q (lG agg34 rfl (hb6.lo hk10) rfl) <| Qv ent132 (c_spec_l32There w9 x ((hx1.lo hk4).lo hk10) ((hx2.lo hk4).lo hk10) true (by first | assumption | exact MTo.end_ (And.right ‹_ ∧ MTo _ _›) (by omega)) (by omega)) rfl fun w22 hk23 hz24 => ?_)))
  have hq26 : 0 ≤ (if true = true then sumT x.Maps else sumC x.Maps) ∧ (if true = true then sumT x.Maps else sumC x.Maps) ≤ 792 := there_rng true ‹MapsOK _› (by omega)
  refine Q (aI rfl) <| Q (aB rfl) <| Qn (W.ret (ret2 rfl (v := .int .i64 _) (v' := .bool _) rfl rfl (⟨eR (eT2 (eI (by first | assumption | simp [*])) (eDT h13)), (hB12.lo hk23)⟩)))
theorem c_impl_ReadersOf (w : World) (x : Library) {Ax1 : Option Addr} {nx1 cx1 Bx1 : Nat} (hx1 : SlR w Bx1 encLMap 3 Ax1 nx1 cx1 x.Maps) {Ax2 : Option Addr} {nx2 cx2 Bx2 : Nat} (hx2 : SlR w Bx2 encAway 2 Ax2 nx2 cx2 x.Away) (id : Int) (hp0 : (nx1 : Int) ≤ 1048576) : Calls Tryz.prog 155 #[.agg (List.toArray (cLb Ax1 nx1 cx1 Ax2 nx2 cx2 x)), .int .i64 id] w fun e w' => ∃ (A1' : Option Addr) (n1' c1' : Nat), e = .returned (.tuple (List.toArray [.slice A1' n1' c1', .bool (decide (LibOK x ∧ 0 ≤ idxF (hasId id) x.Maps))])) ∧ SlO w' w.heap.size encI 1 3 A1' n1' c1' (if LibOK x ∧ 0 ≤ idxF (hasId id) x.Maps then selL (ofM id) Away.Reader x.Away else []) ∧ Lo w w' := by
 refine calls_W 24 Tryz.func155 rfl rfl rfl ?_
 have hbdx1 := hx1.bound
 have hlex1 := hx1.len
 have hBbx1 := hx1.bd
 have hbdx2 := hx2.bound
 have hlex2 := hx2.len
 have hBbx2 := hx2.bd
 refine Ws (Wr (SR.box (v := .agg (List.toArray _)) (l := (cLb Ax1 nx1 cx1 Ax2 nx2 cx2 x)) rfl rfl ?_))
 intro g1 w2 hg3 hk4 hs5 hb6
 refine Q (r_as (v := .slice none 0 0) rfl) <| Q (aB rfl) <| Qn (Ws (Ws (Wr (Q (lG agg34 rfl hb6 rfl) <| Q (mI rfl) <| Qv ent121 (c__impl_Library__mapAt w2 x (hx1.lo hk4) (hx2.lo hk4) id (by omega)) rfl fun w9 hk10 hz11 => ?_))))
 have hq13 : bsP cmpM id x.Maps ≤ x.Maps.length := bsP_le
 refine Q (mT rfl) <| Q (xI rfl rfl) <| Q (xB rfl rfl) <| Q (aI rfl) <| Q (aB rfl) <| Qn (Ws ?_)
 have hm14 := (hx1.lo hk4).lo hk10
 have hm15 := (hx2.lo hk4).lo hk10
 refine W.regJS (fun f' w' => At f' [(1, .int .i64 id), (2, .pointer (pA g1)), (4, .slice none 0 0), (5, .bool false), (20, .bool (decide ((¬ (bsF cmpM id x.Maps)) ∨ (¬ (LibOK x)))))] ∧ Lo w9 w') ?_ ?_
 ·refine Q (mB rfl) <| Q (r_not rfl) <| Q (mB rfl) <| SR.splitN (fun h16 => ?_) (fun h16 => ?_)
  ·refine Qs rfl <| Qs rfl <| Qs rfl <| Q (r_pick true rfl (v := .bool true) rfl) <| Qn (⟨_, rfl, ⟨⟨rfl, rfl, rfl, rfl, (eDT ((jmf h16).1 trivial)), trivial⟩, (Lo.refl _)⟩⟩)
  ·have hq17 := And.left h16
   have hq18 := And.left h16
   refine Qg rfl (lG agg34 rfl (hb6.lo hk10) rfl) <| SR.gcall rfl ent72 (c_impl_IsLibrary w9 x hm14 hm15 (by omega)) rfl ?_
   rintro e w19 ⟨rfl, hk20⟩
   refine ⟨_, rfl, ?_⟩
   have hz21 := hk20.size
   refine Qg rfl (r_not rfl) <| Q (r_pick false rfl (v := .bool _) rfl) <| Qn (⟨_, rfl, ⟨⟨rfl, rfl, rfl, rfl, (eND (jmt h16)), trivial⟩, hk20⟩⟩)
 rintro f23 w24 ⟨hat25, hk26⟩
 rw [← sets_of_at hat25]
 have hz27 := hk26.size
 have hB28 := (((Lo.refl w).lo hk4).lo hk10).lo hk26
 refine W.cond_d rfl (fun h29 => ?_) (fun h29 => ?_)
 ·refine Ws (Wr (Q (r_as (v := .slice none 0 0) rfl) <| Q (aB rfl) <| Qn (W.ret (ret2 rfl (v := .slice none 0 0) (v' := .bool _) rfl rfl (⟨none, 0, 0, eR (eT2 rfl (eDF (by first | exact ro_yes ‹_› ‹_› | exact ro_no ‹_›))), (SlO.eqv (SlO.nil (e := 3) (enc := encI) (fun _ => rfl) (by omega)) (by first | (rw [if_pos (ro_yes ‹_› ‹_›)]) | (rw [if_neg (ro_no ‹_›)]))), hB28⟩)))))
 ·have hq31 : bsF cmpM id x.Maps := (Classical.not_not.1 (not_or.1 h29).1)
  have hq32 : LibOK x := (Classical.not_not.1 (not_or.1 h29).2)
  have hq33 := And.left hq31
  have hq34 := And.left hq31
  have hq35 := And.left hq32
  have hq36 := lib_len hq32
  have hq37 := And.left hq35
  have hq38 := And.right hq35
  refine W.skip (Ws (Wr (Q (lG agg34 rfl ((hb6.lo hk10).lo hk26) rfl) <| Q (mI rfl) <| SR.call ent126 (c__impl_Library__readersOf w24 x (hm14.lo hk26) (hm15.lo hk26) id (by omega)) rfl ?_)))
  rintro e w40 ⟨A42, n43, c44, rfl, hO45, hk41⟩
  refine ⟨_, rfl, ?_⟩
  have hz46 := hk41.size
  have hl48 := hO45.len
  have hl49 := hO45.rd.bound
  have hq50 := sel_len x.Away (ofM id) Away.Reader
  refine Q (aL rfl) <| Q (aB rfl) <| Qn (W.ret (ret2 rfl (v := .slice _ _ _) (v' := .bool _) rfl rfl (⟨A42, n43, c44, eR (eT2 rfl (eDT (by first | exact ro_yes ‹_› ‹_› | exact ro_no ‹_›))), (SlO.eqv (hO45.down) (by first | (rw [if_pos (ro_yes ‹_› ‹_›)]) | (rw [if_neg (ro_no ‹_›)]))), (hB28.lo hk41)⟩)))
theorem c_spec_ReadersOf (w : World) (x : Library) {Ax1 : Option Addr} {nx1 cx1 Bx1 : Nat} (hx1 : SlR w Bx1 encLMap 3 Ax1 nx1 cx1 x.Maps) {Ax2 : Option Addr} {nx2 cx2 Bx2 : Nat} (hx2 : SlR w Bx2 encAway 2 Ax2 nx2 cx2 x.Away) (id : Int) : Calls Tryz.prog 141 #[.agg (List.toArray (cLb Ax1 nx1 cx1 Ax2 nx2 cx2 x)), .int .i64 id] w fun e w' => ∃ (A1' : Option Addr) (n1' c1' : Nat), e = .returned (.tuple (List.toArray [.slice A1' n1' c1', .bool (decide (LibOK x ∧ 0 ≤ idxF (hasId id) x.Maps))])) ∧ SlO w' w.heap.size encI 1 3 A1' n1' c1' (if LibOK x ∧ 0 ≤ idxF (hasId id) x.Maps then selL (ofM id) Away.Reader x.Away else []) ∧ Lo w w' := by
 refine calls_W 19 Tryz.func141 rfl rfl rfl ?_
 have hbdx1 := hx1.bound
 have hlex1 := hx1.len
 have hBbx1 := hx1.bd
 have hbdx2 := hx2.bound
 have hlex2 := hx2.len
 have hBbx2 := hx2.bd
 refine Ws (Wr (SR.box (v := .agg (List.toArray _)) (l := (cLb Ax1 nx1 cx1 Ax2 nx2 cx2 x)) rfl rfl ?_))
 intro g1 w2 hg3 hk4 hs5 hb6
 refine Q (r_as (v := .slice none 0 0) rfl) <| Q (aB rfl) <| Qn (Ws (Ws (W.regJS (fun f' w' => At f' [(1, .int .i64 id), (2, .pointer (pA g1)), (4, .slice none 0 0), (5, .bool false), (14, .bool (decide ((¬ (LibOK x)) ∨ ((idxF (hasId id) x.Maps) < 0))))] ∧ Lo w2 w') ?_ ?_)))
 ·refine Q (lG agg34 rfl hb6 rfl) <| Qv ent80 (c_spec_l32Good w2 x (hx1.lo hk4) (hx2.lo hk4)) rfl fun w9 hk10 hz11 => (Q (r_not rfl) <| Q (mB rfl) <| SR.splitN (fun h13 => ?_) (fun h13 => ?_))
  ·refine Qs rfl <| Qs rfl <| Qs rfl <| Qs rfl <| Q (r_pick true rfl (v := .bool true) rfl) <| Qn (⟨_, rfl, ⟨⟨rfl, rfl, rfl, rfl, (eDT ((jmf h13).1 trivial)), trivial⟩, hk10⟩⟩)
  ·have hq14 := And.left h13
   have hq15 := lib_len h13
   have hq16 := And.left hq14
   have hq17 := And.right hq14
   refine Qg rfl (lG agg34 rfl (hb6.lo hk10) rfl) <| Qg rfl (mI rfl) <| SR.gcall rfl ent165 (c_spec_l32Map w9 x ((hx1.lo hk4).lo hk10) ((hx2.lo hk4).lo hk10) id) rfl ?_
   rintro e w18 ⟨rfl, hk19⟩
   refine ⟨_, rfl, ?_⟩
   have hz20 := hk19.size
   have hq22 : idxF (hasId id) x.Maps < (x.Maps.length : Int) ∧ -1 ≤ idxF (hasId id) x.Maps := idx_lt
   refine Qg rfl (r_lt rfl rfl) <| Q (r_pick false rfl (v := .bool _) rfl) <| Qn (⟨_, rfl, ⟨⟨rfl, rfl, rfl, rfl, (eDD (jmt h13)), trivial⟩, (hk10.trans hk19)⟩⟩)
 rintro f23 w24 ⟨hat25, hk26⟩
 rw [← sets_of_at hat25]
 have hz27 := hk26.size
 have hB28 := ((Lo.refl w).lo hk4).lo hk26
 refine W.cond_d rfl (fun h29 => ?_) (fun h29 => ?_)
 ·refine Ws (Wr (SR.lit (vs := []) (L := ([] : List Int)) (enc := encI) tel93 (fun _ => rfl) rfl rfl rfl (by decide) ?_))
  intro g32 w33 hg34 hk35 hO36
  have hz37 := hk35.size
  refine Q (aL rfl) <| Q (aB rfl) <| Qn (W.ret (ret2 rfl (v := .slice _ _ _) (v' := .bool _) rfl rfl (⟨(pA g32), 0, 0, eR (eT2 rfl (eDF (by first | exact ⟨‹LibOK x›, by omega⟩ | exact ro_noS ‹_›))), (SlO.eqv (hO36.down) (by first | (rw [if_pos ⟨‹LibOK x›, by omega⟩]) | (rw [if_neg (ro_noS ‹_›)]))), (hB28.lo hk35)⟩)))
 ·have hq39 : LibOK x := (Classical.not_not.1 (not_or.1 h29).1)
  have hq40 : ¬ ((idxF (hasId id) x.Maps) < 0) := (not_or.1 h29).2
  have hq41 := And.left hq39
  have hq42 := lib_len hq39
  have hq43 := Int.not_lt.1 hq40
  have hq44 := And.left hq41
  have hq45 := And.right hq41
  refine W.skip (Ws (Wr (Q (lG agg34 rfl (hb6.lo hk26) rfl) <| Q (mI rfl) <| SR.call ent128 (c_spec_l32At w24 x ((hx1.lo hk4).lo hk26) ((hx2.lo hk4).lo hk26) id (by omega)) rfl ?_)))
  rintro e w48 ⟨A50, n51, c52, rfl, hO53, hk49⟩
  refine ⟨_, rfl, ?_⟩
  have hz54 := hk49.size
  have hl56 := hO53.len
  have hl57 := hO53.rd.bound
  have hq58 := sel_len x.Away (ofM id) Away.Reader
  refine Q (aL rfl) <| Q (aB rfl) <| Qn (W.ret (ret2 rfl (v := .slice _ _ _) (v' := .bool _) rfl rfl (⟨A50, n51, c52, eR (eT2 rfl (eDT (by first | exact ⟨‹LibOK x›, by omega⟩ | exact ro_noS ‹_›))), (SlO.eqv (hO53.down) (by first | (rw [if_pos ⟨‹LibOK x›, by omega⟩]) | (rw [if_neg (ro_noS ‹_›)]))), (hB28.lo hk49)⟩)))
end Go.Proofs.YtndcchndcghmoaaGreatDoor
namespace Go.Proofs.YtndcchndcghmoaaGreatDoor
open Go Go.RowKit Fw
set_option maxRecDepth 10000
set_option maxHeartbeats 2000000
set_option linter.unusedVariables false
theorem bld102_0 (a0 : Int) : Tryz.prog.built 102 [(0, .int .i64 a0)] = some (List.toArray [.int .i64 a0, .int .i64 0, .int .i64 0]) := by kernel_rfl
theorem bld129_0_1 (a0 : Int) (a1 : Int) : Tryz.prog.built 129 [(0, .int .i64 a0), (1, .int .i64 a1)] = some (List.toArray [.int .i64 a0, .int .i64 a1]) := by kernel_rfl
theorem bld34_ : Tryz.prog.built 34 [] = some (List.toArray [.slice none 0 0, .slice none 0 0, .int .i64 0, .int .i64 0, .int .i64 0]) := by kernel_rfl
theorem bld34_0_1_2_3_4 (a0 : Option Addr) (b0 c0 : Nat) (a1 : Option Addr) (b1 c1 : Nat) (a2 : Int) (a3 : Int) (a4 : Int) : Tryz.prog.built 34 [(0, .slice a0 b0 c0), (1, .slice a1 b1 c1), (2, .int .i64 a2), (3, .int .i64 a3), (4, .int .i64 a4)] = some (List.toArray [.slice a0 b0 c0, .slice a1 b1 c1, .int .i64 a2, .int .i64 a3, .int .i64 a4]) := by kernel_rfl
theorem ent182 : Ent Tryz.prog 182 := en Tryz.func182
theorem ent209 : Ent Tryz.prog 209 := en Tryz.func209
theorem ent210 : Ent Tryz.prog 210 := en Tryz.func210
theorem ent211 : Ent Tryz.prog 211 := en Tryz.func211
theorem ent227 : Ent Tryz.prog 227 := en Tryz.func227
theorem ent91 : Ent Tryz.prog 91 := en Tryz.func91
theorem ent92 : Ent Tryz.prog 92 := en Tryz.func92
theorem fa106_0 : FA Tryz.prog 106 0 0 := fun _ _ => by kernel_rfl
theorem fa106_1 : FA Tryz.prog 106 1 1 := fun _ _ => by kernel_rfl
theorem fa106_2 : FA Tryz.prog 106 2 2 := fun _ _ => by kernel_rfl
theorem fa106_3 : FA Tryz.prog 106 3 3 := fun _ _ => by kernel_rfl
theorem ovl207 : Ovl Tryz.prog 207 31 4 := fun args w => run_callFunc_extern Tryz.func207 (by kernel_rfl) (by kernel_rfl) (by kernel_rfl) (by kernel_rfl) args w
theorem ovl228 : Ovl Tryz.prog 228 32 4 := fun args w => run_callFunc_extern Tryz.func228 (by kernel_rfl) (by kernel_rfl) (by kernel_rfl) (by kernel_rfl) args w
theorem tel31 : TEl Tryz.prog 31 102 (.agg (List.toArray [.int .i64 0, .int .i64 0, .int .i64 0])) 3 24 := ⟨by kernel_rfl, by kernel_rfl, rfl, by decide⟩
theorem tel32 : TEl Tryz.prog 32 129 (.agg (List.toArray [.int .i64 0, .int .i64 0])) 2 16 := ⟨by kernel_rfl, by kernel_rfl, rfl, by decide⟩
theorem tz34 : TZ Tryz.prog 34 (.agg (List.toArray [.slice none 0 0, .slice none 0 0, .int .i64 0, .int .i64 0, .int .i64 0])) := fun _ => by kernel_rfl
open Classical in
noncomputable def impl_isLibraryStep (s : LibraryStep) : Bool :=
 if s.Kind = 1 then decide ((1 ≤ s.Id ∧ s.Id ≤ 99) ∧ ((s.Reader = 0) ∧ (1 ≤ s.Value ∧ s.Value ≤ 50))) else if s.Kind = 2 then decide ((1 ≤ s.Reader ∧ s.Reader ≤ 999) ∧ (s.Value = 0)) else if s.Kind = 3 then decide ((1 ≤ s.Reader ∧ s.Reader ≤ 999) ∧ (0 ≤ s.Value ∧ s.Value ≤ 1)) else if s.Kind = 5 then decide ((1 ≤ s.Reader ∧ s.Reader ≤ 999) ∧ (1 ≤ s.Value ∧ s.Value ≤ 999)) else if s.Kind = 4 then decide ((s.Reader = 0) ∧ (1 ≤ s.Value)) else if s.Kind = 6 then decide ((s.Reader = 0) ∧ (1 ≤ s.Value)) else if s.Kind = 7 then decide ((s.Reader = 0) ∧ (1 ≤ s.Value)) else false
theorem c_impl_isLibraryStep (w : World) (s : LibraryStep) : Calls Tryz.prog 150 #[.agg (List.toArray (encLibraryStep s))] w fun e w' => e = .returned (.bool (impl_isLibraryStep s)) ∧ Lo w w' := by
 refine calls_W 62 Tryz.func150 rfl rfl rfl (Ws (Wr (SR.box (v := .agg (List.toArray _)) (l := [.int .i64 s.Kind, .int .i64 s.Id, .int .i64 s.Reader, .int .i64 s.Value]) rfl rfl ?_)))
 intro g1 w2 hg3 hk4 hs5 hb6
 have hB8 := (Lo.refl w).lo hk4
 refine Q (aB rfl) <| Qn (Ws (Ws (Wr (Q (fA fa106_0 rfl) <| Q (lB sca3 rfl hb6 rfl) <| Qn (W.block (Ws (Wr (Q (r_eq rfl rfl) <| Q (aB rfl) <| Qn (W.cond_d rfl (fun h9 => ?_) (fun h9 => ?_))))))))))
 ·refine Ws (W.regJS (fun f' w' => At f' [(2, .bool (decide ((1 ≤ s.Id ∧ s.Id ≤ 99) ∧ ((s.Reader = 0) ∧ (1 ≤ s.Value ∧ s.Value ≤ 50)))))] ∧ Lo w2 w') ?_ ?_)
  ·refine Q (fA fa106_1 rfl) <| Q (lB sca3 rfl hb6 rfl) <| Qv ent120 (c_impl_isMapId w2 s.Id) rfl fun w10 hk11 hz12 => (Q (mB rfl) <| SR.splitD (fun h14 => ?_) (fun h14 => ?_))
   ·refine Qg rfl (fA fa106_2 rfl) <| Qg rfl (lB sca3 rfl (hb6.lo hk11) rfl) <| Qg rfl (r_eq rfl rfl) <| Q (r_pick true rfl (v := .bool _) rfl) <| Q (mB rfl) <| SR.splitD (fun h15 => ?_) (fun h15 => ?_)
    ·refine Qg rfl (fA fa106_3 rfl) <| Qg rfl (lB sca3 rfl (hb6.lo hk11) rfl) <| SR.gcall rfl ent66 (c_impl_within w10 s.Value 1 50) rfl ?_
     rintro e w16 ⟨rfl, hk17⟩
     refine ⟨_, rfl, ?_⟩
     have hz18 := hk17.size
     refine Q (r_pick true rfl (v := .bool _) rfl) <| Q (aB rfl) <| Qn (⟨_, rfl, ⟨⟨(eDD ((jat h15).trans (jat h14))), trivial⟩, (hk11.trans hk17)⟩⟩)
    ·refine Qs rfl <| Qs rfl <| Qs rfl <| Q (r_pick false rfl (v := .bool false) rfl) <| Q (aB rfl) <| Qn (⟨_, rfl, ⟨⟨(eDF ((jaf h15).trans (jat h14)).2), trivial⟩, hk11⟩⟩)
   ·refine Qs rfl <| Qs rfl <| Qs rfl <| Q (r_pick false rfl (v := .bool false) rfl) <| Q (mB rfl) <| Qs rfl <| Qs rfl <| Qs rfl <| Q (r_pick false rfl (v := .bool false) rfl) <| Q (aB rfl) <| Qn (⟨_, rfl, ⟨⟨(eDF (jaf h14).2), trivial⟩, hk11⟩⟩)
  rintro f20 w21 ⟨hat22, hk23⟩
  rw [← sets_of_at hat22]
  have hz24 := hk23.size
  refine W.ret (ret1 rfl (v := .bool _) rfl ?_)
  exact ⟨eR (eB (by unfold impl_isLibraryStep; rw [if_pos h9] <;> rfl)), (hB8.lo hk23)⟩
 ·refine Ws (Wr (Q (r_eq rfl rfl) <| Q (aB rfl) <| Qn (W.cond_d rfl (fun h26 => ?_) (fun h26 => ?_))))
  ·refine Ws (W.regJS (fun f' w' => At f' [(2, .bool (decide ((1 ≤ s.Reader ∧ s.Reader ≤ 999) ∧ (s.Value = 0))))] ∧ Lo w2 w') ?_ ?_)
   ·refine Q (fA fa106_2 rfl) <| Q (lB sca3 rfl hb6 rfl) <| Qv ent122 (c_impl_isId w2 s.Reader) rfl fun w27 hk28 hz29 => (Q (mB rfl) <| SR.splitD (fun h31 => ?_) (fun h31 => ?_))
    ·refine Qg rfl (fA fa106_3 rfl) <| Qg rfl (lB sca3 rfl (hb6.lo hk28) rfl) <| Qg rfl (r_eq rfl rfl) <| Q (r_pick true rfl (v := .bool _) rfl) <| Q (aB rfl) <| Qn (⟨_, rfl, ⟨⟨(eDD (jat h31)), trivial⟩, hk28⟩⟩)
    ·refine Qs rfl <| Qs rfl <| Qs rfl <| Q (r_pick false rfl (v := .bool false) rfl) <| Q (aB rfl) <| Qn (⟨_, rfl, ⟨⟨(eDF (jaf h31).2), trivial⟩, hk28⟩⟩)
   rintro f32 w33 ⟨hat34, hk35⟩
   rw [← sets_of_at hat34]
   have hz36 := hk35.size
   refine W.ret (ret1 rfl (v := .bool _) rfl ?_)
   exact ⟨eR (eB (by unfold impl_isLibraryStep; rw [if_neg h9, if_pos h26] <;> rfl)), (hB8.lo hk35)⟩
  ·refine Ws (Wr (Q (r_eq rfl rfl) <| Q (aB rfl) <| Qn (W.cond_d rfl (fun h38 => ?_) (fun h38 => ?_))))
   ·refine Ws (W.regJS (fun f' w' => At f' [(2, .bool (decide ((1 ≤ s.Reader ∧ s.Reader ≤ 999) ∧ (0 ≤ s.Value ∧ s.Value ≤ 1))))] ∧ Lo w2 w') ?_ ?_)
    ·refine Q (fA fa106_2 rfl) <| Q (lB sca3 rfl hb6 rfl) <| Qv ent122 (c_impl_isId w2 s.Reader) rfl fun w39 hk40 hz41 => (Q (mB rfl) <| SR.splitD (fun h43 => ?_) (fun h43 => ?_))
     ·refine Qg rfl (fA fa106_3 rfl) <| Qg rfl (lB sca3 rfl (hb6.lo hk40) rfl) <| SR.gcall rfl ent66 (c_impl_within w39 s.Value 0 1) rfl ?_
      rintro e w44 ⟨rfl, hk45⟩
      refine ⟨_, rfl, ?_⟩
      have hz46 := hk45.size
      refine Q (r_pick true rfl (v := .bool _) rfl) <| Q (aB rfl) <| Qn (⟨_, rfl, ⟨⟨(eDD (jat h43)), trivial⟩, (hk40.trans hk45)⟩⟩)
     ·refine Qs rfl <| Qs rfl <| Qs rfl <| Q (r_pick false rfl (v := .bool false) rfl) <| Q (aB rfl) <| Qn (⟨_, rfl, ⟨⟨(eDF (jaf h43).2), trivial⟩, hk40⟩⟩)
    rintro f48 w49 ⟨hat50, hk51⟩
    rw [← sets_of_at hat50]
    have hz52 := hk51.size
    refine W.ret (ret1 rfl (v := .bool _) rfl ?_)
    exact ⟨eR (eB (by unfold impl_isLibraryStep; rw [if_neg h9, if_neg h26, if_pos h38] <;> rfl)), (hB8.lo hk51)⟩
   ·refine Ws (Wr (Q (r_eq rfl rfl) <| Q (aB rfl) <| Qn (W.cond_d rfl (fun h54 => ?_) (fun h54 => ?_))))
    ·refine Ws (W.regJS (fun f' w' => At f' [(2, .bool (decide ((1 ≤ s.Reader ∧ s.Reader ≤ 999) ∧ (1 ≤ s.Value ∧ s.Value ≤ 999))))] ∧ Lo w2 w') ?_ ?_)
     ·refine Q (fA fa106_2 rfl) <| Q (lB sca3 rfl hb6 rfl) <| Qv ent122 (c_impl_isId w2 s.Reader) rfl fun w55 hk56 hz57 => (Q (mB rfl) <| SR.splitD (fun h59 => ?_) (fun h59 => ?_))
      ·refine Qg rfl (fA fa106_3 rfl) <| Qg rfl (lB sca3 rfl (hb6.lo hk56) rfl) <| SR.gcall rfl ent122 (c_impl_isId w55 s.Value) rfl ?_
       rintro e w60 ⟨rfl, hk61⟩
       refine ⟨_, rfl, ?_⟩
       have hz62 := hk61.size
       refine Q (r_pick true rfl (v := .bool _) rfl) <| Q (aB rfl) <| Qn (⟨_, rfl, ⟨⟨(eDD (jat h59)), trivial⟩, (hk56.trans hk61)⟩⟩)
      ·refine Qs rfl <| Qs rfl <| Qs rfl <| Q (r_pick false rfl (v := .bool false) rfl) <| Q (aB rfl) <| Qn (⟨_, rfl, ⟨⟨(eDF (jaf h59).2), trivial⟩, hk56⟩⟩)
     rintro f64 w65 ⟨hat66, hk67⟩
     rw [← sets_of_at hat66]
     have hz68 := hk67.size
     refine W.ret (ret1 rfl (v := .bool _) rfl ?_)
     exact ⟨eR (eB (by unfold impl_isLibraryStep; rw [if_neg h9, if_neg h26, if_neg h38, if_pos h54] <;> rfl)), (hB8.lo hk67)⟩
    ·refine Ws (Ws (Wr (Q (r_eq rfl rfl) <| Q (aB rfl) <| Qn (W.cond_d rfl (fun h70 => ?_) (fun h70 => ?_)))))
     ·refine W.skip (W.cond_t (congrArg Value.bool (decide_eq_true h70)) (Ws (W.regJS (fun f' w' => At f' [(2, .bool (decide ((s.Reader = 0) ∧ (1 ≤ s.Value))))] ∧ Lo w2 w') ?_ ?_)))
      ·refine Q (fA fa106_2 rfl) <| Q (lB sca3 rfl hb6 rfl) <| Q (r_eq rfl rfl) <| Q (mB rfl) <| SR.splitD (fun h71 => ?_) (fun h71 => ?_)
       ·refine Qg rfl (fA fa106_3 rfl) <| Qg rfl (lB sca3 rfl hb6 rfl) <| Qg rfl (r_ge rfl rfl) <| Q (r_pick true rfl (v := .bool _) rfl) <| Q (aB rfl) <| Qn (⟨_, rfl, ⟨⟨(eDD (jat h71)), trivial⟩, (Lo.refl _)⟩⟩)
       ·refine Qs rfl <| Qs rfl <| Qs rfl <| Q (r_pick false rfl (v := .bool false) rfl) <| Q (aB rfl) <| Qn (⟨_, rfl, ⟨⟨(eDF (jaf h71).2), trivial⟩, (Lo.refl _)⟩⟩)
      rintro f72 w73 ⟨hat74, hk75⟩
      rw [← sets_of_at hat74]
      have hz76 := hk75.size
      refine W.ret (ret1 rfl (v := .bool _) rfl ?_)
      exact ⟨eR (eB (by unfold impl_isLibraryStep; rw [if_neg h9, if_neg h26, if_neg h38, if_neg h54, if_pos h70] <;> rfl)), (hB8.lo hk75)⟩
     ·refine Ws (Wr (Q (r_eq rfl rfl) <| Q (aB rfl) <| Qn (W.cond_d rfl (fun h78 => ?_) (fun h78 => ?_))))
      ·refine W.skip (W.cond_t (congrArg Value.bool (decide_eq_true h78)) (Ws (W.regJS (fun f' w' => At f' [(2, .bool (decide ((s.Reader = 0) ∧ (1 ≤ s.Value))))] ∧ Lo w2 w') ?_ ?_)))
       ·refine Q (fA fa106_2 rfl) <| Q (lB sca3 rfl hb6 rfl) <| Q (r_eq rfl rfl) <| Q (mB rfl) <| SR.splitD (fun h79 => ?_) (fun h79 => ?_)
        ·refine Qg rfl (fA fa106_3 rfl) <| Qg rfl (lB sca3 rfl hb6 rfl) <| Qg rfl (r_ge rfl rfl) <| Q (r_pick true rfl (v := .bool _) rfl) <| Q (aB rfl) <| Qn (⟨_, rfl, ⟨⟨(eDD (jat h79)), trivial⟩, (Lo.refl _)⟩⟩)
        ·refine Qs rfl <| Qs rfl <| Qs rfl <| Q (r_pick false rfl (v := .bool false) rfl) <| Q (aB rfl) <| Qn (⟨_, rfl, ⟨⟨(eDF (jaf h79).2), trivial⟩, (Lo.refl _)⟩⟩)
       rintro f80 w81 ⟨hat82, hk83⟩
       rw [← sets_of_at hat82]
       have hz84 := hk83.size
       refine W.ret (ret1 rfl (v := .bool _) rfl ?_)
       exact ⟨eR (eB (by unfold impl_isLibraryStep; rw [if_neg h9, if_neg h26, if_neg h38, if_neg h54, if_neg h70, if_pos h78] <;> rfl)), (hB8.lo hk83)⟩
      ·refine Wr (Q (r_eq rfl rfl) <| Q (aB rfl) <| Qn (W.cond_d rfl (fun h86 => ?_) (fun h86 => ?_)))
       ·refine Ws (W.regJS (fun f' w' => At f' [(2, .bool (decide ((s.Reader = 0) ∧ (1 ≤ s.Value))))] ∧ Lo w2 w') ?_ ?_)
        ·refine Q (fA fa106_2 rfl) <| Q (lB sca3 rfl hb6 rfl) <| Q (r_eq rfl rfl) <| Q (mB rfl) <| SR.splitD (fun h87 => ?_) (fun h87 => ?_)
         ·refine Qg rfl (fA fa106_3 rfl) <| Qg rfl (lB sca3 rfl hb6 rfl) <| Qg rfl (r_ge rfl rfl) <| Q (r_pick true rfl (v := .bool _) rfl) <| Q (aB rfl) <| Qn (⟨_, rfl, ⟨⟨(eDD (jat h87)), trivial⟩, (Lo.refl _)⟩⟩)
         ·refine Qs rfl <| Qs rfl <| Qs rfl <| Q (r_pick false rfl (v := .bool false) rfl) <| Q (aB rfl) <| Qn (⟨_, rfl, ⟨⟨(eDF (jaf h87).2), trivial⟩, (Lo.refl _)⟩⟩)
        rintro f88 w89 ⟨hat90, hk91⟩
        rw [← sets_of_at hat90]
        have hz92 := hk91.size
        refine W.ret (ret1 rfl (v := .bool _) rfl ?_)
        exact ⟨eR (eB (by unfold impl_isLibraryStep; rw [if_neg h9, if_neg h26, if_neg h38, if_neg h54, if_neg h70, if_neg h78, if_pos h86] <;> rfl)), (hB8.lo hk91)⟩
       ·refine W.skip (Ws (Wr (Q (aB rfl) <| Qn (W.ret (ret1 rfl (v := .bool _) rfl ?_)))))
        exact ⟨eR (eB (by unfold impl_isLibraryStep; rw [if_neg h9, if_neg h26, if_neg h38, if_neg h54, if_neg h70, if_neg h78, if_neg h86] <;> rfl)), hB8⟩
theorem c_slices_Clone___impl_Map_impl_Map_ (w : World) {AL : Option Addr} {nL cL BL : Nat}  (L : List LMap) (hL : SlR w BL encLMap 3 AL nL cL L) (hp0 : (nL : Int) ≤ 1048576) : Calls Tryz.prog 91 #[.slice AL nL cL] w fun e w' => ∃ (A1' : Option Addr) (n1' c1' : Nat), e = .returned (.slice A1' n1' c1') ∧ SlO w' w.heap.size encLMap 3 102 A1' n1' c1' L ∧ Lo w w' := by
 refine calls_W 8 Tryz.func91 rfl rfl rfl ?_
 have hbdL := hL.bound
 have hleL := hL.len
 have hBbL := hL.bd
 refine Ws (Wr (Q (r_as (v := .slice none 0 0) rfl) <| Qn (Ws (Ws (Wr (Q (mL rfl) <| Q (r_eqlnil und31 rfl rfl) <| Qn (W.cond_b rfl (fun h1 => ?_) (fun h1 => ?_))))))))
 ·have hq2 := slR_nil hL h1
  refine Ws (Wr (Q (r_as (v := .slice none 0 0) rfl) <| Qn (W.ret (ret1 rfl (v := .slice none 0 0) rfl (⟨none, 0, 0, eR rfl, (SlO.eqv (SlO.nil (e := 102) (enc := encLMap) (fun _ => rfl) (Nat.le_refl _)) (by first | rfl | (exact (List.eq_nil_of_length_eq_zero (by omega)).symm))), (Lo.refl w)⟩)))))
 ·refine W.skip (Ws (Wr (SR.lit (vs := []) (L := ([] : List LMap)) (enc := encLMap) tel31 (fun _ => rfl) rfl rfl rfl (by decide) ?_)))
  intro g3 w4 hg5 hk6 hO7
  have hz8 := hk6.size
  refine Q (mL rfl) <| SR.app tel31 rfl rfl hO7 (hL.lo hk6) (fun _ => rfl) (by omega) (by omega) ?_
  intro A10 c11 w12 hk13 hO14 hN15
  have hz16 := hk13.size
  rw [List.nil_append] at hO14
  refine Q (aL rfl) <| Qn (W.ret (ret1 rfl (v := .slice _ _ _) rfl (⟨A10, 0 + nL, c11, eR rfl, (hO14.down), (((Lo.refl w).lo hk6).step hk13 (fun i_ hi_ e' => by have := hO7.base_le e'; first | omega | exact e' | exact .inl e' | exact .inr e'))⟩)))
theorem c_slices_Insert___impl_Map_impl_Map_ (w : World) {AL : Option Addr} {nL cL BL : Nat}  (L : List LMap) (hL : SlO w BL encLMap 3 102 AL nL cL L) (i : Int) {AV : Option Addr} {nV cV BV : Nat}  (V : List LMap) (hV : SlO w BV encLMap 3 102 AV nV cV V) (hp0 : 0 ≤ i) (hp1 : i ≤ (nL : Int)) (hp2 : ((nL + nV : Nat) : Int) ≤ 1048576) (hp3 : Dj AV AL) : Calls Tryz.prog 182 #[.slice AL nL cL, .int .i64 i, .slice AV nV cV] w fun e w' => ∃ (A1' : Option Addr) (n1' c1' : Nat), e = .returned (.slice A1' n1' c1') ∧ SlO w' BL encLMap 3 102 A1' n1' c1' (L.take i.toNat ++ V ++ L.drop i.toNat) ∧ (∀ b_, A1' = some ⟨b_, 0, none⟩ → (AL = some ⟨b_, 0, none⟩) ∨ w.heap.size ≤ b_) ∧ Kp (KA AL) w w' := by
 refine calls_W 95 Tryz.func182 rfl rfl rfl ?_
 have hcpL := hL.rd.cap
 have hbbL := hL.rd.bd
 have hbdL := hL.rd.bound
 have hleL := hL.len
 have hBbL := hL.bd
 have hcpV := hV.rd.cap
 have hbbV := hV.rd.bd
 have hbdV := hV.rd.bound
 have hleV := hV.len
 have hBbV := hV.bd
 obtain ⟨i_, rfl⟩ := Int.eq_ofNat_of_zero_le hp0
 refine Ws (Wr (Q (r_as (v := .slice none 0 0) rfl) <| Qn (Ws (Wr (Q (mL rfl) <| Q (mI rfl) <| Q (r_cutl (l := i_) tsl31 rfl rfl rfl (by omega)) <| Qn (Ws (Wr (Q (mL rfl) <| Q (r_len und31 rfl) <| Q (aI rfl) <| Qn (Ws (Ws (Wr (Q (mI rfl) <| Q (r_eq rfl rfl) <| Qn (W.cond_d rfl (fun h1 => ?_) (fun h1 => ?_))))))))))))))
 ·refine Ws (Wr (Q (mL rfl) <| Q (aL rfl) <| Qn (W.ret (ret1 rfl (v := .slice _ _ _) rfl (⟨AL, nL, cL, eR rfl, (SlO.eqv hL (by first | (have hV0 : V = [] := List.eq_nil_of_length_eq_zero (by omega); subst hV0; simp; done) | (exact ins_end hleL (show nL ≤ i_ by omega)) | (exact ins_grow hleL hleV (by omega) (by omega)))), (fun b_ h_ => .inl h_), (Kp.refl w : Kp (KA AL) w w)⟩)))))
 ·refine W.skip (Ws (Wr (Q (mL rfl) <| Q (r_len und31 rfl) <| Q (aI rfl) <| Qn (Ws (Ws (Wr (Q (mI rfl) <| Q (mI rfl) <| Q (r_eq rfl rfl) <| Qn (W.cond_d rfl (fun h2 => ?_) (fun h2 => ?_)))))))))
  ·refine Ws (Wr (Q (mL rfl) <| Q (mL rfl) <| SR.app tel31 rfl rfl hL (hV.rd) (fun _ => rfl) (by omega) (by omega) ?_))
   intro A3 c4 w5 hk6 hO7 hN8
   have hz9 := hk6.size
   refine Q (aL rfl) <| Qn (W.ret (ret1 rfl (v := .slice _ _ _) rfl (⟨A3, nL + nV, c4, eR rfl, (SlO.eqv hO7 (by first | (have hV0 : V = [] := List.eq_nil_of_length_eq_zero (by omega); subst hV0; simp; done) | (exact ins_end hleL (show nL ≤ i_ by omega)) | (exact ins_grow hleL hleV (by omega) (by omega)))), (fun b_ h_ => (hN8 b_ h_).elim (fun h => (fun b_ h_ => .inl h_) b_ (h.trans h_)) (fun h => .inr (by omega))), ((Kp.refl w : Kp (KA AL) w w).step hk6 (fun i_ hi_ e' => by have := hL.base_le e'; first | omega | exact e' | exact .inl e' | exact .inr e'))⟩)))
  ·refine W.skip (Ws (Ws (Wr (Q (mI rfl) <| Q (mI rfl) <| Q (r_add rfl rfl (by omega)) <| Q (mL rfl) <| Q (r_cap und31 rfl) <| Q (r_gt rfl rfl) <| Qn (W.cond_d rfl (fun h11 => ?_) (fun h11 => ?_))))))
   ·refine Ws (Wr (Q (mL rfl) <| Q (mI rfl) <| Q (r_cuth (h := i_) tsl31 rfl rfl rfl (Nat.le_trans (by omega : i_ ≤ nL) hL.rd.cap)) <| Q (mI rfl) <| Q (mI rfl) <| Q (r_add rfl rfl (by omega)) <| Q (mI rfl) <| Q (r_sub rfl rfl (by omega)) <| SR.appZ (k := ((nL + nV) - i_)) (zx := (⟨0, 0, 0⟩ : LMap)) tel31 und3 rfl rfl (by first | rfl | (rw [show (((nL : Int) + (nV : Int)) - (i_ : Int) : Int) = ((((nL + nV) - i_) : Nat) : Int) from by omega]; rfl)) (hL.head (h := i_) (by omega)) (by omega) (by omega) (by omega) (by omega) ?_))
    intro g12 c13 w14 hg15 hk16 hO17
    have hz18 := hk16.size
    refine Q (aL rfl) <| Qn (Ws ?_)
    refine Wr (Q (mL rfl) <| Q (mI rfl) <| Q (r_cutl (l := i_) tsl31 rfl rfl rfl (by omega)) <| Q (mL rfl) <| SR.copyO (l := i_) (q := nV) tel31 rfl rfl hO17 ((hV.lo hk16).rd) (by simp only [Nat.min_def]; split <;> omega) (by omega) (fun _ => rfl) ?_)
    intro w22 hk23 hO24
    have hz25 := hk23.size
    refine Qn (Ws (W.regA (Kp (fun b_ => (pA g12) = some ⟨b_, 0, none⟩) w22) (fun f' w' => At f' [(0, .slice AL nL cL), (1, .int .i64 (i_ : Int)), (2, .slice AV nV cV), (6, .slice none 0 0), (7, .int .i64 (nV : Int)), (8, .int .i64 (nL : Int)), (9, .slice (pA g12) (i_ + ((nL + nV) - i_)) c13)] ∧ (Kp (fun b_ => (pA g12) = some ⟨b_, 0, none⟩) w22 w') ∧ (SlO w' w.heap.size encLMap 3 102 (pA g12) (i_ + ((nL + nV) - i_)) c13 ((((L.take i_) ++ List.replicate ((nL + nV) - i_) (⟨0, 0, 0⟩ : LMap)).take i_ ++ V.take nV ++ ((L.take i_) ++ List.replicate ((nL + nV) - i_) (⟨0, 0, 0⟩ : LMap)).drop (i_ + nV)).take (i_ + nV) ++ (L.drop i_).take (nL - i_) ++ (((L.take i_) ++ List.replicate ((nL + nV) - i_) (⟨0, 0, 0⟩ : LMap)).take i_ ++ V.take nV ++ ((L.take i_) ++ List.replicate ((nL + nV) - i_) (⟨0, 0, 0⟩ : LMap)).drop (i_ + nV)).drop ((i_ + nV) + (nL - i_))))) mo ?_ ?_))
    ·intro w49 hk50
     have hz51 := hk50.size
     refine Ak 0 rfl ((Kp.refl w22 : Kp (fun b_ => (pA g12) = some ⟨b_, 0, none⟩) w22 w22).lo hk50) (fun w' hw' => r_mv (v := .slice _ _ _) rfl) <| Ak 1 rfl ((Kp.refl w22 : Kp (fun b_ => (pA g12) = some ⟨b_, 0, none⟩) w22 w22).lo hk50) (fun w' hw' => r_mv (v := .int .i64 _) rfl) <| Ak 2 rfl ((Kp.refl w22 : Kp (fun b_ => (pA g12) = some ⟨b_, 0, none⟩) w22 w22).lo hk50) (fun w' hw' => r_mv (v := .int .i64 _) rfl) <| Ak 3 rfl ((Kp.refl w22 : Kp (fun b_ => (pA g12) = some ⟨b_, 0, none⟩) w22 w22).lo hk50) (fun w' hw' => r_add rfl rfl (by omega)) <| Ak 4 rfl ((Kp.refl w22 : Kp (fun b_ => (pA g12) = some ⟨b_, 0, none⟩) w22 w22).lo hk50) (fun w' hw' => r_cutl (l := (i_ + nV)) tsl31 rfl rfl (by omega) (by omega)) <| Ak 5 rfl ((Kp.refl w22 : Kp (fun b_ => (pA g12) = some ⟨b_, 0, none⟩) w22 w22).lo hk50) (fun w' hw' => r_mv (v := .slice _ _ _) rfl) <| Ak 6 rfl ((Kp.refl w22 : Kp (fun b_ => (pA g12) = some ⟨b_, 0, none⟩) w22 w22).lo hk50) (fun w' hw' => r_mv (v := .int .i64 _) rfl) <| Ak 7 rfl ((Kp.refl w22 : Kp (fun b_ => (pA g12) = some ⟨b_, 0, none⟩) w22 w22).lo hk50) (fun w' hw' => r_cutl (l := i_) tsl31 rfl rfl rfl (by omega)) <| Ab 8 rfl ?_
     refine SR.copyO (l := (i_ + nV)) (q := nL - i_) tel31 rfl rfl (hO24.lo hk50) ((((hL.lo hk16).kp hk23 (fun b_ hb e' => by have h1 := hO17.base_le e'; have h2 := (hL.lo hk16).base_le hb; have h3 := hL.base_le hb; omega)).rd.cutl (l := i_) (by omega)).lo hk50) (by simp only [Nat.min_def]; split <;> omega) (by omega) (fun _ => rfl) ?_
     intro w53 hk54 hO55
     have hz56 := hk54.size
     have hS58 := ((Kp.refl w22 : Kp (fun b_ => (pA g12) = some ⟨b_, 0, none⟩) w22 w22).lo hk50).step hk54 (fun _ _ e => e)
     refine Qn ⟨hS58, _, rfl, (AH.done (by kernel_rfl) (⟨(At.r rfl), hS58, hO55⟩))⟩
    rintro f59 w60 ⟨hat62, hR61, hm48⟩
    rw [← sets_of_at hat62]
    have hz63 := hR61.size
    refine Ws (Wr (Q (mL rfl) <| Q (aL rfl) <| Qn (W.ret (ret1 rfl (v := .slice _ _ _) rfl (⟨(pA g12), i_ + ((nL + nV) - i_), c13, eR rfl, (SlO.eqv (hm48.down) (by first | (have hV0 : V = [] := List.eq_nil_of_length_eq_zero (by omega); subst hV0; simp; done) | (exact ins_end hleL (show nL ≤ i_ by omega)) | (exact ins_grow hleL hleV (by omega) (by omega)))), (fun b_ h => .inr (by have := hm48.base_le h; omega)), ((((Kp.refl w : Kp (KA AL) w w).lo hk16).step hk23 (fun i_ hi_ e' => by have := hO17.base_le e'; first | omega | exact e' | exact .inl e' | exact .inr e')).step hR61 (fun i_ hi_ e' => by have := hO24.base_le e'; first | omega | exact e' | exact .inl e' | exact .inr e'))⟩)))))
   ·refine W.skip (Ws ?_)
    have hrL := hL.rd
    have hrV := hV.rd
    obtain ⟨gL, cs, rfl, hRw, htk, hcc⟩ := hL.raw (hrL.some (by omega))
    obtain ⟨gV, cv, rfl, hRv, _, _⟩ := hV.raw (hrV.some (by omega))
    have hne : gV ≠ gL := fun e => hp3 gV rfl (by rw [e])
    refine Wr (Q (mL rfl) <| Q (mI rfl) <| Q (mI rfl) <| Q (r_add rfl rfl (by omega)) <| Q (r_cuth (h := nL + nV) tsl31 rfl rfl (by omega) (by omega)) <| Q (aL rfl) <| Qn (Ws (Ws (Wr (Q (mL rfl) <| Q (mL rfl) <| Q (mI rfl) <| Q (mI rfl) <| Q (r_add rfl rfl (by omega)) <| Q (r_cutl (l := i_ + nV) tsl31 rfl rfl (by omega) (by omega)) <| SR.over ovl207 tel31 rfl rfl hne hRv.heap hRw (by omega) <| Q (r_not rfl) <| Qn (W.cond_t rfl (Ws (W.regT 8 mo (by kernel_rfl) ?_))))))))
    intro wd hkd
    refine TR.q' (mL rfl) <| TR.q' (mI rfl) <| TR.q' (mI rfl) <| TR.q' (r_add rfl rfl (by omega)) <| TR.q' (r_cutl (l := i_ + nV) tsl31 rfl rfl (by omega) (by omega)) <| TR.q' (mL rfl) <| TR.q' (mI rfl) <| TR.q' (r_cutl (l := i_) tsl31 rfl rfl (by omega) (by omega)) <| TR.nil ?_
    refine SR.copyR (l := i_ + nV) (m := nL - i_) (vs := (L.drop i_).flatMap encLMap) tel31 rfl rfl (hRw.lo hkd) (by simp only [Nat.min_def]; split <;> omega) (by omega) (by rw [flat_len (sz := 3) (fun _ => rfl), List.length_drop, ← hleL]) (fun _ => ((hrL.lo hkd).cutl (l := i_) (by omega)).flat) (fun h => (hrL.cutl (l := i_) (by omega)).some (by omega)) (fun u hu => by obtain ⟨q, _, hu⟩ := List.mem_flatMap.1 hu; exact List.all_eq_true.1 (show (encLMap q).all (·.oneCell') = true from rfl) u hu) ?_
    intro we hke hRe
    refine Qn (Ws ?_)
    refine Wr (Q (mL rfl) <| Q (mI rfl) <| Q (r_cutl (l := i_) tsl31 rfl rfl (by omega) (by omega)) <| Q (mL rfl) <| SR.copyR (l := i_) (m := nV) (vs := V.flatMap encLMap) tel31 rfl rfl hRe (by simp only [Nat.min_def]; split <;> omega) (by omega) (by rw [flat_len (sz := 3) (fun _ => rfl), ← hleV]) (fun _ => ((hV.lo hkd).kp hke (fun b hb e' => hne (by injection hb with hb; injection hb with hb; rw [hb, e']))).rd.flat) (fun h => hrV.some h) (fun u hu => by obtain ⟨q, _, hu⟩ := List.mem_flatMap.1 hu; exact List.all_eq_true.1 (show (encLMap q).all (·.oneCell') = true from rfl) u hu) ?_)
    intro wf hkf hRf
    refine Qn ?_
    have hBf := (((Kp.refl w : Kp (fun b_ => (pA gL) = some ⟨b_, 0, none⟩) w w).lo hkd).step hke (fun _ _ e' => by rw [e'])).step hkf (fun _ _ e' => by rw [e'])
    refine Ws (Wr (Q (mL rfl) <| Q (aL rfl) <| Qn (W.ret (ret1 rfl (v := .slice _ _ _) rfl (⟨(pA gL), nL + nV, cL, eR rfl, hRf.own (by omega) (by rw [List.length_append, List.length_append, List.length_take, List.length_drop]; omega) (fun _ => rfl) (ins_flat (enc := encLMap) (sz := 3) (i := i_) (cs := cs) (fun _ => rfl) hleL hleV (by omega) (by rw [hRw.len]; exact Nat.mul_le_mul_right 3 (show nL + nV ≤ cL by omega)) htk), (fun b_ h_ => .inl h_), hBf⟩)))))
theorem c_slices_Clone___impl_Away_impl_Away_ (w : World) {AL : Option Addr} {nL cL BL : Nat}  (L : List Away) (hL : SlR w BL encAway 2 AL nL cL L) (hp0 : (nL : Int) ≤ 1048576) : Calls Tryz.prog 92 #[.slice AL nL cL] w fun e w' => ∃ (A1' : Option Addr) (n1' c1' : Nat), e = .returned (.slice A1' n1' c1') ∧ SlO w' w.heap.size encAway 2 129 A1' n1' c1' L ∧ Lo w w' := by
 refine calls_W 8 Tryz.func92 rfl rfl rfl ?_
 have hbdL := hL.bound
 have hleL := hL.len
 have hBbL := hL.bd
 refine Ws (Wr (Q (r_as (v := .slice none 0 0) rfl) <| Qn (Ws (Ws (Wr (Q (mL rfl) <| Q (r_eqlnil und32 rfl rfl) <| Qn (W.cond_b rfl (fun h1 => ?_) (fun h1 => ?_))))))))
 ·have hq2 := slR_nil hL h1
  refine Ws (Wr (Q (r_as (v := .slice none 0 0) rfl) <| Qn (W.ret (ret1 rfl (v := .slice none 0 0) rfl (⟨none, 0, 0, eR rfl, (SlO.eqv (SlO.nil (e := 129) (enc := encAway) (fun _ => rfl) (Nat.le_refl _)) (by first | rfl | (exact (List.eq_nil_of_length_eq_zero (by omega)).symm))), (Lo.refl w)⟩)))))
 ·refine W.skip (Ws (Wr (SR.lit (vs := []) (L := ([] : List Away)) (enc := encAway) tel32 (fun _ => rfl) rfl rfl rfl (by decide) ?_)))
  intro g3 w4 hg5 hk6 hO7
  have hz8 := hk6.size
  refine Q (mL rfl) <| SR.app tel32 rfl rfl hO7 (hL.lo hk6) (fun _ => rfl) (by omega) (by omega) ?_
  intro A10 c11 w12 hk13 hO14 hN15
  have hz16 := hk13.size
  rw [List.nil_append] at hO14
  refine Q (aL rfl) <| Qn (W.ret (ret1 rfl (v := .slice _ _ _) rfl (⟨A10, 0 + nL, c11, eR rfl, (hO14.down), (((Lo.refl w).lo hk6).step hk13 (fun i_ hi_ e' => by have := hO7.base_le e'; first | omega | exact e' | exact .inl e' | exact .inr e'))⟩)))
theorem c_slices_Insert___impl_Away_impl_Away_ (w : World) {AL : Option Addr} {nL cL BL : Nat}  (L : List Away) (hL : SlO w BL encAway 2 129 AL nL cL L) (i : Int) {AV : Option Addr} {nV cV BV : Nat}  (V : List Away) (hV : SlO w BV encAway 2 129 AV nV cV V) (hp0 : 0 ≤ i) (hp1 : i ≤ (nL : Int)) (hp2 : ((nL + nV : Nat) : Int) ≤ 1048576) (hp3 : Dj AV AL) : Calls Tryz.prog 210 #[.slice AL nL cL, .int .i64 i, .slice AV nV cV] w fun e w' => ∃ (A1' : Option Addr) (n1' c1' : Nat), e = .returned (.slice A1' n1' c1') ∧ SlO w' BL encAway 2 129 A1' n1' c1' (L.take i.toNat ++ V ++ L.drop i.toNat) ∧ (∀ b_, A1' = some ⟨b_, 0, none⟩ → (AL = some ⟨b_, 0, none⟩) ∨ w.heap.size ≤ b_) ∧ Kp (KA AL) w w' := by
 refine calls_W 95 Tryz.func210 rfl rfl rfl ?_
 have hcpL := hL.rd.cap
 have hbbL := hL.rd.bd
 have hbdL := hL.rd.bound
 have hleL := hL.len
 have hBbL := hL.bd
 have hcpV := hV.rd.cap
 have hbbV := hV.rd.bd
 have hbdV := hV.rd.bound
 have hleV := hV.len
 have hBbV := hV.bd
 obtain ⟨i_, rfl⟩ := Int.eq_ofNat_of_zero_le hp0
 refine Ws (Wr (Q (r_as (v := .slice none 0 0) rfl) <| Qn (Ws (Wr (Q (mL rfl) <| Q (mI rfl) <| Q (r_cutl (l := i_) tsl32 rfl rfl rfl (by omega)) <| Qn (Ws (Wr (Q (mL rfl) <| Q (r_len und32 rfl) <| Q (aI rfl) <| Qn (Ws (Ws (Wr (Q (mI rfl) <| Q (r_eq rfl rfl) <| Qn (W.cond_d rfl (fun h1 => ?_) (fun h1 => ?_))))))))))))))
 ·refine Ws (Wr (Q (mL rfl) <| Q (aL rfl) <| Qn (W.ret (ret1 rfl (v := .slice _ _ _) rfl (⟨AL, nL, cL, eR rfl, (SlO.eqv hL (by first | (have hV0 : V = [] := List.eq_nil_of_length_eq_zero (by omega); subst hV0; simp; done) | (exact ins_end hleL (show nL ≤ i_ by omega)) | (exact ins_grow hleL hleV (by omega) (by omega)))), (fun b_ h_ => .inl h_), (Kp.refl w : Kp (KA AL) w w)⟩)))))
 ·refine W.skip (Ws (Wr (Q (mL rfl) <| Q (r_len und32 rfl) <| Q (aI rfl) <| Qn (Ws (Ws (Wr (Q (mI rfl) <| Q (mI rfl) <| Q (r_eq rfl rfl) <| Qn (W.cond_d rfl (fun h2 => ?_) (fun h2 => ?_)))))))))
  ·refine Ws (Wr (Q (mL rfl) <| Q (mL rfl) <| SR.app tel32 rfl rfl hL (hV.rd) (fun _ => rfl) (by omega) (by omega) ?_))
   intro A3 c4 w5 hk6 hO7 hN8
   have hz9 := hk6.size
   refine Q (aL rfl) <| Qn (W.ret (ret1 rfl (v := .slice _ _ _) rfl (⟨A3, nL + nV, c4, eR rfl, (SlO.eqv hO7 (by first | (have hV0 : V = [] := List.eq_nil_of_length_eq_zero (by omega); subst hV0; simp; done) | (exact ins_end hleL (show nL ≤ i_ by omega)) | (exact ins_grow hleL hleV (by omega) (by omega)))), (fun b_ h_ => (hN8 b_ h_).elim (fun h => (fun b_ h_ => .inl h_) b_ (h.trans h_)) (fun h => .inr (by omega))), ((Kp.refl w : Kp (KA AL) w w).step hk6 (fun i_ hi_ e' => by have := hL.base_le e'; first | omega | exact e' | exact .inl e' | exact .inr e'))⟩)))
  ·refine W.skip (Ws (Ws (Wr (Q (mI rfl) <| Q (mI rfl) <| Q (r_add rfl rfl (by omega)) <| Q (mL rfl) <| Q (r_cap und32 rfl) <| Q (r_gt rfl rfl) <| Qn (W.cond_d rfl (fun h11 => ?_) (fun h11 => ?_))))))
   ·refine Ws (Wr (Q (mL rfl) <| Q (mI rfl) <| Q (r_cuth (h := i_) tsl32 rfl rfl rfl (Nat.le_trans (by omega : i_ ≤ nL) hL.rd.cap)) <| Q (mI rfl) <| Q (mI rfl) <| Q (r_add rfl rfl (by omega)) <| Q (mI rfl) <| Q (r_sub rfl rfl (by omega)) <| SR.appZ (k := ((nL + nV) - i_)) (zx := (⟨0, 0⟩ : Away)) tel32 und3 rfl rfl (by first | rfl | (rw [show (((nL : Int) + (nV : Int)) - (i_ : Int) : Int) = ((((nL + nV) - i_) : Nat) : Int) from by omega]; rfl)) (hL.head (h := i_) (by omega)) (by omega) (by omega) (by omega) (by omega) ?_))
    intro g12 c13 w14 hg15 hk16 hO17
    have hz18 := hk16.size
    refine Q (aL rfl) <| Qn (Ws ?_)
    refine Wr (Q (mL rfl) <| Q (mI rfl) <| Q (r_cutl (l := i_) tsl32 rfl rfl rfl (by omega)) <| Q (mL rfl) <| SR.copyO (l := i_) (q := nV) tel32 rfl rfl hO17 ((hV.lo hk16).rd) (by simp only [Nat.min_def]; split <;> omega) (by omega) (fun _ => rfl) ?_)
    intro w22 hk23 hO24
    have hz25 := hk23.size
    refine Qn (Ws (W.regA (Kp (fun b_ => (pA g12) = some ⟨b_, 0, none⟩) w22) (fun f' w' => At f' [(0, .slice AL nL cL), (1, .int .i64 (i_ : Int)), (2, .slice AV nV cV), (6, .slice none 0 0), (7, .int .i64 (nV : Int)), (8, .int .i64 (nL : Int)), (9, .slice (pA g12) (i_ + ((nL + nV) - i_)) c13)] ∧ (Kp (fun b_ => (pA g12) = some ⟨b_, 0, none⟩) w22 w') ∧ (SlO w' w.heap.size encAway 2 129 (pA g12) (i_ + ((nL + nV) - i_)) c13 ((((L.take i_) ++ List.replicate ((nL + nV) - i_) (⟨0, 0⟩ : Away)).take i_ ++ V.take nV ++ ((L.take i_) ++ List.replicate ((nL + nV) - i_) (⟨0, 0⟩ : Away)).drop (i_ + nV)).take (i_ + nV) ++ (L.drop i_).take (nL - i_) ++ (((L.take i_) ++ List.replicate ((nL + nV) - i_) (⟨0, 0⟩ : Away)).take i_ ++ V.take nV ++ ((L.take i_) ++ List.replicate ((nL + nV) - i_) (⟨0, 0⟩ : Away)).drop (i_ + nV)).drop ((i_ + nV) + (nL - i_))))) mo ?_ ?_))
    ·intro w49 hk50
     have hz51 := hk50.size
     refine Ak 0 rfl ((Kp.refl w22 : Kp (fun b_ => (pA g12) = some ⟨b_, 0, none⟩) w22 w22).lo hk50) (fun w' hw' => r_mv (v := .slice _ _ _) rfl) <| Ak 1 rfl ((Kp.refl w22 : Kp (fun b_ => (pA g12) = some ⟨b_, 0, none⟩) w22 w22).lo hk50) (fun w' hw' => r_mv (v := .int .i64 _) rfl) <| Ak 2 rfl ((Kp.refl w22 : Kp (fun b_ => (pA g12) = some ⟨b_, 0, none⟩) w22 w22).lo hk50) (fun w' hw' => r_mv (v := .int .i64 _) rfl) <| Ak 3 rfl ((Kp.refl w22 : Kp (fun b_ => (pA g12) = some ⟨b_, 0, none⟩) w22 w22).lo hk50) (fun w' hw' => r_add rfl rfl (by omega)) <| Ak 4 rfl ((Kp.refl w22 : Kp (fun b_ => (pA g12) = some ⟨b_, 0, none⟩) w22 w22).lo hk50) (fun w' hw' => r_cutl (l := (i_ + nV)) tsl32 rfl rfl (by omega) (by omega)) <| Ak 5 rfl ((Kp.refl w22 : Kp (fun b_ => (pA g12) = some ⟨b_, 0, none⟩) w22 w22).lo hk50) (fun w' hw' => r_mv (v := .slice _ _ _) rfl) <| Ak 6 rfl ((Kp.refl w22 : Kp (fun b_ => (pA g12) = some ⟨b_, 0, none⟩) w22 w22).lo hk50) (fun w' hw' => r_mv (v := .int .i64 _) rfl) <| Ak 7 rfl ((Kp.refl w22 : Kp (fun b_ => (pA g12) = some ⟨b_, 0, none⟩) w22 w22).lo hk50) (fun w' hw' => r_cutl (l := i_) tsl32 rfl rfl rfl (by omega)) <| Ab 8 rfl ?_
     refine SR.copyO (l := (i_ + nV)) (q := nL - i_) tel32 rfl rfl (hO24.lo hk50) ((((hL.lo hk16).kp hk23 (fun b_ hb e' => by have h1 := hO17.base_le e'; have h2 := (hL.lo hk16).base_le hb; have h3 := hL.base_le hb; omega)).rd.cutl (l := i_) (by omega)).lo hk50) (by simp only [Nat.min_def]; split <;> omega) (by omega) (fun _ => rfl) ?_
     intro w53 hk54 hO55
     have hz56 := hk54.size
     have hS58 := ((Kp.refl w22 : Kp (fun b_ => (pA g12) = some ⟨b_, 0, none⟩) w22 w22).lo hk50).step hk54 (fun _ _ e => e)
     refine Qn ⟨hS58, _, rfl, (AH.done (by kernel_rfl) (⟨(At.r rfl), hS58, hO55⟩))⟩
    rintro f59 w60 ⟨hat62, hR61, hm48⟩
    rw [← sets_of_at hat62]
    have hz63 := hR61.size
    refine Ws (Wr (Q (mL rfl) <| Q (aL rfl) <| Qn (W.ret (ret1 rfl (v := .slice _ _ _) rfl (⟨(pA g12), i_ + ((nL + nV) - i_), c13, eR rfl, (SlO.eqv (hm48.down) (by first | (have hV0 : V = [] := List.eq_nil_of_length_eq_zero (by omega); subst hV0; simp; done) | (exact ins_end hleL (show nL ≤ i_ by omega)) | (exact ins_grow hleL hleV (by omega) (by omega)))), (fun b_ h => .inr (by have := hm48.base_le h; omega)), ((((Kp.refl w : Kp (KA AL) w w).lo hk16).step hk23 (fun i_ hi_ e' => by have := hO17.base_le e'; first | omega | exact e' | exact .inl e' | exact .inr e')).step hR61 (fun i_ hi_ e' => by have := hO24.base_le e'; first | omega | exact e' | exact .inl e' | exact .inr e'))⟩)))))
   ·refine W.skip (Ws ?_)
    have hrL := hL.rd
    have hrV := hV.rd
    obtain ⟨gL, cs, rfl, hRw, htk, hcc⟩ := hL.raw (hrL.some (by omega))
    obtain ⟨gV, cv, rfl, hRv, _, _⟩ := hV.raw (hrV.some (by omega))
    have hne : gV ≠ gL := fun e => hp3 gV rfl (by rw [e])
    refine Wr (Q (mL rfl) <| Q (mI rfl) <| Q (mI rfl) <| Q (r_add rfl rfl (by omega)) <| Q (r_cuth (h := nL + nV) tsl32 rfl rfl (by omega) (by omega)) <| Q (aL rfl) <| Qn (Ws (Ws (Wr (Q (mL rfl) <| Q (mL rfl) <| Q (mI rfl) <| Q (mI rfl) <| Q (r_add rfl rfl (by omega)) <| Q (r_cutl (l := i_ + nV) tsl32 rfl rfl (by omega) (by omega)) <| SR.over ovl228 tel32 rfl rfl hne hRv.heap hRw (by omega) <| Q (r_not rfl) <| Qn (W.cond_t rfl (Ws (W.regT 8 mo (by kernel_rfl) ?_))))))))
    intro wd hkd
    refine TR.q' (mL rfl) <| TR.q' (mI rfl) <| TR.q' (mI rfl) <| TR.q' (r_add rfl rfl (by omega)) <| TR.q' (r_cutl (l := i_ + nV) tsl32 rfl rfl (by omega) (by omega)) <| TR.q' (mL rfl) <| TR.q' (mI rfl) <| TR.q' (r_cutl (l := i_) tsl32 rfl rfl (by omega) (by omega)) <| TR.nil ?_
    refine SR.copyR (l := i_ + nV) (m := nL - i_) (vs := (L.drop i_).flatMap encAway) tel32 rfl rfl (hRw.lo hkd) (by simp only [Nat.min_def]; split <;> omega) (by omega) (by rw [flat_len (sz := 2) (fun _ => rfl), List.length_drop, ← hleL]) (fun _ => ((hrL.lo hkd).cutl (l := i_) (by omega)).flat) (fun h => (hrL.cutl (l := i_) (by omega)).some (by omega)) (fun u hu => by obtain ⟨q, _, hu⟩ := List.mem_flatMap.1 hu; exact List.all_eq_true.1 (show (encAway q).all (·.oneCell') = true from rfl) u hu) ?_
    intro we hke hRe
    refine Qn (Ws ?_)
    refine Wr (Q (mL rfl) <| Q (mI rfl) <| Q (r_cutl (l := i_) tsl32 rfl rfl (by omega) (by omega)) <| Q (mL rfl) <| SR.copyR (l := i_) (m := nV) (vs := V.flatMap encAway) tel32 rfl rfl hRe (by simp only [Nat.min_def]; split <;> omega) (by omega) (by rw [flat_len (sz := 2) (fun _ => rfl), ← hleV]) (fun _ => ((hV.lo hkd).kp hke (fun b hb e' => hne (by injection hb with hb; injection hb with hb; rw [hb, e']))).rd.flat) (fun h => hrV.some h) (fun u hu => by obtain ⟨q, _, hu⟩ := List.mem_flatMap.1 hu; exact List.all_eq_true.1 (show (encAway q).all (·.oneCell') = true from rfl) u hu) ?_)
    intro wf hkf hRf
    refine Qn ?_
    have hBf := (((Kp.refl w : Kp (fun b_ => (pA gL) = some ⟨b_, 0, none⟩) w w).lo hkd).step hke (fun _ _ e' => by rw [e'])).step hkf (fun _ _ e' => by rw [e'])
    refine Ws (Wr (Q (mL rfl) <| Q (aL rfl) <| Qn (W.ret (ret1 rfl (v := .slice _ _ _) rfl (⟨(pA gL), nL + nV, cL, eR rfl, hRf.own (by omega) (by rw [List.length_append, List.length_append, List.length_take, List.length_drop]; omega) (fun _ => rfl) (ins_flat (enc := encAway) (sz := 2) (i := i_) (cs := cs) (fun _ => rfl) hleL hleV (by omega) (by rw [hRw.len]; exact Nat.mul_le_mul_right 2 (show nL + nV ≤ cL by omega)) htk), (fun b_ h_ => .inl h_), hBf⟩)))))
theorem c_slices_Delete___impl_Away_impl_Away_ (w : World) {AL : Option Addr} {nL cL BL : Nat}  (L : List Away) (hL : SlO w BL encAway 2 129 AL nL cL L) (i : Int) (j : Int) (hp0 : 0 ≤ i) (hp1 : i ≤ j) (hp2 : j ≤ (nL : Int)) : Calls Tryz.prog 211 #[.slice AL nL cL, .int .i64 i, .int .i64 j] w fun e w' => ∃ (A1' : Option Addr) (n1' c1' : Nat), e = .returned (.slice A1' n1' c1') ∧ SlO w' BL encAway 2 129 A1' n1' c1' (L.take i.toNat ++ L.drop j.toNat) ∧ (∀ b_, A1' = some ⟨b_, 0, none⟩ → (AL = some ⟨b_, 0, none⟩) ∨ w.heap.size ≤ b_) ∧ Kp (KA AL) w w' := by
 refine calls_W 33 Tryz.func211 rfl rfl rfl ?_
 have hcpL := hL.rd.cap
 have hbbL := hL.rd.bd
 have hbdL := hL.rd.bound
 have hleL := hL.len
 have hBbL := hL.bd
 refine Ws (Wr (Q (r_as (v := .slice none 0 0) rfl) <| Qn (Ws (Wr (Q (mL rfl) <| Q (mI rfl) <| Q (mI rfl) <| Q (mL rfl) <| Q (r_len und32 rfl) <| Q (r_cut3 (l := i.toNat) (h' := j.toNat) (m' := nL) tsl32 rfl rfl rfl rfl (by omega) (by omega) rfl (by omega) (by omega) (Nat.le_trans (by omega : nL ≤ nL) hL.rd.cap)) <| Qn (Ws (Ws (Wr (Q (mI rfl) <| Q (mI rfl) <| Q (r_eq rfl rfl) <| Qn (W.cond_d rfl (fun h1 => ?_) (fun h1 => ?_)))))))))))
 ·refine Ws (Wr (Q (mL rfl) <| Q (aL rfl) <| Qn (W.ret (ret1 rfl (v := .slice _ _ _) rfl (⟨AL, nL, cL, eR rfl, (SlO.eqv hL (by first | rfl | (obtain rfl : i = j := (by omega); exact (List.take_append_drop ..).symm))), (fun b_ h_ => .inl h_), (Kp.refl w : Kp (KA AL) w w)⟩)))))
 ·refine W.skip (Ws (Wr (Q (mL rfl) <| Q (r_len und32 rfl) <| Q (aI rfl) <| Qn (Ws (W.regA (Kp (KA AL) w) (fun f' w' => At f' [(0, .slice AL (i.toNat + (nL - j.toNat)) cL), (6, .slice none 0 0), (7, .int .i64 (nL : Int))] ∧ (Kp (KA AL) w w') ∧ (SlO w' BL encAway 2 129 AL (i.toNat + (nL - j.toNat)) cL ((L.take i.toNat) ++ (L.drop j.toNat)))) mo ?_ ?_)))))
  ·intro w25 hk26
   have hz27 := hk26.size
   refine Ak 0 rfl ((Kp.refl w : Kp (KA AL) w w).lo hk26) (fun w' hw' => r_mv (v := .slice _ _ _) rfl) <| Ak 1 rfl ((Kp.refl w : Kp (KA AL) w w).lo hk26) (fun w' hw' => r_mv (v := .int .i64 _) rfl) <| Ak 2 rfl ((Kp.refl w : Kp (KA AL) w w).lo hk26) (fun w' hw' => r_cuth (h := i.toNat) tsl32 rfl rfl (by omega) (Nat.le_trans (by omega : i.toNat ≤ nL) hL.rd.cap)) <| Ak 3 rfl ((Kp.refl w : Kp (KA AL) w w).lo hk26) (fun w' hw' => r_mv (v := .slice _ _ _) rfl) <| Ak 4 rfl ((Kp.refl w : Kp (KA AL) w w).lo hk26) (fun w' hw' => r_mv (v := .int .i64 _) rfl) <| Ak 5 rfl ((Kp.refl w : Kp (KA AL) w w).lo hk26) (fun w' hw' => r_cutl (l := j.toNat) tsl32 rfl rfl (by omega) (by omega)) <| Ab 6 rfl (SR.appI tel32 rfl rfl ((hL.head (h := i.toNat) (by omega)).lo hk26) ((hL.rd.cutl (l := j.toNat) (by omega)).lo hk26) (fun _ => rfl) (by omega) ?_)
   intro w29 hk30 hO31
   have hz32 := hk30.size
   have hS34 := ((Kp.refl w : Kp (KA AL) w w).lo hk26).step hk30 (fun _ _ e => e)
   refine Qn ⟨hS34, _, rfl, (Ak 7 rfl hS34 (fun w' hw' => r_as (v := .slice _ _ _) rfl) <| AH.done (by kernel_rfl) (⟨(At.r rfl), hS34, hO31⟩))⟩
  rintro f35 w36 ⟨hat38, hR37, hm24⟩
  rw [← sets_of_at hat38]
  have hz39 := hR37.size
  refine Ws (Wr (Q (mL rfl) <| Q (mL rfl) <| Q (r_len und32 rfl) <| Q (mI rfl) <| Q (r_cut (l := (i.toNat + (nL - j.toNat))) (h := nL) tsl32 rfl rfl rfl rfl rfl (by omega) (by omega)) <| SR.clearO (l := (i.toNat + (nL - j.toNat))) (k := nL - (i.toNat + (nL - j.toNat))) tel32 rfl hm24 (by omega) (by omega) (by kernel_rfl) ?_))
  intro w41 hk42 hO43
  have hz44 := hk42.size
  refine Qn (Ws (Wr (Q (mL rfl) <| Q (aL rfl) <| Qn (W.ret (ret1 rfl (v := .slice _ _ _) rfl (⟨AL, i.toNat + (nL - j.toNat), cL, eR rfl, (SlO.eqv hO43 (by first | rfl | (obtain rfl : i = j := (by omega); exact (List.take_append_drop ..).symm))), (fun b_ h_ => .inl h_), (((Kp.refl w : Kp (KA AL) w w).step hR37 (fun i_ hi_ e' => by have := hL.base_le e'; first | omega | exact e' | exact .inl e' | exact .inr e')).step hk42 (fun i_ hi_ e' => by have := hm24.base_le e'; first | omega | exact e' | exact .inl e' | exact .inr e'))⟩))))))
theorem c__impl_Library__own (w : World) (x : Library) {Ax1 : Option Addr} {nx1 cx1 Bx1 : Nat} (hx1 : SlR w Bx1 encLMap 3 Ax1 nx1 cx1 x.Maps) {Ax2 : Option Addr} {nx2 cx2 Bx2 : Nat} (hx2 : SlR w Bx2 encAway 2 Ax2 nx2 cx2 x.Away) (hp0 : (nx1 : Int) ≤ 1048576) (hp1 : (nx2 : Int) ≤ 1048576) : Calls Tryz.prog 47 #[.agg (List.toArray (cLb Ax1 nx1 cx1 Ax2 nx2 cx2 x))] w fun e w' => ∃ (A1' : Option Addr) (n1' c1' : Nat) (A2' : Option Addr) (n2' c2' : Nat), e = .returned (.agg (List.toArray (cLb A1' n1' c1' A2' n2' c2' x))) ∧ SlO w' w.heap.size encLMap 3 102 A1' n1' c1' x.Maps ∧ SlO w' w.heap.size encAway 2 129 A2' n2' c2' x.Away ∧ Dj A1' A2' ∧ Lo w w' := by
 refine calls_W 12 Tryz.func47 rfl rfl rfl ?_
 have hbdx1 := hx1.bound
 have hlex1 := hx1.len
 have hBbx1 := hx1.bd
 have hbdx2 := hx2.bound
 have hlex2 := hx2.len
 have hBbx2 := hx2.bd
 refine Ws (Wr (SR.box (v := .agg (List.toArray _)) (l := (cLb Ax1 nx1 cx1 Ax2 nx2 cx2 x)) rfl rfl ?_))
 intro g1 w2 hg3 hk4 hs5 hb6
 refine SR.alloc (l := [.slice none 0 0, .slice none 0 0, .int .i64 0, .int .i64 0, .int .i64 0]) tz34 rfl ?_
 intro g9 w10 hg11 hk12 hs13 hb14
 refine Qn (Ws ?_)
 have hm17 := (hx1.lo hk4).lo hk12
 refine W.regA (Kp (fun b_ => b_ = g1) w10) (fun f' w' => ∃ (A64 : Option Addr) (n65 : Nat) (c66 : Nat) (A79 : Option Addr) (n80 : Nat) (c81 : Nat), At f' [(1, .pointer (pA g1)), (2, .pointer (pA g9))] ∧ (Kp (fun b_ => b_ = g1) w10 w') ∧ (SlO w' w10.heap.size encLMap 3 102 A64 n65 c66 x.Maps) ∧ (SlO w' w10.heap.size encAway 2 129 A79 n80 c81 x.Away) ∧ (Blk w' g1 34 (cLb A64 n65 c66 A79 n80 c81 x)) ∧ Dj A64 A79 ∧ (n65 = (x.Maps).length) ∧ ((n65 : Int) ≤ 9223372036854775807) ∧ (n80 = (x.Away).length) ∧ ((n80 : Int) ≤ 9223372036854775807)) mo ?_ ?_
 ·intro w127 hk128
  have hz129 := hk128.size
  refine AH.via #[true, true, true, true, true, false, true, false, false, false] 4 (fun f' w' => ∃ (A64 : Option Addr) (n65 : Nat) (c66 : Nat), At f' [(1, .pointer (pA g1)), (2, .pointer (pA g9)), (5, .slice A64 n65 c66), (7, .slice Ax2 nx2 cx2), (9, .pointer (some ((⟨g1, 0, none⟩ : Addr).add 0)))] ∧ (Kp (fun b_ => b_ = g1) w10 w') ∧ (SlO w' w10.heap.size encLMap 3 102 A64 n65 c66 x.Maps) ∧ (Blk w' g1 34 (cLb Ax1 nx1 cx1 Ax2 nx2 cx2 x)) ∧ (n65 = (x.Maps).length) ∧ ((n65 : Int) ≤ 9223372036854775807)) ?_ (fun hn131 => ?_)
  ·rintro f132 w133 ⟨A64, n65, c66, hat135, hR134, hm75, hm76, hl71, hl72⟩
   rw [← sets_of_at hat135]
   have hz136 := hR134.size
   refine Ab 5 rfl (SR.call ent92 (c_slices_Clone___impl_Away_impl_Away_ w133 x.Away (((hx2.lo hk4).lo hk12).kn hR134 (by omega)) (by omega)) rfl ?_)
   rintro e w138 ⟨A140, n141, c142, rfl, hO143, hk139⟩
   refine ⟨_, rfl, ?_⟩
   have hz144 := hk139.size
   have hS146 := hR134.lo hk139
   have hl147 := hO143.len
   have hl148 := hO143.rd.bound
   refine Qn ⟨hS146, _, rfl, (Ab 7 rfl (Qw (o := 0) (vs := [.slice A64 n65 c66]) sca31.2 rfl rfl rfl rfl (hm76.lo hk139) ler rfl ?_))⟩
   intro w149 hk150 hs151 hb152
   have hS155 := hS146.step hk150 (fun _ _ e => e)
   refine Qn ⟨hS155, _, rfl, (Ak 8 rfl hS155 (fun w' hw' => fA fa34_1 rfl) <| Ab 9 rfl (Qw (o := 1) (vs := [.slice A140 n141 c142]) sca32.2 rfl rfl rfl rfl hb152 ler rfl ?_))⟩
   intro w156 hk157 hs158 hb159
   have hS162 := hS155.step hk157 (fun _ _ e => e)
   refine Qn ⟨hS162, _, rfl, (AH.done (by kernel_rfl) (⟨A64, n65, c66, A140, n141, c142, ⟨rfl, rfl, trivial⟩, hS162, ((((hm75.lo hk139).kn hk150).kn hk157).down), (((hO143.kn hk150).kn hk157).down), hb159, (fun b_ h h' => by have h1 := hm75.base_le h; have h2 := ((hO143.kn hk150).kn hk157).base_le h'; omega), hl71, hl72, hl147, hl148⟩))⟩
  refine AH.via #[true, true, false, true, true, false, false, false, false, false] 6 (fun f' w' => At f' [(1, .pointer (pA g1)), (2, .pointer (pA g9)), (4, .slice Ax1 nx1 cx1), (7, .slice Ax2 nx2 cx2)] ∧ (Kp (fun b_ => b_ = g1) w10 w') ∧ (Blk w' g1 34 (cLb Ax1 nx1 cx1 Ax2 nx2 cx2 x))) ?_ (fun hn164 => ?_)
  ·rintro f165 w166 ⟨hat168, hR167, hm114⟩
   rw [← sets_of_at hat168]
   have hz169 := hR167.size
   refine Ab 2 rfl (SR.call ent91 (c_slices_Clone___impl_Map_impl_Map_ w166 x.Maps (hm17.kn hR167 (by omega)) (by omega)) rfl ?_)
   rintro e w171 ⟨A173, n174, c175, rfl, hO176, hk172⟩
   refine ⟨_, rfl, ?_⟩
   have hz177 := hk172.size
   have hS179 := hR167.lo hk172
   have hl180 := hO176.len
   have hl181 := hO176.rd.bound
   refine Qn ⟨hS179, _, rfl, (Ak 6 rfl hS179 (fun w' hw' => fA fa34_0 rfl) <| AH.goto (by kernel_rfl) rfl (hn131 _ _ (⟨A173, n174, c175, (At.r rfl), hS179, (hO176.down), (hm114.lo hk172), hl180, hl181⟩)))⟩
  refine Ak 0 rfl (kr hk128) (fun w' hw' => fA fa34_0 rfl) <| Ak 3 rfl (kr hk128) (fun w' hw' => fA fa34_1 rfl) <| AH.br [1, 4] (by kernel_rfl) rfl ⟨Br.mk' rfl trivial ?_, Br.mk' rfl trivial ?_, trivial⟩
  ·refine Q (lB sca31 rfl ((hb6.lo hk12).lo hk128) rfl) (Qn ⟨(Kp.refl w10).lo hk128, _, rfl, (AH.br [2, 4] (by kernel_rfl) rfl ⟨Br.mk' rfl trivial ?_, Br.mk' rfl trivial ?_, trivial⟩)⟩)
   ·refine SR.call ent91 (c_slices_Clone___impl_Map_impl_Map_ w127 x.Maps (hm17.lo hk128) (by omega)) rfl ?_
    rintro e w182 ⟨A184, n185, c186, rfl, hO187, hk183⟩
    refine ⟨_, rfl, ?_⟩
    have hz188 := hk183.size
    have hS190 := ((Kp.refl w10 : Kp (fun b_ => b_ = g1) w10 w10).lo hk128).lo hk183
    have hl191 := hO187.len
    have hl192 := hO187.rd.bound
    refine Qn ⟨hS190, _, rfl, (Ab 4 rfl (Q (lB sca32 rfl (((hb6.lo hk12).lo hk128).lo hk183) rfl) (Qn ⟨hS190, _, rfl, (Ak 6 rfl hS190 (fun w' hw' => fA fa34_0 rfl) <| AH.goto (by kernel_rfl) rfl (hn131 _ _ (⟨A184, n185, c186, (At.r rfl), hS190, (hO187.down), (((hb6.lo hk12).lo hk128).lo hk183), hl191, hl192⟩)))⟩)))⟩
   ·refine Q (lB sca32 rfl ((hb6.lo hk12).lo hk128) rfl) (Qn ⟨(Kp.refl w10).lo hk128, _, rfl, (AH.goto (by kernel_rfl) rfl (hn164 _ _ (⟨(At.r rfl), (Kp.refl w10).lo hk128, ((hb6.lo hk12).lo hk128)⟩)))⟩)
  ·refine Q (lB sca32 rfl ((hb6.lo hk12).lo hk128) rfl) (Qn ⟨(Kp.refl w10).lo hk128, _, rfl, (Ab 1 rfl (Q (lB sca31 rfl ((hb6.lo hk12).lo hk128) rfl) (Qn ⟨(Kp.refl w10).lo hk128, _, rfl, (AH.goto (by kernel_rfl) rfl (hn164 _ _ (⟨(At.r rfl), (Kp.refl w10).lo hk128, ((hb6.lo hk12).lo hk128)⟩)))⟩)))⟩)
 rintro f193 w194 ⟨A64, n65, c66, A79, n80, c81, hat196, hR195, hm110, hm111, hm112, hd113, hl71, hl72, hl86, hl87⟩
 rw [← sets_of_at hat196]
 have hz197 := hR195.size
 refine Ws (Wr (Q (lG agg34 rfl hm112 rfl) <| Qw (o := 0) (vs := (cLb A64 n65 c66 A79 n80 c81 x)) agg34.2 rfl rfl rfl rfl (hb14.kn hR195 (by omega)) ler rfl ?_))
 intro w199 hk200 hs201 hb202
 refine Qn (W.ret (retC rfl rfl agg34 hb202 rfl (⟨A64, n65, c66, A79, n80, c81, eR rfl, ((hm110.kn hk200).down), ((hm111.kn hk200).down), hd113, (((((Lo.refl w).lo hk4).lo hk12).new hR195 (by omega)).new hk200)⟩)))
theorem c_spec_l32Own (w : World) (x : Library) {Ax1 : Option Addr} {nx1 cx1 Bx1 : Nat} (hx1 : SlR w Bx1 encLMap 3 Ax1 nx1 cx1 x.Maps) {Ax2 : Option Addr} {nx2 cx2 Bx2 : Nat} (hx2 : SlR w Bx2 encAway 2 Ax2 nx2 cx2 x.Away) (hp0 : (nx1 : Int) ≤ 1048576) (hp1 : (nx2 : Int) ≤ 1048576) : Calls Tryz.prog 79 #[.agg (List.toArray (cLb Ax1 nx1 cx1 Ax2 nx2 cx2 x))] w fun e w' => ∃ (A1' : Option Addr) (n1' c1' : Nat) (A2' : Option Addr) (n2' c2' : Nat), e = .returned (.agg (List.toArray (cLb A1' n1' c1' A2' n2' c2' x))) ∧ SlO w' w.heap.size encLMap 3 102 A1' n1' c1' x.Maps ∧ SlO w' w.heap.size encAway 2 129 A2' n2' c2' x.Away ∧ Dj A1' A2' ∧ Lo w w' := by
 refine calls_W 18 Tryz.func79 rfl rfl rfl ?_
 have hbdx1 := hx1.bound
 have hlex1 := hx1.len
 have hBbx1 := hx1.bd
 have hbdx2 := hx2.bound
 have hlex2 := hx2.len
 have hBbx2 := hx2.bd
 refine Ws (Wr (SR.box (v := .agg (List.toArray _)) (l := (cLb Ax1 nx1 cx1 Ax2 nx2 cx2 x)) rfl rfl ?_))
 intro g1 w2 hg3 hk4 hs5 hb6
 refine SR.alloc (l := [.slice none 0 0, .slice none 0 0, .int .i64 0, .int .i64 0, .int .i64 0]) tz34 rfl ?_
 intro g9 w10 hg11 hk12 hs13 hb14
 refine Qn (Ws ?_)
 have hm17 := (hx1.lo hk4).lo hk12
 refine W.regA (Kp (fun b_ => b_ = g9) w10) (fun f' w' => ∃ (g79 : Nat) (A89 : Option Addr) (c90 : Nat) (g100 : Nat) (A113 : Option Addr) (c114 : Nat), At f' [(2, .pointer (pA g9))] ∧ (Kp (fun b_ => b_ = g9) w10 w') ∧ (SlO w' w10.heap.size encLMap 3 102 A89 (0 + nx1) c90 x.Maps) ∧ (SlO w' w10.heap.size encAway 2 129 A113 (0 + nx2) c114 x.Away) ∧ (Blk w' g9 34 [.slice A89 (0 + nx1) c90, .slice A113 (0 + nx2) c114, .int .i64 x.Bought, .int .i64 x.Dropped, .int .i64 x.Mended]) ∧ Dj A89 A113) mo ?_ ?_
 ·intro w180 hk181
  have hz182 := hk181.size
  refine AH.via #[true, true, true, true, true, true, true, false, true, true, true, true, true, true, false, false] 3 (fun f' w' => ∃ (g79 : Nat) (A89 : Option Addr) (c90 : Nat) (g100 : Nat), At f' [(2, .pointer (pA g9)), (6, .slice A89 (0 + nx1) c90), (7, .slice (pA g100) 0 0), (9, .slice Ax2 nx2 cx2), (12, .int .i64 x.Bought), (14, .int .i64 x.Dropped), (16, .int .i64 x.Mended)] ∧ (Kp (fun b_ => b_ = g9) w10 w') ∧ (SlO w' w10.heap.size encLMap 3 102 A89 (0 + nx1) c90 x.Maps) ∧ (SlO w' w10.heap.size encAway 2 129 (pA g100) 0 0 ([] : List Away)) ∧ (Blk w' g9 34 [.slice none 0 0, .slice none 0 0, .int .i64 0, .int .i64 0, .int .i64 0]) ∧ (∀ b_, A89 = some ⟨b_, 0, none⟩ → ¬ (pA g100) = some ⟨b_, 0, none⟩)) ?_ (fun hn184 => ?_)
  ·rintro f185 w186 ⟨g79, A89, c90, g100, hat188, hR187, hm109, hm110, hm111, hd112⟩
   rw [← sets_of_at hat188]
   have hz189 := hR187.size
   refine Ab 7 rfl (SR.app tel32 rfl rfl hm110 (((hx2.lo hk4).lo hk12).kn hR187 (by omega)) (fun _ => rfl) (by omega) (by omega) ?_)
   intro A191 c192 w193 hk194 hO195 hN196
   have hz197 := hk194.size
   have hS199 := hR187.step hk194 (fun i_ hi_ e' => by have := hm110.base_le e'; omega)
   rw [List.nil_append] at hO195
   have hd200 : Dj A191 A89 := fun b_ e' h' => (hN196 b_ e').elim (fun h => (fun b_ h h' => hd112 b_ h' h) b_ (h.trans e') h') (fun h => by have := hm109.base_le h'; omega)
   refine Qn ⟨hS199, _, rfl, (Ak 14 rfl hS199 (fun w' hw' => r_build (vs := [(0, .slice A89 (0 + nx1) c90), (1, .slice A191 (0 + nx2) c192), (2, .int .i64 x.Bought), (3, .int .i64 x.Dropped), (4, .int .i64 x.Mended)]) rfl (bld34_0_1_2_3_4 _ _ _ _ _ _ _ _ _)) <| Ab 15 rfl (Qw (o := 0) (vs := [.slice A89 (0 + nx1) c90, .slice A191 (0 + nx2) c192, .int .i64 x.Bought, .int .i64 x.Dropped, .int .i64 x.Mended]) agg34.2 rfl rfl rfl rfl (hm111.kp hk194 (fun e' => by have := hm110.base_le e'; omega)) ler rfl ?_))⟩
   intro w201 hk202 hs203 hb204
   have hS207 := hS199.step hk202 (fun _ _ e => e)
   refine Qn ⟨hS207, _, rfl, (AH.done (by kernel_rfl) (⟨g79, A89, c90, g100, A191, c192, ⟨rfl, trivial⟩, hS207, (((hm109.kp hk194 (fun b_ hb e' => hd112 b_ hb e')).kn hk202).down), ((hO195.kn hk202).down), hb204, (fun b_ h h' => hd200 b_ h' h)⟩))⟩
  refine AH.via #[true, true, true, false, true, true, true, false, true, true, true, true, true, true, false, false] 4 (fun f' w' => ∃ (g79 : Nat) (g138 : Nat), At f' [(2, .pointer (pA g9)), (3, .slice (pA g79) 0 0), (5, .slice Ax1 nx1 cx1), (7, .slice (pA g138) 0 0), (9, .slice Ax2 nx2 cx2), (12, .int .i64 x.Bought), (14, .int .i64 x.Dropped), (16, .int .i64 x.Mended)] ∧ (Kp (fun b_ => b_ = g9) w10 w') ∧ (SlO w' w10.heap.size encLMap 3 102 (pA g79) 0 0 ([] : List LMap)) ∧ (SlO w' w10.heap.size encAway 2 129 (pA g138) 0 0 ([] : List Away)) ∧ (Blk w' g9 34 [.slice none 0 0, .slice none 0 0, .int .i64 0, .int .i64 0, .int .i64 0]) ∧ (∀ b_, (pA g79) = some ⟨b_, 0, none⟩ → ¬ (pA g138) = some ⟨b_, 0, none⟩)) ?_ (fun hn209 => ?_)
  ·rintro f210 w211 ⟨g79, g138, hat213, hR212, hm147, hm148, hm149, hd150⟩
   rw [← sets_of_at hat213]
   have hz214 := hR212.size
   refine Ab 3 rfl (SR.app tel31 rfl rfl hm147 (hm17.kn hR212 (by omega)) (fun _ => rfl) (by omega) (by omega) ?_)
   intro A216 c217 w218 hk219 hO220 hN221
   have hz222 := hk219.size
   have hS224 := hR212.step hk219 (fun i_ hi_ e' => by have := hm147.base_le e'; omega)
   rw [List.nil_append] at hO220
   have hd225 : ∀ b_, A216 = some ⟨b_, 0, none⟩ → ¬ (pA g138) = some ⟨b_, 0, none⟩ := fun b_ e' h' => (hN221 b_ e').elim (fun h => hd150 b_ (h.trans e') h') (fun h => by have := hm148.base_le h'; omega)
   refine Qn ⟨hS224, _, rfl, (AH.goto (by kernel_rfl) rfl (hn184 _ _ (⟨g79, A216, c217, g138, (At.r rfl), hS224, (hO220.down), ((hm148.kp hk219 (fun b_ hb e' => hd150 b_ e' hb)).down), (hm149.kp hk219 (fun e' => by have := hm147.base_le e'; omega)), hd225⟩)))⟩
  refine Ak 1 rfl (kr hk181) (fun w' hw' => fA fa34_0 rfl) <| Ak 2 rfl (kr hk181) (fun w' hw' => r_ld (v := .slice Ax1 nx1 cx1) sca31 rfl (((hb6.lo hk12).kn hw' (by omega)).cell rfl)) <| Ak 5 rfl (kr hk181) (fun w' hw' => fA fa34_1 rfl) <| Ak 6 rfl (kr hk181) (fun w' hw' => r_ld (v := .slice Ax2 nx2 cx2) sca32 rfl (((hb6.lo hk12).kn hw' (by omega)).cell rfl)) <| Ak 8 rfl (kr hk181) (fun w' hw' => fA fa34_2 rfl) <| Ak 9 rfl (kr hk181) (fun w' hw' => r_ld (v := .int .i64 x.Bought) sca3 rfl (((hb6.lo hk12).kn hw' (by omega)).cell rfl)) <| Ak 10 rfl (kr hk181) (fun w' hw' => fA fa34_3 rfl) <| Ak 11 rfl (kr hk181) (fun w' hw' => r_ld (v := .int .i64 x.Dropped) sca3 rfl (((hb6.lo hk12).kn hw' (by omega)).cell rfl)) <| Ak 12 rfl (kr hk181) (fun w' hw' => fA fa34_4 rfl) <| Ak 13 rfl (kr hk181) (fun w' hw' => r_ld (v := .int .i64 x.Mended) sca3 rfl (((hb6.lo hk12).kn hw' (by omega)).cell rfl)) <| AH.br [0, 4] (by kernel_rfl) rfl ⟨Br.mk' rfl trivial ?_, Br.mk' rfl trivial ?_, trivial⟩
  ·refine SR.lit (vs := []) (L := ([] : List LMap)) (enc := encLMap) tel31 (fun _ => rfl) rfl rfl rfl (by decide) ?_
   intro g227 w228 hg229 hk230 hO231
   have hz232 := hk230.size
   have hS234 := ((Kp.refl w10 : Kp (fun b_ => b_ = g9) w10 w10).lo hk181).lo hk230
   refine Qn ⟨hS234, _, rfl, (AH.br [3, 4] (by kernel_rfl) rfl ⟨Br.mk' rfl trivial ?_, Br.mk' rfl trivial ?_, trivial⟩)⟩
   ·refine SR.app tel31 rfl rfl hO231 ((hm17.lo hk181).lo hk230) (fun _ => rfl) (by omega) (by omega) ?_
    intro A235 c236 w237 hk238 hO239 hN240
    have hz241 := hk238.size
    have hS243 := hS234.step hk238 (fun i_ hi_ e' => by have := hO231.base_le e'; omega)
    rw [List.nil_append] at hO239
    refine Qn ⟨hS243, _, rfl, (Ab 4 rfl (SR.lit (vs := []) (L := ([] : List Away)) (enc := encAway) tel32 (fun _ => rfl) rfl rfl rfl (by decide) ?_))⟩
    intro g244 w245 hg246 hk247 hO248
    have hz249 := hk247.size
    have hS251 := hS243.lo hk247
    refine Qn ⟨hS251, _, rfl, (AH.goto (by kernel_rfl) rfl (hn184 _ _ (⟨g227, A235, c236, g244, (At.r rfl), hS251, ((hO239.lo hk247).down), (hO248.down), ((((hb14.lo hk181).lo hk230).kp hk238 (fun e' => by have := hO231.base_le e'; omega)).lo hk247), (fun b_ h h' => (SlO.ne (g := g244) hO239) (h.trans h'.symm))⟩)))⟩
   ·refine SR.lit (vs := []) (L := ([] : List Away)) (enc := encAway) tel32 (fun _ => rfl) rfl rfl rfl (by decide) ?_
    intro g254 w255 hg256 hk257 hO258
    have hz259 := hk257.size
    have hS261 := hS234.lo hk257
    refine Qn ⟨hS261, _, rfl, (AH.goto (by kernel_rfl) rfl (hn209 _ _ (⟨g227, g254, (At.r rfl), hS261, ((hO231.lo hk257).down), (hO258.down), (((hb14.lo hk181).lo hk230).lo hk257), (fun b_ h h' => (SlO.ne (g := g254) hO231) (h.trans h'.symm))⟩)))⟩
  ·refine SR.lit (vs := []) (L := ([] : List Away)) (enc := encAway) tel32 (fun _ => rfl) rfl rfl rfl (by decide) ?_
   intro g264 w265 hg266 hk267 hO268
   have hz269 := hk267.size
   have hS271 := ((Kp.refl w10 : Kp (fun b_ => b_ = g9) w10 w10).lo hk181).lo hk267
   refine Qn ⟨hS271, _, rfl, (Ab 0 rfl (SR.lit (vs := []) (L := ([] : List LMap)) (enc := encLMap) tel31 (fun _ => rfl) rfl rfl rfl (by decide) ?_))⟩
   intro g272 w273 hg274 hk275 hO276
   have hz277 := hk275.size
   have hS279 := hS271.lo hk275
   refine Qn ⟨hS279, _, rfl, (AH.goto (by kernel_rfl) rfl (hn209 _ _ (⟨g272, g264, (At.r rfl), hS279, (hO276.down), ((hO268.lo hk275).down), (((hb14.lo hk181).lo hk267).lo hk275), (fun b_ h h' => (SlO.ne (g := g272) hO268) (h'.trans h.symm))⟩)))⟩
 rintro f282 w283 ⟨g79, A89, c90, g100, A113, c114, hat285, hR284, hm134, hm135, hm136, hd137⟩
 rw [← sets_of_at hat285]
 have hz286 := hR284.size
 refine W.ret (retC rfl rfl agg34 hm136 rfl (⟨A89, 0 + nx1, c90, A113, 0 + nx2, c114, eR rfl, (hm134.down), (hm135.down), hd137, ((((Lo.refl w).lo hk4).lo hk12).new hR284 (by omega))⟩))
theorem c__impl_Library__awayAt (w : World) (x : Library) {Ax1 : Option Addr} {nx1 cx1 Bx1 : Nat} (hx1 : SlR w Bx1 encLMap 3 Ax1 nx1 cx1 x.Maps) {Ax2 : Option Addr} {nx2 cx2 Bx2 : Nat} (hx2 : SlR w Bx2 encAway 2 Ax2 nx2 cx2 x.Away) (id : Int) (r : Int) (hp0 : (nx2 : Int) ≤ 1048576) : Calls Tryz.prog 209 #[.agg (List.toArray (cLb Ax1 nx1 cx1 Ax2 nx2 cx2 x)), .int .i64 id, .int .i64 r] w fun e w' => e = .returned (.tuple (List.toArray [.int .i64 (bsP cmpA (⟨id, r⟩ : Away) x.Away : Int), .bool (decide (bsF cmpA (⟨id, r⟩ : Away) x.Away))])) ∧ Lo w w' := by
 refine calls_W 16 Tryz.func209 rfl rfl rfl ?_
 have hbdx1 := hx1.bound
 have hlex1 := hx1.len
 have hBbx1 := hx1.bd
 have hbdx2 := hx2.bound
 have hlex2 := hx2.len
 have hBbx2 := hx2.bd
 refine Ws (Wr (SR.box (v := .agg (List.toArray _)) (l := (cLb Ax1 nx1 cx1 Ax2 nx2 cx2 x)) rfl rfl ?_))
 intro g1 w2 hg3 hk4 hs5 hb6
 refine Q (aI rfl) <| Q (aB rfl) <| Qn (Ws (Wr (Q (fA fa34_1 rfl) <| Q (lB sca32 rfl hb6 rfl) <| Q (mI rfl) <| Q (mI rfl) <| Q (r_build (vs := [(0, .int .i64 id), (1, .int .i64 r)]) rfl (bld129_0_1 _ _)) <| Qv ent227 (c_slices_BinarySearchFunc___impl_Away_impl_Away_impl_Away_ w2 x.Away (hx2.lo hk4) (⟨id, r⟩ : Away) (fun (u_ : Away) (v_ : Away) => cmpA u_ v_) ⟨ent123, fun w'' hw'' x y => (c_impl_compareAway w'' x y).mono fun _ _ h => ⟨h.1, h.2⟩⟩ (by omega)) rfl fun w9 hk10 hz11 => ?_)))
 have hq13 : bsP (fun (u_ : Away) (v_ : Away) => cmpA u_ v_) (⟨id, r⟩ : Away) x.Away ≤ x.Away.length := bsP_le
 refine Q (xI rfl rfl) <| Q (xB rfl rfl) <| Q (aI rfl) <| Q (aB rfl) <| Qn (W.ret (ret2 rfl (v := .int .i64 _) (v' := .bool _) rfl rfl (⟨eR (eT2 (eI (by rfl)) (eDD (by exact Iff.rfl))), (((Lo.refl w).lo hk4).lo hk10)⟩)))
open Classical in
noncomputable def impl_Library_buy (x : Library) (s : LibraryStep) : Library :=
 if bsF cmpM s.Id x.Maps then (⟨x.Maps.set ((bsP cmpM s.Id x.Maps : Int).toNat) ({ (gt x.Maps ((bsP cmpM s.Id x.Maps : Int).toNat)) with Copies := IntKind.i64.wrap (((gt x.Maps ((bsP cmpM s.Id x.Maps : Int).toNat)).Copies) + s.Value) }), x.Away, IntKind.i64.wrap (x.Bought + s.Value), x.Dropped, x.Mended⟩ : Library) else (⟨(x.Maps.take (bsP cmpM s.Id x.Maps : Int).toNat ++ ([(⟨s.Id, 0, 0⟩ : LMap)] : List LMap) ++ x.Maps.drop (bsP cmpM s.Id x.Maps : Int).toNat).set ((bsP cmpM s.Id x.Maps : Int).toNat) ({ (gt (x.Maps.take (bsP cmpM s.Id x.Maps : Int).toNat ++ ([(⟨s.Id, 0, 0⟩ : LMap)] : List LMap) ++ x.Maps.drop (bsP cmpM s.Id x.Maps : Int).toNat) ((bsP cmpM s.Id x.Maps : Int).toNat)) with Copies := IntKind.i64.wrap (((gt (x.Maps.take (bsP cmpM s.Id x.Maps : Int).toNat ++ ([(⟨s.Id, 0, 0⟩ : LMap)] : List LMap) ++ x.Maps.drop (bsP cmpM s.Id x.Maps : Int).toNat) ((bsP cmpM s.Id x.Maps : Int).toNat)).Copies) + s.Value) }), x.Away, IntKind.i64.wrap (x.Bought + s.Value), x.Dropped, x.Mended⟩ : Library)
theorem c__impl_Library__buy (w : World) (x : Library) {Ax1 : Option Addr} {nx1 cx1 Bx1 : Nat} (hx1 : SlO w Bx1 encLMap 3 102 Ax1 nx1 cx1 x.Maps) {Ax2 : Option Addr} {nx2 cx2 Bx2 : Nat} (hx2 : SlO w Bx2 encAway 2 129 Ax2 nx2 cx2 x.Away) (s : LibraryStep) (hdx_Maps_x2 : Dj Ax1 Ax2) (hp0 : (nx1 : Int) ≤ 100) (hp1 : (nx2 : Int) ≤ 100) : Calls Tryz.prog 151 #[.agg (List.toArray (cLb Ax1 nx1 cx1 Ax2 nx2 cx2 x)), .agg (List.toArray (encLibraryStep s))] w fun e w' => ∃ (A1' : Option Addr) (n1' c1' : Nat) (A2' : Option Addr) (n2' c2' : Nat), e = .returned (.agg (List.toArray [.slice A1' n1' c1', .slice A2' n2' c2', .int .i64 ((impl_Library_buy x s).Bought), .int .i64 ((impl_Library_buy x s).Dropped), .int .i64 ((impl_Library_buy x s).Mended)])) ∧ SlO w' Bx1 encLMap 3 102 A1' n1' c1' ((impl_Library_buy x s).Maps) ∧ SlO w' Bx2 encAway 2 129 A2' n2' c2' ((impl_Library_buy x s).Away) ∧ Dj A1' A2' ∧ (∀ b_, A1' = some ⟨b_, 0, none⟩ → (Ax1 = some ⟨b_, 0, none⟩ ∨ Ax2 = some ⟨b_, 0, none⟩) ∨ w.heap.size ≤ b_) ∧ (∀ b_, A2' = some ⟨b_, 0, none⟩ → (Ax1 = some ⟨b_, 0, none⟩ ∨ Ax2 = some ⟨b_, 0, none⟩) ∨ w.heap.size ≤ b_) ∧ Kp (fun b_ => Ax1 = some ⟨b_, 0, none⟩ ∨ Ax2 = some ⟨b_, 0, none⟩) w w' := by
 refine calls_W 43 Tryz.func151 rfl rfl rfl ?_
 have hcpx1 := hx1.rd.cap
 have hbbx1 := hx1.rd.bd
 have hbdx1 := hx1.rd.bound
 have hlex1 := hx1.len
 have hBbx1 := hx1.bd
 have hcpx2 := hx2.rd.cap
 have hbbx2 := hx2.rd.bd
 have hbdx2 := hx2.rd.bound
 have hlex2 := hx2.len
 have hBbx2 := hx2.bd
 refine Ws (Wr (SR.box (v := .agg (List.toArray _)) (l := (cLb Ax1 nx1 cx1 Ax2 nx2 cx2 x)) rfl rfl ?_))
 intro g1 w2 hg3 hk4 hs5 hb6
 have hd9 := SlO.ne (g := g1) hx1
 have hd10 := SlO.ne (g := g1) hx2
 refine SR.box (v := .agg (List.toArray _)) (l := [.int .i64 s.Kind, .int .i64 s.Id, .int .i64 s.Reader, .int .i64 s.Value]) rfl rfl ?_
 intro g11 w12 hg13 hk14 hs15 hb16
 have hd19 := SlO.ne (g := g11) (hx1.lo hk4)
 refine SR.alloc (l := [.slice none 0 0, .slice none 0 0, .int .i64 0, .int .i64 0, .int .i64 0]) tz34 rfl ?_
 intro g21 w22 hg23 hk24 hs25 hb26
 have hd29 := SlO.ne (g := g21) ((hx1.lo hk4).lo hk14)
 have hd30 := SlO.ne (g := g21) ((hx2.lo hk4).lo hk14)
 refine Qn (Ws ?_)
 have hm31 := (hb6.lo hk14).lo hk24
 have hm32 := ((hx1.lo hk4).lo hk14).lo hk24
 have hm33 := ((hx2.lo hk4).lo hk14).lo hk24
 refine Wr (Q (lG agg34 rfl hm31 rfl) <| Q (fA fa106_1 rfl) <| Q (lB sca3 rfl (hb16.lo hk24) rfl) <| Qv ent121 (c__impl_Library__mapAt w22 x (hm32.rd) (hm33.rd) s.Id (by omega)) rfl fun w34 hk35 hz36 => ?_)
 have hB37 := ((((Kp.refl w : Kp (fun b_ => Ax1 = some ⟨b_, 0, none⟩ ∨ Ax2 = some ⟨b_, 0, none⟩) w w).lo hk4).lo hk14).lo hk24).lo hk35
 have hq38 : bsP cmpM s.Id x.Maps ≤ x.Maps.length := bsP_le
 refine Q (mT rfl) <| Q (xI rfl rfl) <| Q (xB rfl rfl) <| Q (aI rfl) <| Q (aB rfl) <| Qn (Ws (Ws ?_))
 have hm39 := (hb16.lo hk24).lo hk35
 refine Wr (Q (mB rfl) <| Q (r_not rfl) <| Qn (W.cond_n rfl (fun h40 => ?_) (fun h40 => ?_)))
 ·refine Wr (Q (fA fa34_0 rfl) <| Q (lB sca31 rfl (hm31.lo hk35) rfl) <| Q (mI rfl) <| Q (fA fa106_1 rfl) <| Q (lB sca3 rfl hm39 rfl) <| Q (r_build (vs := [(0, .int .i64 s.Id)]) rfl (bld102_0 _)) <| SR.lit (vs := [.agg (List.toArray [.int .i64 s.Id, .int .i64 0, .int .i64 0])]) (L := ([(⟨s.Id, 0, 0⟩ : LMap)] : List LMap)) (enc := encLMap) tel31 (fun _ => rfl) rfl rfl rfl (by decide) ?_)
  intro g41 w42 hg43 hk44 hO45
  have hz46 := hk44.size
  refine SR.call ent182 (c_slices_Insert___impl_Map_impl_Map_ w42 x.Maps ((hm32.lo hk35).lo hk44) (bsP cmpM s.Id x.Maps : Int) ([(⟨s.Id, 0, 0⟩ : LMap)] : List LMap) hO45 (by omega) (by omega) (by omega) (fun b_ h h' => (SlO.ne (g := g41) (hm32.lo hk35)) (h'.trans h.symm))) rfl ?_
  rintro e w50 ⟨A52, n53, c54, rfl, hO55, hN56, hk51⟩
  refine ⟨_, rfl, ?_⟩
  have hz57 := hk51.size
  have hd59 : Dj A52 Ax2 := fun b_ e' h' => (hN56 b_ e').elim (fun h => hdx_Maps_x2 b_ h h') (fun h => by have := ((hm33.lo hk35).lo hk44).base_le h'; omega)
  have hd61 : ¬ A52 = some ⟨g1, 0, none⟩ := fun e' => (hN56 g1 e').elim (fun h => hd9 h) (fun h => by have := ((hm31.lo hk35).lo hk44).lt; omega)
  have hd62 : ¬ A52 = some ⟨g11, 0, none⟩ := fun e' => (hN56 g11 e').elim (fun h => hd19 h) (fun h => by have := (hm39.lo hk44).lt; omega)
  have hd63 : ¬ A52 = some ⟨g21, 0, none⟩ := fun e' => (hN56 g21 e').elim (fun h => hd29 h) (fun h => by have := ((hb26.lo hk35).lo hk44).lt; omega)
  have hl64 := hO55.len
  have hl65 := hO55.rd.bound
  have hq66 := ins_len1 x.Maps (⟨s.Id, 0, 0⟩ : LMap) ((bsP cmpM s.Id x.Maps : Int).toNat)
  refine Q (fA fa34_0 rfl) <| Qw (o := 0) (vs := [.slice A52 n53 c54]) sca31.2 rfl rfl rfl rfl (((hm31.lo hk35).lo hk44).kp hk51 (fun e' => hd9 e')) ler rfl ?_
  intro w67 hk68 hs69 hb70
  refine Qn (Ws ?_)
  have hm74 := ((hm39.lo hk44).kp hk51 (fun e' => hd19 e')).kn hk68
  refine W.regA (Kp (KA A52) w67) (fun f' w' => At f' [(2, .pointer (pA g1)), (3, .pointer (pA g11)), (4, .pointer (pA g21))] ∧ (Kp (KA A52) w67 w') ∧ (SlO w' Bx1 encLMap 3 102 A52 n53 c54 ((x.Maps.take (bsP cmpM s.Id x.Maps : Int).toNat ++ ([(⟨s.Id, 0, 0⟩ : LMap)] : List LMap) ++ x.Maps.drop (bsP cmpM s.Id x.Maps : Int).toNat).set ((bsP cmpM s.Id x.Maps : Int).toNat) ({ (gt (x.Maps.take (bsP cmpM s.Id x.Maps : Int).toNat ++ ([(⟨s.Id, 0, 0⟩ : LMap)] : List LMap) ++ x.Maps.drop (bsP cmpM s.Id x.Maps : Int).toNat) ((bsP cmpM s.Id x.Maps : Int).toNat)) with Copies := IntKind.i64.wrap (((gt (x.Maps.take (bsP cmpM s.Id x.Maps : Int).toNat ++ ([(⟨s.Id, 0, 0⟩ : LMap)] : List LMap) ++ x.Maps.drop (bsP cmpM s.Id x.Maps : Int).toNat) ((bsP cmpM s.Id x.Maps : Int).toNat)).Copies) + s.Value) }))) ∧ ((x.Maps.take (bsP cmpM s.Id x.Maps : Int).toNat ++ ([(⟨s.Id, 0, 0⟩ : LMap)] : List LMap) ++ x.Maps.drop (bsP cmpM s.Id x.Maps : Int).toNat)[(bsP cmpM s.Id x.Maps : Int).toNat]? = some (gt (x.Maps.take (bsP cmpM s.Id x.Maps : Int).toNat ++ ([(⟨s.Id, 0, 0⟩ : LMap)] : List LMap) ++ x.Maps.drop (bsP cmpM s.Id x.Maps : Int).toNat) ((bsP cmpM s.Id x.Maps : Int).toNat))) ∧ (((x.Maps.take (bsP cmpM s.Id x.Maps : Int).toNat ++ ([(⟨s.Id, 0, 0⟩ : LMap)] : List LMap) ++ x.Maps.drop (bsP cmpM s.Id x.Maps : Int).toNat).set ((bsP cmpM s.Id x.Maps : Int).toNat) ({ (gt (x.Maps.take (bsP cmpM s.Id x.Maps : Int).toNat ++ ([(⟨s.Id, 0, 0⟩ : LMap)] : List LMap) ++ x.Maps.drop (bsP cmpM s.Id x.Maps : Int).toNat) ((bsP cmpM s.Id x.Maps : Int).toNat)) with Copies := IntKind.i64.wrap (((gt (x.Maps.take (bsP cmpM s.Id x.Maps : Int).toNat ++ ([(⟨s.Id, 0, 0⟩ : LMap)] : List LMap) ++ x.Maps.drop (bsP cmpM s.Id x.Maps : Int).toNat) ((bsP cmpM s.Id x.Maps : Int).toNat)).Copies) + s.Value) }))[(bsP cmpM s.Id x.Maps : Int).toNat]? = some ({ (gt (x.Maps.take (bsP cmpM s.Id x.Maps : Int).toNat ++ ([(⟨s.Id, 0, 0⟩ : LMap)] : List LMap) ++ x.Maps.drop (bsP cmpM s.Id x.Maps : Int).toNat) ((bsP cmpM s.Id x.Maps : Int).toNat)) with Copies := IntKind.i64.wrap (((gt (x.Maps.take (bsP cmpM s.Id x.Maps : Int).toNat ++ ([(⟨s.Id, 0, 0⟩ : LMap)] : List LMap) ++ x.Maps.drop (bsP cmpM s.Id x.Maps : Int).toNat) ((bsP cmpM s.Id x.Maps : Int).toNat)).Copies) + s.Value) }))) mo ?_ ?_
  ·intro w108 hk109
   have hz110 := hk109.size
   refine Ak 0 rfl ((Kp.refl w67 : Kp (KA A52) w67 w67).lo hk109) (fun w' hw' => fA fa34_0 rfl) <| Ak 1 rfl ((Kp.refl w67 : Kp (KA A52) w67 w67).lo hk109) (fun w' hw' => r_ld (v := .slice A52 n53 c54) sca31 rfl ((hb70.kp hw' (fun e' => hd61 e')).cell rfl)) <| Ak 2 rfl ((Kp.refl w67 : Kp (KA A52) w67 w67).lo hk109) (fun w' hw' => r_mv (v := .int .i64 _) rfl) <| ?_
   have hx113 := (((hO55.kd hk68 hd61).lo hk109).rd).elem (i := (bsP cmpM s.Id x.Maps : Int).toNat) (by omega)
   refine Ak 6 rfl ((Kp.refl w67 : Kp (KA A52) w67 w67).lo hk109) (fun w' hw' => fA fa106_3 rfl) <| Ak 7 rfl ((Kp.refl w67 : Kp (KA A52) w67 w67).lo hk109) (fun w' hw' => r_ld (v := .int .i64 s.Value) sca3 rfl ((hm74.kp hw' (fun e' => hd62 e')).cell rfl)) <| Ab 3 rfl (Q (r_ixR tsl31 (((hO55.kd hk68 hd61).lo hk109).rd) rfl rfl (by omega)) (Qn ⟨(Kp.refl w67 : Kp (KA A52) w67 w67).lo hk109, _, rfl, (Ak 4 rfl ((Kp.refl w67 : Kp (KA A52) w67 w67).lo hk109) (fun w' hw' => fA fa102_1 rfl) <| Ab 5 rfl (Q (r_ld (v := .int .i64 ((gt (x.Maps.take (bsP cmpM s.Id x.Maps : Int).toNat ++ ([(⟨s.Id, 0, 0⟩ : LMap)] : List LMap) ++ x.Maps.drop (bsP cmpM s.Id x.Maps : Int).toNat) ((bsP cmpM s.Id x.Maps : Int).toNat)).Copies)) sca3 rfl ((((hO55.kd hk68 hd61).lo hk109).rd).cell hx113 rfl)) (Qn ⟨(Kp.refl w67 : Kp (KA A52) w67 w67).lo hk109, _, rfl, (Ak 8 rfl ((Kp.refl w67 : Kp (KA A52) w67 w67).lo hk109) (fun w' hw' => r_addW rfl rfl) <| Ab 9 rfl (Q (r_ixR tsl31 (((hO55.kd hk68 hd61).lo hk109).rd) rfl rfl (by omega)) (Qn ⟨(Kp.refl w67 : Kp (KA A52) w67 w67).lo hk109, _, rfl, (Ak 10 rfl ((Kp.refl w67 : Kp (KA A52) w67 w67).lo hk109) (fun w' hw' => fA fa102_1 rfl) <| Ab 11 rfl (SR.storeO (o := 1) (vs := [.int .i64 (IntKind.i64.wrap (((gt (x.Maps.take (bsP cmpM s.Id x.Maps : Int).toNat ++ ([(⟨s.Id, 0, 0⟩ : LMap)] : List LMap) ++ x.Maps.drop (bsP cmpM s.Id x.Maps : Int).toNat) ((bsP cmpM s.Id x.Maps : Int).toNat)).Copies) + s.Value))]) (x1 := { (gt (x.Maps.take (bsP cmpM s.Id x.Maps : Int).toNat ++ ([(⟨s.Id, 0, 0⟩ : LMap)] : List LMap) ++ x.Maps.drop (bsP cmpM s.Id x.Maps : Int).toNat) ((bsP cmpM s.Id x.Maps : Int).toNat)) with Copies := IntKind.i64.wrap (((gt (x.Maps.take (bsP cmpM s.Id x.Maps : Int).toNat ++ ([(⟨s.Id, 0, 0⟩ : LMap)] : List LMap) ++ x.Maps.drop (bsP cmpM s.Id x.Maps : Int).toNat) ((bsP cmpM s.Id x.Maps : Int).toNat)).Copies) + s.Value) }) sca3.2 rfl (add_add _ _ _) rfl rfl ((hO55.kd hk68 hd61).lo hk109) hx113 rfl ler rfl ?_))⟩)))⟩)))⟩))
   intro w114 hk115 hs116 hO117
   have hz118 := hk115.size
   have hS120 := ((Kp.refl w67 : Kp (KA A52) w67 w67).lo hk109).step hk115 (fun _ _ e => e)
   have hx121 : ((x.Maps.take (bsP cmpM s.Id x.Maps : Int).toNat ++ ([(⟨s.Id, 0, 0⟩ : LMap)] : List LMap) ++ x.Maps.drop (bsP cmpM s.Id x.Maps : Int).toNat).set ((bsP cmpM s.Id x.Maps : Int).toNat) ({ (gt (x.Maps.take (bsP cmpM s.Id x.Maps : Int).toNat ++ ([(⟨s.Id, 0, 0⟩ : LMap)] : List LMap) ++ x.Maps.drop (bsP cmpM s.Id x.Maps : Int).toNat) ((bsP cmpM s.Id x.Maps : Int).toNat)) with Copies := IntKind.i64.wrap (((gt (x.Maps.take (bsP cmpM s.Id x.Maps : Int).toNat ++ ([(⟨s.Id, 0, 0⟩ : LMap)] : List LMap) ++ x.Maps.drop (bsP cmpM s.Id x.Maps : Int).toNat) ((bsP cmpM s.Id x.Maps : Int).toNat)).Copies) + s.Value) }))[(bsP cmpM s.Id x.Maps : Int).toNat]? = some ({ (gt (x.Maps.take (bsP cmpM s.Id x.Maps : Int).toNat ++ ([(⟨s.Id, 0, 0⟩ : LMap)] : List LMap) ++ x.Maps.drop (bsP cmpM s.Id x.Maps : Int).toNat) ((bsP cmpM s.Id x.Maps : Int).toNat)) with Copies := IntKind.i64.wrap (((gt (x.Maps.take (bsP cmpM s.Id x.Maps : Int).toNat ++ ([(⟨s.Id, 0, 0⟩ : LMap)] : List LMap) ++ x.Maps.drop (bsP cmpM s.Id x.Maps : Int).toNat) ((bsP cmpM s.Id x.Maps : Int).toNat)).Copies) + s.Value) }) := List.getElem?_set_self (List.getElem?_eq_some_iff.1 hx113).1
   refine Qn ⟨hS120, _, rfl, (AH.done (by kernel_rfl) (⟨(At.r rfl), hS120, hO117, hx113, hx121⟩))⟩
  rintro f122 w123 ⟨hat125, hR124, hm107, hx94, hx106⟩
  rw [← sets_of_at hat125]
  have hz126 := hR124.size
  have hB127 := (((hB37.lo hk44).step hk51 (fun i_ hi_ e' => by have := ((hm32.lo hk35).lo hk44).base_le e'; first | omega | exact e' | exact .inl e' | exact .inr e')).new hk68).step hR124 (fun i_ hi_ e' => ((show ∀ b_, A52 = some ⟨b_, 0, none⟩ → (Ax1 = some ⟨b_, 0, none⟩ ∨ Ax2 = some ⟨b_, 0, none⟩) ∨ w.heap.size ≤ b_ from (fun b_ h_ => (hN56 b_ h_).elim (fun h => ((show ∀ b_, Ax1 = some ⟨b_, 0, none⟩ → (Ax1 = some ⟨b_, 0, none⟩ ∨ Ax2 = some ⟨b_, 0, none⟩) ∨ w.heap.size ≤ b_ from (fun b_ h_ => .inl (.inl h_))) b_ h)) (fun h => .inr (by omega)))) i_ e').elim (fun e_ => e_) (fun e_ => by omega))
  refine Ws (Wr (Q (fA fa34_2 rfl) <| Q (lB sca3 rfl (hb70.kp hR124 (fun e' => hd61 e')) rfl) <| Q (fA fa106_3 rfl) <| Q (lB sca3 rfl (hm74.kp hR124 (fun e' => hd62 e')) rfl) <| Q (r_addW rfl rfl) <| Q (fA fa34_2 rfl) <| Qw (o := 2) (vs := [.int .i64 (IntKind.i64.wrap (x.Bought + s.Value))]) sca3.2 rfl rfl rfl rfl (hb70.kp hR124 (fun e' => hd61 e')) ler rfl ?_))
  intro w128 hk129 hs130 hb131
  refine Qn (Ws (Wr (Q (lG agg34 rfl hb131 rfl) <| Qw (o := 0) (vs := [.slice A52 n53 c54, .slice Ax2 nx2 cx2, .int .i64 (IntKind.i64.wrap (x.Bought + s.Value)), .int .i64 x.Dropped, .int .i64 x.Mended]) agg34.2 rfl rfl rfl rfl ((((((hb26.lo hk35).lo hk44).kp hk51 (fun e' => hd29 e')).kn hk68).kp hR124 (fun e' => hd63 e')).kn hk129) ler rfl ?_)))
  intro w136 hk137 hs138 hb139
  refine Qn (W.ret (retC rfl rfl agg34 hb139 rfl ?_))
  refine ⟨A52, n53, c54, Ax2, nx2, cx2, eR (eA (eC rfl (eC rfl (eC (eI ?_) (eC (eI ?_) (eC (eI ?_) rfl)))))), (SlO.eqv ((hm107.kd hk129 hd61).kd hk137 hd63) ?_), (SlO.eqv (((((((hm33.lo hk35).lo hk44).kp hk51 (fun b_ hb e' => hdx_Maps_x2 b_ e' hb)).kd hk68 hd10).kp hR124 (fun b_ hb e' => hd59 b_ e' hb)).kd hk129 hd10).kd hk137 hd30) ?_), hd59, (fun b_ h_ => (hN56 b_ h_).elim (fun h => ((show ∀ b_, Ax1 = some ⟨b_, 0, none⟩ → (Ax1 = some ⟨b_, 0, none⟩ ∨ Ax2 = some ⟨b_, 0, none⟩) ∨ w.heap.size ≤ b_ from (fun b_ h_ => .inl (.inl h_))) b_ h)) (fun h => .inr (by omega))), (fun b_ h_ => .inl (.inr h_)), ((hB127.new hk129).new hk137)⟩ <;> (subst hlex2 hl64; unfold impl_Library_buy; rw [if_neg h40] <;> rfl)
 ·have hq142 := And.left h40
  have hq143 := And.left h40
  refine W.skip (Ws (W.regA (Kp (KA Ax1) w34) (fun f' w' => At f' [(2, .pointer (pA g1)), (3, .pointer (pA g11)), (4, .pointer (pA g21))] ∧ (Kp (KA Ax1) w34 w') ∧ (SlO w' Bx1 encLMap 3 102 Ax1 nx1 cx1 (x.Maps.set ((bsP cmpM s.Id x.Maps : Int).toNat) ({ (gt x.Maps ((bsP cmpM s.Id x.Maps : Int).toNat)) with Copies := IntKind.i64.wrap (((gt x.Maps ((bsP cmpM s.Id x.Maps : Int).toNat)).Copies) + s.Value) }))) ∧ (x.Maps[(bsP cmpM s.Id x.Maps : Int).toNat]? = some (gt x.Maps ((bsP cmpM s.Id x.Maps : Int).toNat))) ∧ ((x.Maps.set ((bsP cmpM s.Id x.Maps : Int).toNat) ({ (gt x.Maps ((bsP cmpM s.Id x.Maps : Int).toNat)) with Copies := IntKind.i64.wrap (((gt x.Maps ((bsP cmpM s.Id x.Maps : Int).toNat)).Copies) + s.Value) }))[(bsP cmpM s.Id x.Maps : Int).toNat]? = some ({ (gt x.Maps ((bsP cmpM s.Id x.Maps : Int).toNat)) with Copies := IntKind.i64.wrap (((gt x.Maps ((bsP cmpM s.Id x.Maps : Int).toNat)).Copies) + s.Value) }))) mo ?_ ?_))
  ·intro w176 hk177
   have hz178 := hk177.size
   refine Ak 0 rfl ((Kp.refl w34 : Kp (KA Ax1) w34 w34).lo hk177) (fun w' hw' => fA fa34_0 rfl) <| Ak 1 rfl ((Kp.refl w34 : Kp (KA Ax1) w34 w34).lo hk177) (fun w' hw' => r_ld (v := .slice Ax1 nx1 cx1) sca31 rfl (((hm31.lo hk35).kp hw' (fun e' => hd9 e')).cell rfl)) <| Ak 2 rfl ((Kp.refl w34 : Kp (KA Ax1) w34 w34).lo hk177) (fun w' hw' => r_mv (v := .int .i64 _) rfl) <| ?_
   have hx181 := (((hm32.lo hk35).lo hk177).rd).elem (i := (bsP cmpM s.Id x.Maps : Int).toNat) (by omega)
   refine Ak 6 rfl ((Kp.refl w34 : Kp (KA Ax1) w34 w34).lo hk177) (fun w' hw' => fA fa106_3 rfl) <| Ak 7 rfl ((Kp.refl w34 : Kp (KA Ax1) w34 w34).lo hk177) (fun w' hw' => r_ld (v := .int .i64 s.Value) sca3 rfl ((hm39.kp hw' (fun e' => hd19 e')).cell rfl)) <| Ab 3 rfl (Q (r_ixR tsl31 (((hm32.lo hk35).lo hk177).rd) rfl rfl (by omega)) (Qn ⟨(Kp.refl w34 : Kp (KA Ax1) w34 w34).lo hk177, _, rfl, (Ak 4 rfl ((Kp.refl w34 : Kp (KA Ax1) w34 w34).lo hk177) (fun w' hw' => fA fa102_1 rfl) <| Ab 5 rfl (Q (r_ld (v := .int .i64 ((gt x.Maps ((bsP cmpM s.Id x.Maps : Int).toNat)).Copies)) sca3 rfl ((((hm32.lo hk35).lo hk177).rd).cell hx181 rfl)) (Qn ⟨(Kp.refl w34 : Kp (KA Ax1) w34 w34).lo hk177, _, rfl, (Ak 8 rfl ((Kp.refl w34 : Kp (KA Ax1) w34 w34).lo hk177) (fun w' hw' => r_addW rfl rfl) <| Ab 9 rfl (Q (r_ixR tsl31 (((hm32.lo hk35).lo hk177).rd) rfl rfl (by omega)) (Qn ⟨(Kp.refl w34 : Kp (KA Ax1) w34 w34).lo hk177, _, rfl, (Ak 10 rfl ((Kp.refl w34 : Kp (KA Ax1) w34 w34).lo hk177) (fun w' hw' => fA fa102_1 rfl) <| Ab 11 rfl (SR.storeO (o := 1) (vs := [.int .i64 (IntKind.i64.wrap (((gt x.Maps ((bsP cmpM s.Id x.Maps : Int).toNat)).Copies) + s.Value))]) (x1 := { (gt x.Maps ((bsP cmpM s.Id x.Maps : Int).toNat)) with Copies := IntKind.i64.wrap (((gt x.Maps ((bsP cmpM s.Id x.Maps : Int).toNat)).Copies) + s.Value) }) sca3.2 rfl (add_add _ _ _) rfl rfl ((hm32.lo hk35).lo hk177) hx181 rfl ler rfl ?_))⟩)))⟩)))⟩))
   intro w182 hk183 hs184 hO185
   have hz186 := hk183.size
   have hS188 := ((Kp.refl w34 : Kp (KA Ax1) w34 w34).lo hk177).step hk183 (fun _ _ e => e)
   have hx189 : (x.Maps.set ((bsP cmpM s.Id x.Maps : Int).toNat) ({ (gt x.Maps ((bsP cmpM s.Id x.Maps : Int).toNat)) with Copies := IntKind.i64.wrap (((gt x.Maps ((bsP cmpM s.Id x.Maps : Int).toNat)).Copies) + s.Value) }))[(bsP cmpM s.Id x.Maps : Int).toNat]? = some ({ (gt x.Maps ((bsP cmpM s.Id x.Maps : Int).toNat)) with Copies := IntKind.i64.wrap (((gt x.Maps ((bsP cmpM s.Id x.Maps : Int).toNat)).Copies) + s.Value) }) := List.getElem?_set_self (List.getElem?_eq_some_iff.1 hx181).1
   refine Qn ⟨hS188, _, rfl, (AH.done (by kernel_rfl) (⟨(At.r rfl), hS188, hO185, hx181, hx189⟩))⟩
  rintro f190 w191 ⟨hat193, hR192, hm175, hx162, hx174⟩
  rw [← sets_of_at hat193]
  have hz194 := hR192.size
  refine Ws ?_
  have hm196 := (hm31.lo hk35).kp hR192 (fun e' => hd9 e')
  refine Wr (Q (fA fa34_2 rfl) <| Q (lB sca3 rfl hm196 rfl) <| Q (fA fa106_3 rfl) <| Q (lB sca3 rfl (hm39.kp hR192 (fun e' => hd19 e')) rfl) <| Q (r_addW rfl rfl) <| Q (fA fa34_2 rfl) <| Qw (o := 2) (vs := [.int .i64 (IntKind.i64.wrap (x.Bought + s.Value))]) sca3.2 rfl rfl rfl rfl hm196 ler rfl ?_)
  intro w199 hk200 hs201 hb202
  refine Qn (Ws (Wr (Q (lG agg34 rfl hb202 rfl) <| Qw (o := 0) (vs := [.slice Ax1 nx1 cx1, .slice Ax2 nx2 cx2, .int .i64 (IntKind.i64.wrap (x.Bought + s.Value)), .int .i64 x.Dropped, .int .i64 x.Mended]) agg34.2 rfl rfl rfl rfl (((hb26.lo hk35).kp hR192 (fun e' => hd29 e')).kn hk200) ler rfl ?_)))
  intro w205 hk206 hs207 hb208
  refine Qn (W.ret (retC rfl rfl agg34 hb208 rfl ?_))
  refine ⟨Ax1, nx1, cx1, Ax2, nx2, cx2, eR (eA (eC rfl (eC rfl (eC (eI ?_) (eC (eI ?_) (eC (eI ?_) rfl)))))), (SlO.eqv ((hm175.kd hk200 hd9).kd hk206 hd29) ?_), (SlO.eqv ((((hm33.lo hk35).kp hR192 (fun b_ hb e' => hdx_Maps_x2 b_ e' hb)).kd hk200 hd10).kd hk206 hd30) ?_), hdx_Maps_x2, (fun b_ h_ => .inl (.inl h_)), (fun b_ h_ => .inl (.inr h_)), (((hB37.step hR192 (fun i_ hi_ e' => by have := (hm32.lo hk35).base_le e'; first | omega | exact e' | exact .inl e' | exact .inr e')).new hk200).new hk206)⟩ <;> (subst hlex1 hlex2; unfold impl_Library_buy; rw [if_pos h40] <;> rfl)
open Classical in
noncomputable def impl_Library_give (x : Library) (id : Int) (reader : Int) : Library × Bool :=
 if bsF cmpA (⟨id, reader⟩ : Away) x.Away then ((⟨([] : List LMap), ([] : List Away), 0, 0, 0⟩ : Library), false) else ((⟨x.Maps, x.Away.take (bsP cmpA (⟨id, reader⟩ : Away) x.Away : Int).toNat ++ ([(⟨id, reader⟩ : Away)] : List Away) ++ x.Away.drop (bsP cmpA (⟨id, reader⟩ : Away) x.Away : Int).toNat, x.Bought, x.Dropped, x.Mended⟩ : Library), true)
theorem c__impl_Library__give (w : World) (x : Library) {Ax1 : Option Addr} {nx1 cx1 Bx1 : Nat} (hx1 : SlO w Bx1 encLMap 3 102 Ax1 nx1 cx1 x.Maps) {Ax2 : Option Addr} {nx2 cx2 Bx2 : Nat} (hx2 : SlO w Bx2 encAway 2 129 Ax2 nx2 cx2 x.Away) (id : Int) (reader : Int) (hdx_Maps_x2 : Dj Ax1 Ax2) (hp0 : (nx1 : Int) ≤ 100) (hp1 : (nx2 : Int) ≤ 100) : Calls Tryz.prog 183 #[.agg (List.toArray (cLb Ax1 nx1 cx1 Ax2 nx2 cx2 x)), .int .i64 id, .int .i64 reader] w fun e w' => ∃ (A1' : Option Addr) (n1' c1' : Nat) (A2' : Option Addr) (n2' c2' : Nat), e = .returned (.tuple (List.toArray [.agg (List.toArray [.slice A1' n1' c1', .slice A2' n2' c2', .int .i64 (((impl_Library_give x id reader).1).Bought), .int .i64 (((impl_Library_give x id reader).1).Dropped), .int .i64 (((impl_Library_give x id reader).1).Mended)]), .bool ((impl_Library_give x id reader).2)])) ∧ SlO w' Bx1 encLMap 3 102 A1' n1' c1' (((impl_Library_give x id reader).1).Maps) ∧ SlO w' Bx2 encAway 2 129 A2' n2' c2' (((impl_Library_give x id reader).1).Away) ∧ Dj A1' A2' ∧ (∀ b_, A1' = some ⟨b_, 0, none⟩ → (Ax1 = some ⟨b_, 0, none⟩ ∨ Ax2 = some ⟨b_, 0, none⟩) ∨ w.heap.size ≤ b_) ∧ (∀ b_, A2' = some ⟨b_, 0, none⟩ → (Ax1 = some ⟨b_, 0, none⟩ ∨ Ax2 = some ⟨b_, 0, none⟩) ∨ w.heap.size ≤ b_) ∧ Kp (fun b_ => Ax1 = some ⟨b_, 0, none⟩ ∨ Ax2 = some ⟨b_, 0, none⟩) w w' := by
 refine calls_W 29 Tryz.func183 rfl rfl rfl ?_
 have hcpx1 := hx1.rd.cap
 have hbbx1 := hx1.rd.bd
 have hbdx1 := hx1.rd.bound
 have hlex1 := hx1.len
 have hBbx1 := hx1.bd
 have hcpx2 := hx2.rd.cap
 have hbbx2 := hx2.rd.bd
 have hbdx2 := hx2.rd.bound
 have hlex2 := hx2.len
 have hBbx2 := hx2.bd
 refine Ws (Wr (SR.box (v := .agg (List.toArray _)) (l := (cLb Ax1 nx1 cx1 Ax2 nx2 cx2 x)) rfl rfl ?_))
 intro g1 w2 hg3 hk4 hs5 hb6
 have hd10 := SlO.ne (g := g1) hx2
 refine SR.alloc (l := [.slice none 0 0, .slice none 0 0, .int .i64 0, .int .i64 0, .int .i64 0]) tz34 rfl ?_
 intro g11 w12 hg13 hk14 hs15 hb16
 have hd20 := SlO.ne (g := g11) (hx2.lo hk4)
 refine Q (aB rfl) <| Qn (Ws ?_)
 have hm21 := (hx1.lo hk4).lo hk14
 have hm22 := (hx2.lo hk4).lo hk14
 refine Wr (Q (lG agg34 rfl (hb6.lo hk14) rfl) <| Q (mI rfl) <| Q (mI rfl) <| Qv ent209 (c__impl_Library__awayAt w12 x (hm21.rd) (hm22.rd) id reader (by omega)) rfl fun w23 hk24 hz25 => ?_)
 have hB26 := (((Kp.refl w : Kp (fun b_ => Ax1 = some ⟨b_, 0, none⟩ ∨ Ax2 = some ⟨b_, 0, none⟩) w w).lo hk4).lo hk14).lo hk24
 have hq27 : bsP cmpA (⟨id, reader⟩ : Away) x.Away ≤ x.Away.length := bsP_le
 refine Q (mT rfl) <| Q (xI rfl rfl) <| Q (xB rfl rfl) <| Q (aI rfl) <| Q (aB rfl) <| Qn (Ws (Ws ?_))
 have hm28 := (hb6.lo hk14).lo hk24
 refine Wr (Q (mB rfl) <| Qn (W.cond_d rfl (fun h29 => ?_) (fun h29 => ?_)))
 ·have hq30 := And.left h29
  have hq31 := And.left h29
  refine Ws (Wr (Q (r_build (vs := []) rfl bld34_) <| Qw (o := 0) (vs := [.slice none 0 0, .slice none 0 0, .int .i64 0, .int .i64 0, .int .i64 0]) agg34.2 rfl rfl rfl rfl (hb16.lo hk24) ler rfl ?_))
  intro w32 hk33 hs34 hb35
  refine Q (aB rfl) <| Qn (W.ret (retCT rfl rfl agg34 hb35 rfl (v := .bool _) rfl ?_))
  refine ⟨none, 0, 0, none, 0, 0, eR (eT2 (eA (eC rfl (eC rfl (eC (eI ?_) (eC (eI ?_) (eC (eI ?_) rfl)))))) (eB ?_)), (SlO.eqv (SlO.nil (e := 102) (enc := encLMap) (fun _ => rfl) (by omega)) ?_), (SlO.eqv (SlO.nil (e := 129) (enc := encAway) (fun _ => rfl) (by omega)) ?_), (fun b_ h => by cases h), (fun b_ h => by cases h), (fun b_ h => by cases h), (hB26.new hk33)⟩ <;> (unfold impl_Library_give; rw [if_pos h29] <;> rfl)
 ·refine W.skip (Ws (Wr (Q (fA fa34_1 rfl) <| Q (lB sca32 rfl hm28 rfl) <| Q (mI rfl) <| Q (mI rfl) <| Q (mI rfl) <| Q (r_build (vs := [(0, .int .i64 id), (1, .int .i64 reader)]) rfl (bld129_0_1 _ _)) <| SR.lit (vs := [.agg (List.toArray [.int .i64 id, .int .i64 reader])]) (L := ([(⟨id, reader⟩ : Away)] : List Away)) (enc := encAway) tel32 (fun _ => rfl) rfl rfl rfl (by decide) ?_)))
  intro g38 w39 hg40 hk41 hO42
  have hz43 := hk41.size
  refine SR.call ent210 (c_slices_Insert___impl_Away_impl_Away_ w39 x.Away ((hm22.lo hk24).lo hk41) (bsP cmpA (⟨id, reader⟩ : Away) x.Away : Int) ([(⟨id, reader⟩ : Away)] : List Away) hO42 (by omega) (by omega) (by omega) (fun b_ h h' => (SlO.ne (g := g38) (hm22.lo hk24)) (h'.trans h.symm))) rfl ?_
  rintro e w47 ⟨A49, n50, c51, rfl, hO52, hN53, hk48⟩
  refine ⟨_, rfl, ?_⟩
  have hz54 := hk48.size
  have hd56 : Dj A49 Ax1 := fun b_ e' h' => (hN53 b_ e').elim (fun h => (fun b_ h h' => hdx_Maps_x2 b_ h' h) b_ h h') (fun h => by have := ((hm21.lo hk24).lo hk41).base_le h'; omega)
  have hd58 : ¬ A49 = some ⟨g1, 0, none⟩ := fun e' => (hN53 g1 e').elim (fun h => hd10 h) (fun h => by have := (hm28.lo hk41).lt; omega)
  have hd59 : ¬ A49 = some ⟨g11, 0, none⟩ := fun e' => (hN53 g11 e').elim (fun h => hd20 h) (fun h => by have := ((hb16.lo hk24).lo hk41).lt; omega)
  have hl60 := hO52.len
  have hl61 := hO52.rd.bound
  have hq62 := ins_len1 x.Away (⟨id, reader⟩ : Away) ((bsP cmpA (⟨id, reader⟩ : Away) x.Away : Int).toNat)
  refine Q (fA fa34_1 rfl) <| Qw (o := 1) (vs := [.slice A49 n50 c51]) sca32.2 rfl rfl rfl rfl ((hm28.lo hk41).kp hk48 (fun e' => hd10 e')) ler rfl ?_
  intro w63 hk64 hs65 hb66
  refine Qn (Ws (Wr (Q (lG agg34 rfl hb66 rfl) <| Qw (o := 0) (vs := (cLb Ax1 nx1 cx1 A49 n50 c51 x)) agg34.2 rfl rfl rfl rfl ((((hb16.lo hk24).lo hk41).kp hk48 (fun e' => hd20 e')).kn hk64) ler rfl ?_)))
  intro w71 hk72 hs73 hb74
  refine Q (aB rfl) <| Qn (W.ret (retCT rfl rfl agg34 hb74 rfl (v := .bool _) rfl ?_))
  refine ⟨Ax1, nx1, cx1, A49, n50, c51, eR (eT2 (eA (eC rfl (eC rfl (eC (eI ?_) (eC (eI ?_) (eC (eI ?_) rfl)))))) (eB ?_)), (SlO.eqv (((((hm21.lo hk24).lo hk41).kp hk48 (fun b_ hb e' => hdx_Maps_x2 b_ hb e')).kd hk64 (SlO.ne (g := g1) hx1)).kd hk72 (SlO.ne (g := g11) (hx1.lo hk4))) ?_), (SlO.eqv ((hO52.kd hk64 hd58).kd hk72 hd59) ?_), (fun b_ h h' => hd56 b_ h' h), (fun b_ h_ => .inl (.inl h_)), (fun b_ h_ => (hN53 b_ h_).elim (fun h => ((show ∀ b_, Ax2 = some ⟨b_, 0, none⟩ → (Ax1 = some ⟨b_, 0, none⟩ ∨ Ax2 = some ⟨b_, 0, none⟩) ∨ w.heap.size ≤ b_ from (fun b_ h_ => .inl (.inr h_))) b_ h)) (fun h => .inr (by omega))), ((((hB26.lo hk41).step hk48 (fun i_ hi_ e' => by have := ((hm22.lo hk24).lo hk41).base_le e'; first | omega | exact e' | exact .inl e' | exact .inr e')).new hk64).new hk72)⟩ <;> (subst hlex1 hl60; unfold impl_Library_give; rw [if_neg h29] <;> rfl)
open Classical in
noncomputable def impl_Library_fetch (x : Library) (id : Int) (reader : Int) : Library × Bool :=
 if bsF cmpA (⟨id, reader⟩ : Away) x.Away then ((⟨x.Maps, x.Away.take (bsP cmpA (⟨id, reader⟩ : Away) x.Away : Int).toNat ++ x.Away.drop ((bsP cmpA (⟨id, reader⟩ : Away) x.Away : Int) + 1).toNat, x.Bought, x.Dropped, x.Mended⟩ : Library), true) else ((⟨([] : List LMap), ([] : List Away), 0, 0, 0⟩ : Library), false)
theorem c__impl_Library__fetch (w : World) (x : Library) {Ax1 : Option Addr} {nx1 cx1 Bx1 : Nat} (hx1 : SlO w Bx1 encLMap 3 102 Ax1 nx1 cx1 x.Maps) {Ax2 : Option Addr} {nx2 cx2 Bx2 : Nat} (hx2 : SlO w Bx2 encAway 2 129 Ax2 nx2 cx2 x.Away) (id : Int) (reader : Int) (hdx_Maps_x2 : Dj Ax1 Ax2) (hp0 : (nx1 : Int) ≤ 100) (hp1 : (nx2 : Int) ≤ 100) : Calls Tryz.prog 184 #[.agg (List.toArray (cLb Ax1 nx1 cx1 Ax2 nx2 cx2 x)), .int .i64 id, .int .i64 reader] w fun e w' => ∃ (A1' : Option Addr) (n1' c1' : Nat) (A2' : Option Addr) (n2' c2' : Nat), e = .returned (.tuple (List.toArray [.agg (List.toArray [.slice A1' n1' c1', .slice A2' n2' c2', .int .i64 (((impl_Library_fetch x id reader).1).Bought), .int .i64 (((impl_Library_fetch x id reader).1).Dropped), .int .i64 (((impl_Library_fetch x id reader).1).Mended)]), .bool ((impl_Library_fetch x id reader).2)])) ∧ SlO w' Bx1 encLMap 3 102 A1' n1' c1' (((impl_Library_fetch x id reader).1).Maps) ∧ SlO w' Bx2 encAway 2 129 A2' n2' c2' (((impl_Library_fetch x id reader).1).Away) ∧ Dj A1' A2' ∧ (∀ b_, A1' = some ⟨b_, 0, none⟩ → (Ax1 = some ⟨b_, 0, none⟩ ∨ Ax2 = some ⟨b_, 0, none⟩) ∨ w.heap.size ≤ b_) ∧ (∀ b_, A2' = some ⟨b_, 0, none⟩ → (Ax1 = some ⟨b_, 0, none⟩ ∨ Ax2 = some ⟨b_, 0, none⟩) ∨ w.heap.size ≤ b_) ∧ Kp (fun b_ => Ax1 = some ⟨b_, 0, none⟩ ∨ Ax2 = some ⟨b_, 0, none⟩) w w' := by
 refine calls_W 28 Tryz.func184 rfl rfl rfl ?_
 have hcpx1 := hx1.rd.cap
 have hbbx1 := hx1.rd.bd
 have hbdx1 := hx1.rd.bound
 have hlex1 := hx1.len
 have hBbx1 := hx1.bd
 have hcpx2 := hx2.rd.cap
 have hbbx2 := hx2.rd.bd
 have hbdx2 := hx2.rd.bound
 have hlex2 := hx2.len
 have hBbx2 := hx2.bd
 refine Ws (Wr (SR.box (v := .agg (List.toArray _)) (l := (cLb Ax1 nx1 cx1 Ax2 nx2 cx2 x)) rfl rfl ?_))
 intro g1 w2 hg3 hk4 hs5 hb6
 have hd10 := SlO.ne (g := g1) hx2
 refine SR.alloc (l := [.slice none 0 0, .slice none 0 0, .int .i64 0, .int .i64 0, .int .i64 0]) tz34 rfl ?_
 intro g11 w12 hg13 hk14 hs15 hb16
 have hd20 := SlO.ne (g := g11) (hx2.lo hk4)
 refine Q (aB rfl) <| Qn (Ws ?_)
 have hm21 := (hx1.lo hk4).lo hk14
 have hm22 := (hx2.lo hk4).lo hk14
 refine Wr (Q (lG agg34 rfl (hb6.lo hk14) rfl) <| Q (mI rfl) <| Q (mI rfl) <| Qv ent209 (c__impl_Library__awayAt w12 x (hm21.rd) (hm22.rd) id reader (by omega)) rfl fun w23 hk24 hz25 => ?_)
 have hB26 := (((Kp.refl w : Kp (fun b_ => Ax1 = some ⟨b_, 0, none⟩ ∨ Ax2 = some ⟨b_, 0, none⟩) w w).lo hk4).lo hk14).lo hk24
 have hq27 : bsP cmpA (⟨id, reader⟩ : Away) x.Away ≤ x.Away.length := bsP_le
 refine Q (mT rfl) <| Q (xI rfl rfl) <| Q (xB rfl rfl) <| Q (aI rfl) <| Q (aB rfl) <| Qn (Ws (Ws ?_))
 have hm28 := (hb6.lo hk14).lo hk24
 refine Wr (Q (mB rfl) <| Q (r_not rfl) <| Qn (W.cond_n rfl (fun h29 => ?_) (fun h29 => ?_)))
 ·refine Ws (Wr (Q (r_build (vs := []) rfl bld34_) <| Qw (o := 0) (vs := [.slice none 0 0, .slice none 0 0, .int .i64 0, .int .i64 0, .int .i64 0]) agg34.2 rfl rfl rfl rfl (hb16.lo hk24) ler rfl ?_))
  intro w30 hk31 hs32 hb33
  refine Q (aB rfl) <| Qn (W.ret (retCT rfl rfl agg34 hb33 rfl (v := .bool _) rfl ?_))
  refine ⟨none, 0, 0, none, 0, 0, eR (eT2 (eA (eC rfl (eC rfl (eC (eI ?_) (eC (eI ?_) (eC (eI ?_) rfl)))))) (eB ?_)), (SlO.eqv (SlO.nil (e := 102) (enc := encLMap) (fun _ => rfl) (by omega)) ?_), (SlO.eqv (SlO.nil (e := 129) (enc := encAway) (fun _ => rfl) (by omega)) ?_), (fun b_ h => by cases h), (fun b_ h => by cases h), (fun b_ h => by cases h), (hB26.new hk31)⟩ <;> (unfold impl_Library_fetch; rw [if_neg h29] <;> rfl)
 ·have hq36 := And.left h29
  have hq37 := And.left h29
  refine W.skip (Ws (Wr (Q (fA fa34_1 rfl) <| Q (lB sca32 rfl hm28 rfl) <| Q (mI rfl) <| Q (mI rfl) <| Q (r_add rfl rfl (by omega)) <| SR.call ent211 (c_slices_Delete___impl_Away_impl_Away_ w23 x.Away (hm22.lo hk24) (bsP cmpA (⟨id, reader⟩ : Away) x.Away : Int) ((bsP cmpA (⟨id, reader⟩ : Away) x.Away : Int) + 1) (by omega) (by omega) (by omega)) rfl ?_)))
  rintro e w38 ⟨A40, n41, c42, rfl, hO43, hN44, hk39⟩
  refine ⟨_, rfl, ?_⟩
  have hz45 := hk39.size
  have hd47 : Dj A40 Ax1 := fun b_ e' h' => (hN44 b_ e').elim (fun h => (fun b_ h h' => hdx_Maps_x2 b_ h' h) b_ h h') (fun h => by have := (hm21.lo hk24).base_le h'; omega)
  have hd48 : ¬ A40 = some ⟨g1, 0, none⟩ := fun e' => (hN44 g1 e').elim (fun h => hd10 h) (fun h => by have := hm28.lt; omega)
  have hd49 : ¬ A40 = some ⟨g11, 0, none⟩ := fun e' => (hN44 g11 e').elim (fun h => hd20 h) (fun h => by have := (hb16.lo hk24).lt; omega)
  have hl50 := hO43.len
  have hl51 := hO43.rd.bound
  have hq52 := del_lenT x.Away (i := (bsP cmpA (⟨id, reader⟩ : Away) x.Away : Int).toNat) (j := ((bsP cmpA (⟨id, reader⟩ : Away) x.Away : Int) + 1).toNat) (by omega)
  refine Q (fA fa34_1 rfl) <| Qw (o := 1) (vs := [.slice A40 n41 c42]) sca32.2 rfl rfl rfl rfl (hm28.kp hk39 (fun e' => hd10 e')) ler rfl ?_
  intro w53 hk54 hs55 hb56
  refine Qn (Ws (Wr (Q (lG agg34 rfl hb56 rfl) <| Qw (o := 0) (vs := (cLb Ax1 nx1 cx1 A40 n41 c42 x)) agg34.2 rfl rfl rfl rfl (((hb16.lo hk24).kp hk39 (fun e' => hd20 e')).kn hk54) ler rfl ?_)))
  intro w61 hk62 hs63 hb64
  refine Q (aB rfl) <| Qn (W.ret (retCT rfl rfl agg34 hb64 rfl (v := .bool _) rfl ?_))
  refine ⟨Ax1, nx1, cx1, A40, n41, c42, eR (eT2 (eA (eC rfl (eC rfl (eC (eI ?_) (eC (eI ?_) (eC (eI ?_) rfl)))))) (eB ?_)), (SlO.eqv ((((hm21.lo hk24).kp hk39 (fun b_ hb e' => hdx_Maps_x2 b_ hb e')).kd hk54 (SlO.ne (g := g1) hx1)).kd hk62 (SlO.ne (g := g11) (hx1.lo hk4))) ?_), (SlO.eqv ((hO43.kd hk54 hd48).kd hk62 hd49) ?_), (fun b_ h h' => hd47 b_ h' h), (fun b_ h_ => .inl (.inl h_)), (fun b_ h_ => (hN44 b_ h_).elim (fun h => ((show ∀ b_, Ax2 = some ⟨b_, 0, none⟩ → (Ax1 = some ⟨b_, 0, none⟩ ∨ Ax2 = some ⟨b_, 0, none⟩) ∨ w.heap.size ≤ b_ from (fun b_ h_ => .inl (.inr h_))) b_ h)) (fun h => .inr (by omega))), (((hB26.step hk39 (fun i_ hi_ e' => by have := (hm22.lo hk24).base_le e'; first | omega | exact e' | exact .inl e' | exact .inr e')).new hk54).new hk62)⟩ <;> (subst hlex1 hl50; unfold impl_Library_fetch; rw [if_pos h29] <;> rfl)
end Go.Proofs.YtndcchndcghmoaaGreatDoor
namespace Go.Proofs.YtndcchndcghmoaaGreatDoor
open Go Go.RowKit Fw
section
variable (x : Library) (s : LibraryStep) (i r : Int)
theorem fetch_lenMaps : (((impl_Library_fetch x i r).1).Maps).length ≤ x.Maps.length := by
  unfold impl_Library_fetch; split <;> simp
theorem fetch_lenAway : (((impl_Library_fetch x i r).1).Away).length ≤ x.Away.length := by
  unfold impl_Library_fetch; split
  · exact del_lenT _ (by omega)
  · simp
theorem give_lenMaps : (((impl_Library_give x i r).1).Maps).length ≤ x.Maps.length := by
  unfold impl_Library_give; split <;> simp
theorem give_lenAway : (((impl_Library_give x i r).1).Away).length ≤ x.Away.length + 1 := by
  unfold impl_Library_give; split
  · simp
  · exact Nat.le_of_eq (ins_len1 _ _ _)
theorem buy_lenMaps : ((impl_Library_buy x s).Maps).length ≤ x.Maps.length + 1 := by
  unfold impl_Library_buy; split
  · simp
  · simp only [List.length_set]; exact Nat.le_of_eq (ins_len1 _ _ _)
theorem buy_lenAway : ((impl_Library_buy x s).Away).length ≤ x.Away.length := by
  unfold impl_Library_buy; split <;> simp
end
end Go.Proofs.YtndcchndcghmoaaGreatDoor
