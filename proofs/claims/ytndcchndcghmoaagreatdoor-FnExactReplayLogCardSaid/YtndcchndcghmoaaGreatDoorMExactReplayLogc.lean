/- Words and walks of this claim. -/
import Derived.Test.YtndcchndcghmoaaGreatDoorChecked
import Derived.Test.YtndcchndcghmoaaGreatDoorMExactReplayLogb
set_option linter.unusedVariables false
namespace Go.Proofs.YtndcchndcghmoaaGreatDoor
open Go Go.RowKit Fw
set_option maxRecDepth 10000
set_option maxHeartbeats 2000000
set_option linter.unusedVariables false
theorem c_spec_CopiesThere (w : World) (x : Library) {Ax1 : Option Addr} {nx1 cx1 Bx1 : Nat} (hx1 : SlR w Bx1 encLMap 3 Ax1 nx1 cx1 x.Maps) {Ax2 : Option Addr} {nx2 cx2 Bx2 : Nat} (hx2 : SlR w Bx2 encAway 2 Ax2 nx2 cx2 x.Away) (hp0 : (nx1 : Int) ≤ 1048576) : Calls Tryz.prog 135 #[.agg (List.toArray (cLb Ax1 nx1 cx1 Ax2 nx2 cx2 x))] w fun e w' => e = .returned (.tuple (List.toArray [.int .i64 (if LibOK x then sumC x.Maps else 0), .bool (decide (LibOK x))])) ∧ Lo w w' := by
 refine calls_W 9 Tryz.func135 rfl rfl rfl ?_
 have hbdx1 := hx1.bound
 have hlex1 := hx1.len
 have hBbx1 := hx1.bd
 have hbdx2 := hx2.bound
 have hlex2 := hx2.len
 have hBbx2 := hx2.bd
 refine Ws (Wr (SR.box (v := .agg (List.toArray _)) (l := (cLb Ax1 nx1 cx1 Ax2 nx2 cx2 x)) rfl rfl ?_))
 intro g1 w2 hg3 hk4 hs5 hb6
 refine Q (aI rfl) <| Q (aB rfl) <| Qn (Ws (Ws (Wr (Q (lG agg34 rfl hb6 rfl) <| Qv ent80 (c_spec_l32Good w2 x (hx1.lo hk4) (hx2.lo hk4)) rfl fun w9 hk10 hz11 => ?_))))
 have hB12 := ((Lo.refl w).lo hk4).lo hk10
 refine Q (r_not rfl) <| Qn (W.cond_n rfl (fun h13 => ?_) (fun h13 => ?_))
 ·refine Ws (Wr (Q (aI rfl) <| Q (aB rfl) <| Qn (W.ret (ret2 rfl (v := .int .i64 _) (v' := .bool _) rfl rfl (⟨eR (eT2 (eI (by first | assumption | simp [*])) (eDF h13)), hB12⟩)))))
 ·have hq16 := And.left h13
  have hq17 := lib_len h13
  have hq18 := And.left hq16
  have hq19 := And.right hq16
  refine W.skip (Ws (Wr (Q (lG agg34 rfl (hb6.lo hk10) rfl) <| Qv ent132 (c_spec_l32There w9 x ((hx1.lo hk4).lo hk10) ((hx2.lo hk4).lo hk10) false (by first | assumption | exact MTo.end_ (And.right ‹_ ∧ MTo _ _›) (by omega)) (by omega)) rfl fun w22 hk23 hz24 => ?_)))
  have hq26 : 0 ≤ (if false = true then sumT x.Maps else sumC x.Maps) ∧ (if false = true then sumT x.Maps else sumC x.Maps) ≤ 792 := there_rng false ‹MapsOK _› (by omega)
  refine Q (aI rfl) <| Q (aB rfl) <| Qn (W.ret (ret2 rfl (v := .int .i64 _) (v' := .bool _) rfl rfl (⟨eR (eT2 (eI (by first | assumption | simp [*])) (eDT h13)), (hB12.lo hk23)⟩)))
theorem c_impl_MapsAt (w : World) (x : Library) {Ax1 : Option Addr} {nx1 cx1 Bx1 : Nat} (hx1 : SlR w Bx1 encLMap 3 Ax1 nx1 cx1 x.Maps) {Ax2 : Option Addr} {nx2 cx2 Bx2 : Nat} (hx2 : SlR w Bx2 encAway 2 Ax2 nx2 cx2 x.Away) (r : Int) (hp0 : (nx1 : Int) ≤ 1048576) : Calls Tryz.prog 153 #[.agg (List.toArray (cLb Ax1 nx1 cx1 Ax2 nx2 cx2 x)), .int .i64 r] w fun e w' => ∃ (A1' : Option Addr) (n1' c1' : Nat), e = .returned (.tuple (List.toArray [.slice A1' n1' c1', .bool (decide (LibOK x ∧ (1 ≤ r ∧ r ≤ 999)))])) ∧ SlO w' w.heap.size encI 1 3 A1' n1' c1' (if LibOK x ∧ (1 ≤ r ∧ r ≤ 999) then selL (atR r) Away.Map x.Away else []) ∧ Lo w w' := by
 refine calls_W 35 Tryz.func153 rfl rfl rfl ?_
 have hbdx1 := hx1.bound
 have hlex1 := hx1.len
 have hBbx1 := hx1.bd
 have hbdx2 := hx2.bound
 have hlex2 := hx2.len
 have hBbx2 := hx2.bd
 refine Ws (Wr (SR.box (v := .agg (List.toArray _)) (l := (cLb Ax1 nx1 cx1 Ax2 nx2 cx2 x)) rfl rfl ?_))
 intro g1 w2 hg3 hk4 hs5 hb6
 refine Q (r_as (v := .slice none 0 0) rfl) <| Q (aB rfl) <| Qn (Ws (Ws (W.regJS (fun f' w' => At f' [(1, .int .i64 r), (2, .pointer (pA g1)), (4, .slice none 0 0), (5, .bool false), (16, .bool (decide ((¬ (LibOK x)) ∨ (¬ (1 ≤ r ∧ r ≤ 999)))))] ∧ Lo w2 w') ?_ ?_)))
 ·refine Q (lG agg34 rfl hb6 rfl) <| Qv ent72 (c_impl_IsLibrary w2 x (hx1.lo hk4) (hx2.lo hk4) (by omega)) rfl fun w9 hk10 hz11 => (Q (r_not rfl) <| Q (mB rfl) <| SR.splitN (fun h13 => ?_) (fun h13 => ?_))
  ·refine Qs rfl <| Qs rfl <| Qs rfl <| Q (r_pick true rfl (v := .bool true) rfl) <| Qn (⟨_, rfl, ⟨⟨rfl, rfl, rfl, rfl, (eDT ((jmf h13).1 trivial)), trivial⟩, hk10⟩⟩)
  ·have hq14 := And.left h13
   have hq15 := lib_len h13
   have hq16 := And.left hq14
   have hq17 := And.right hq14
   refine Qg rfl (mI rfl) <| SR.gcall rfl ent122 (c_impl_isId w9 r) rfl ?_
   rintro e w18 ⟨rfl, hk19⟩
   refine ⟨_, rfl, ?_⟩
   have hz20 := hk19.size
   refine Qg rfl (r_not rfl) <| Q (r_pick false rfl (v := .bool _) rfl) <| Qn (⟨_, rfl, ⟨⟨rfl, rfl, rfl, rfl, (eND (jmt h13)), trivial⟩, (hk10.trans hk19)⟩⟩)
 rintro f22 w23 ⟨hat24, hk25⟩
 rw [← sets_of_at hat24]
 have hz26 := hk25.size
 have hB27 := ((Lo.refl w).lo hk4).lo hk25
 refine W.cond_d rfl (fun h28 => ?_) (fun h28 => ?_)
 ·refine Ws (Wr (Q (r_as (v := .slice none 0 0) rfl) <| Q (aB rfl) <| Qn (W.ret (ret2 rfl (v := .slice none 0 0) (v' := .bool _) rfl rfl (⟨none, 0, 0, eR (eT2 rfl (eDF (by first | assumption | exact ⟨‹_›, ‹_›⟩ | exact not_and_of_not_or_not ‹_›))), (SlO.eqv (SlO.nil (e := 3) (enc := encI) (fun _ => rfl) (by omega)) (by first | (rw [if_pos (by first | assumption | exact ⟨‹_›, ‹_›⟩)]; exact sel_end (by omega)) | (rw [if_neg (by first | assumption | exact not_and_of_not_or_not ‹_›)]))), hB27⟩)))))
 ·have hq31 : LibOK x := (Classical.not_not.1 (not_or.1 h28).1)
  have hq32 : 1 ≤ r ∧ r ≤ 999 := (Classical.not_not.1 (not_or.1 h28).2)
  have hq33 := And.left hq31
  have hq34 := lib_len hq31
  have hq35 := And.left hq33
  have hq36 := And.right hq33
  refine W.skip (Ws (Wr (Q (r_as (v := .slice none 0 0) rfl) <| Qn (Ws (Ws (Wr (Q (fA fa34_1 rfl) <| Q (lB sca32 rfl (hb6.lo hk25) rfl) <| Q (r_len und32 rfl) <| Q (r_mv (v := .int .i64 0) rfl) <| Qn (W.block (W.loop (σ := Nat × (Option Addr) × Nat × Nat) (fun g => [(1, .int .i64 r), (4, .slice none 0 0), (5, .bool false), (6, .slice g.2.1 g.2.2.1 g.2.2.2), (18, .slice Ax2 nx2 cx2), (19, .int .i64 (nx2 : Int)), (20, .int .i64 (g.1 : Int))]) (fun g w' => (Lo w w') ∧ (SlR w' Bx2 encAway 2 Ax2 nx2 cx2 x.Away) ∧ (SlO w' w.heap.size encI 1 3 g.2.1 g.2.2.1 g.2.2.2 (selL (atR r) Away.Map (x.Away.take g.1))) ∧ (g.1 ≤ nx2)) (fun g => nx2 - g.1) (0, (none : Option Addr), 0, 0) ?_ ?_ ?_)))))))))
  ·exact (At.r rfl)
  ·exact ⟨hB27, ((hx2.lo hk4).lo hk25), (SlO.eqv (SlO.nil (base := w.heap.size) (e := 3) (enc := encI) (fun _ => rfl) (by omega)) (by rfl)), (by (try dsimp only); omega)⟩
  ·rintro ⟨k, A39, n39, c39⟩ f40 w41 hP43
   obtain ⟨hB42, hm44, hO45, hi46⟩ : (Lo w w41) ∧ (SlR w41 Bx2 encAway 2 Ax2 nx2 cx2 x.Away) ∧ (SlO w41 w.heap.size encI 1 3 A39 n39 c39 (selL (atR r) Away.Map (x.Away.take k))) ∧ (k ≤ nx2) := hP43
   refine (?_ : W _ _ _ _ _ (act _ (sets f40 [(1, .int .i64 r), (4, .slice none 0 0), (5, .bool false), (6, .slice A39 n39 c39), (18, .slice Ax2 nx2 cx2), (19, .int .i64 (nx2 : Int)), (20, .int .i64 (k : Int))])) _)
   have hzw41 := hB42.size
   have hl47 := hO45.len
   have hl48 := hO45.rd.bound
   have hq49 := sel_lenT x.Away k (atR r) Away.Map
   refine Ws (Wr (Q (r_lt rfl rfl) <| Qn (Ws (W.cond_d rfl (fun h50 => ?_) (fun h50 => ?_)))))
   ·refine W.skip (Ws (W.block (Ws ?_)))
    have hx52 := hm44.elem (i := k) (by omega)
    refine Wr (Q (r_ixR tsl32 hm44 rfl rfl (by omega)) <| Q (r_lda (l := encAway (gt x.Away k)) agg129 rfl (fun _ _ hu => hm44.cell hx52 hu) (hm44.esz _)) <| SR.alloc (l := [.int .i64 0, .int .i64 0]) tz129 rfl ?_)
    intro g53 w54 hg55 hk56 hs57 hb58
    refine Qw (o := 0) (vs := [.int .i64 ((gt x.Away k).Map), .int .i64 ((gt x.Away k).Reader)]) agg129.2 rfl rfl rfl rfl hb58 ler rfl ?_
    intro w62 hk63 hs64 hb65
    have hB67 := (hB42.lo hk56).new hk63
    refine Qn (Ws ?_)
    have hm68 := (hO45.lo hk56).kd hk63 (SlO.ne (g := g53) hO45)
    have hm69 := (hm44.lo hk56).kn hk63
    refine Wr (Q (fA fa129_1 rfl) <| Q (lB sca3 rfl hb65 rfl) <| Q (mI rfl) <| Q (r_eq rfl rfl) <| Qn (W.cond_d rfl (fun h70 => ?_) (fun h70 => ?_)))
    ·refine Wr (Q (mL rfl) <| Q (fA fa129_0 rfl) <| Q (lB sca3 rfl hb65 rfl) <| SR.lit (vs := [.int .i64 ((gt x.Away k).Map)]) (L := ([(gt x.Away k).Map] : List Int)) (enc := encI) tel93 (fun _ => rfl) rfl rfl rfl (by decide) ?_)
     intro g71 w72 hg73 hk74 hO75
     have hz76 := hk74.size
     refine SR.app tel93 rfl rfl (hm68.lo hk74) (hO75.rd) (fun _ => rfl) (by omega) (by omega) ?_
     intro A79 c80 w81 hk82 hO83 hN84
     have hz85 := hk82.size
     refine Q (aL rfl) <| Qn ?_
     have hm89 := (hm69.lo hk74).kp hk82 (fun b_ hb e' => by have := (hm68.lo hk74).base_le e'; omega)
     refine Wr (Q (r_add rfl rfl (by omega)) <| Q (mI rfl) <| Qn (⟨(k + 1, A79, n39 + 1, c80), _, rfl, (At.r rfl), ⟨((hB67.lo hk74).step hk82 (fun i_ hi_ e' => by have := (hm68.lo hk74).base_le e'; first | omega | exact e' | exact .inl e' | exact .inr e')), hm89, (SlO.eqv hO83 (by first | exact sel_yes (by omega) (decide_eq_true ‹_›) | exact sel_no (by omega) (decide_eq_false ‹_›))), ?_⟩, ?_⟩))
     ·exact (by (try dsimp only); omega)
     ·exact (by (try dsimp only); omega)
    ·refine W.skip (Wr (Q (r_add rfl rfl (by omega)) <| Q (mI rfl) <| Qn (⟨(k + 1, A39, n39, c39), _, rfl, (At.r rfl), ⟨hB67, hm69, (SlO.eqv hm68 (by first | exact sel_yes (by omega) (decide_eq_true ‹_›) | exact sel_no (by omega) (decide_eq_false ‹_›))), ?_⟩, ?_⟩)))
     ·exact (by (try dsimp only); omega)
     ·exact (by (try dsimp only); omega)
   ·refine W.exit (xin_here (Ws (Wr (Q (mL rfl) <| Q (aL rfl) <| Q (aB rfl) <| Qn (W.ret (ret2 rfl (v := .slice _ _ _) (v' := .bool _) rfl rfl (⟨A39, n39, c39, eR (eT2 rfl (eDT (by first | assumption | exact ⟨‹_›, ‹_›⟩ | exact not_and_of_not_or_not ‹_›))), (SlO.eqv (hO45.down) (by first | (rw [if_pos (by first | assumption | exact ⟨‹_›, ‹_›⟩)]; exact sel_end (by omega)) | (rw [if_neg (by first | assumption | exact not_and_of_not_or_not ‹_›)]))), hB42⟩)))))))
theorem c_spec_MapsAt (w : World) (x : Library) {Ax1 : Option Addr} {nx1 cx1 Bx1 : Nat} (hx1 : SlR w Bx1 encLMap 3 Ax1 nx1 cx1 x.Maps) {Ax2 : Option Addr} {nx2 cx2 Bx2 : Nat} (hx2 : SlR w Bx2 encAway 2 Ax2 nx2 cx2 x.Away) (r : Int) (hp0 : (nx1 : Int) ≤ 1048576) : Calls Tryz.prog 140 #[.agg (List.toArray (cLb Ax1 nx1 cx1 Ax2 nx2 cx2 x)), .int .i64 r] w fun e w' => ∃ (A1' : Option Addr) (n1' c1' : Nat), e = .returned (.tuple (List.toArray [.slice A1' n1' c1', .bool (decide (LibOK x ∧ (1 ≤ r ∧ r ≤ 999)))])) ∧ SlO w' w.heap.size encI 1 3 A1' n1' c1' (if LibOK x ∧ (1 ≤ r ∧ r ≤ 999) then selL (atR r) Away.Map x.Away else []) ∧ Lo w w' := by
 refine calls_W 43 Tryz.func140 rfl rfl rfl ?_
 have hbdx1 := hx1.bound
 have hlex1 := hx1.len
 have hBbx1 := hx1.bd
 have hbdx2 := hx2.bound
 have hlex2 := hx2.len
 have hBbx2 := hx2.bd
 refine Ws (Wr (SR.box (v := .agg (List.toArray _)) (l := (cLb Ax1 nx1 cx1 Ax2 nx2 cx2 x)) rfl rfl ?_))
 intro g1 w2 hg3 hk4 hs5 hb6
 refine Q (r_as (v := .slice none 0 0) rfl) <| Q (aB rfl) <| Qn (Ws (Wr (SR.lit (vs := []) (L := ([] : List Int)) (enc := encI) tel93 (fun _ => rfl) rfl rfl rfl (by decide) ?_)))
 intro g9 w10 hg11 hk12 hO13
 have hz14 := hk12.size
 refine Q (aL rfl) <| Qn (Ws (Ws ?_))
 have hm16 := (hx1.lo hk4).lo hk12
 have hm17 := (hx2.lo hk4).lo hk12
 refine W.regJS (fun f' w' => At f' [(1, .int .i64 r), (2, .pointer (pA g1)), (4, .slice none 0 0), (5, .bool false), (6, .slice (pA g9) 0 0), (16, .bool (decide ((¬ (LibOK x)) ∨ (¬ (1 ≤ r ∧ r ≤ 999)))))] ∧ Lo w10 w') ?_ ?_
 ·refine Q (lG agg34 rfl (hb6.lo hk12) rfl) <| Qv ent80 (c_spec_l32Good w10 x hm16 hm17) rfl fun w18 hk19 hz20 => (Q (r_not rfl) <| Q (mB rfl) <| SR.splitN (fun h22 => ?_) (fun h22 => ?_))
  ·refine Qs rfl <| Qs rfl <| Qs rfl <| Q (r_pick true rfl (v := .bool true) rfl) <| Qn (⟨_, rfl, ⟨⟨rfl, rfl, rfl, rfl, rfl, (eDT ((jmf h22).1 trivial)), trivial⟩, hk19⟩⟩)
  ·have hq23 := And.left h22
   have hq24 := lib_len h22
   have hq25 := And.left hq23
   have hq26 := And.right hq23
   refine Qg rfl (mI rfl) <| SR.gcall rfl ent133 (c_spec_l1In w18 r 1 999) rfl ?_
   rintro e w27 ⟨rfl, hk28⟩
   refine ⟨_, rfl, ?_⟩
   have hz29 := hk28.size
   refine Qg rfl (r_not rfl) <| Q (r_pick false rfl (v := .bool _) rfl) <| Qn (⟨_, rfl, ⟨⟨rfl, rfl, rfl, rfl, rfl, (eND (jmt h22)), trivial⟩, (hk19.trans hk28)⟩⟩)
 rintro f31 w32 ⟨hat33, hk34⟩
 rw [← sets_of_at hat33]
 have hz35 := hk34.size
 have hB36 := (((Lo.refl w).lo hk4).lo hk12).lo hk34
 refine W.cond_d rfl (fun h37 => ?_) (fun h37 => ?_)
 ·refine Ws (Wr (Q (mL rfl) <| Q (aL rfl) <| Q (aB rfl) <| Qn (W.ret (ret2 rfl (v := .slice _ _ _) (v' := .bool _) rfl rfl (⟨(pA g9), 0, 0, eR (eT2 rfl (eDF (by first | assumption | exact ⟨‹_›, ‹_›⟩ | exact not_and_of_not_or_not ‹_›))), (SlO.eqv ((hO13.lo hk34).down) (by first | (rw [if_pos (by first | assumption | exact ⟨‹_›, ‹_›⟩)]; exact sel_end (by omega)) | (rw [if_neg (by first | assumption | exact not_and_of_not_or_not ‹_›)]))), hB36⟩)))))
 ·have hq39 : LibOK x := (Classical.not_not.1 (not_or.1 h37).1)
  have hq40 : 1 ≤ r ∧ r ≤ 999 := (Classical.not_not.1 (not_or.1 h37).2)
  have hq41 := And.left hq39
  have hq42 := lib_len hq39
  have hq43 := And.left hq41
  have hq44 := And.right hq41
  refine W.skip (Ws (Ws (Wr (Q (aI rfl) <| Qn (W.block (W.loop (σ := Nat × (Option Addr) × Nat × Nat) (fun g => [(1, .int .i64 r), (2, .pointer (pA g1)), (4, .slice none 0 0), (5, .bool false), (6, .slice g.2.1 g.2.2.1 g.2.2.2), (7, .int .i64 (g.1 : Int))]) (fun g w' => (Lo w w') ∧ (Blk w' g1 34 (cLb Ax1 nx1 cx1 Ax2 nx2 cx2 x)) ∧ (SlR w' Bx1 encLMap 3 Ax1 nx1 cx1 x.Maps) ∧ (SlR w' Bx2 encAway 2 Ax2 nx2 cx2 x.Away) ∧ (SlO w' w.heap.size encI 1 3 g.2.1 g.2.2.1 g.2.2.2 (selL (atR r) Away.Map (x.Away.take g.1))) ∧ (¬ g.2.1 = some ⟨g1, 0, none⟩) ∧ (g.1 ≤ nx2)) (fun g => nx2 - g.1) (0, (pA g9), 0, 0) ?_ ?_ ?_))))))
  ·exact (At.r rfl)
  ·show (Lo w w32) ∧ (Blk w32 g1 34 (cLb Ax1 nx1 cx1 Ax2 nx2 cx2 x)) ∧ (SlR w32 Bx1 encLMap 3 Ax1 nx1 cx1 x.Maps) ∧ (SlR w32 Bx2 encAway 2 Ax2 nx2 cx2 x.Away) ∧ (SlO w32 w.heap.size encI 1 3 (pA g9) 0 0 (selL (atR r) Away.Map (x.Away.take 0))) ∧ (¬ (pA g9) = some ⟨g1, 0, none⟩) ∧ (0 ≤ nx2)
   exact ⟨hB36, ((hb6.lo hk12).lo hk34), hm16.lo hk34, hm17.lo hk34, (SlO.eqv ((hO13.lo hk34).down) (by rfl)), (fun e' => by have := (hO13.lo hk34).base_le e'; omega), (by (try dsimp only); omega)⟩
  ·rintro ⟨k, A46, n46, c46⟩ f47 w48 hP50
   obtain ⟨hB49, hm51, hm52, hm53, hO54, hd56, hi55⟩ : (Lo w w48) ∧ (Blk w48 g1 34 (cLb Ax1 nx1 cx1 Ax2 nx2 cx2 x)) ∧ (SlR w48 Bx1 encLMap 3 Ax1 nx1 cx1 x.Maps) ∧ (SlR w48 Bx2 encAway 2 Ax2 nx2 cx2 x.Away) ∧ (SlO w48 w.heap.size encI 1 3 A46 n46 c46 (selL (atR r) Away.Map (x.Away.take k))) ∧ (¬ A46 = some ⟨g1, 0, none⟩) ∧ (k ≤ nx2) := hP50
   refine (?_ : W _ _ _ _ _ (act _ (sets f47 [(1, .int .i64 r), (2, .pointer (pA g1)), (4, .slice none 0 0), (5, .bool false), (6, .slice A46 n46 c46), (7, .int .i64 (k : Int))])) _)
   have hzw48 := hB49.size
   have hl57 := hm51.lt
   have hl58 := hO54.len
   have hl59 := hO54.rd.bound
   have hq60 := sel_lenT x.Away k (atR r) Away.Map
   refine Ws (Ws (Wr (Q (mI rfl) <| Q (fA fa34_1 rfl) <| Q (lB sca32 rfl hm51 rfl) <| Q (r_len und32 rfl) <| Q (r_lt rfl rfl) <| Qn (W.cond_d rfl (fun h61 => ?_) (fun h61 => ?_)))))
   ·refine W.skip (Ws (W.block (Ws (Wr (Q (fA fa34_1 rfl) <| Q (lB sca32 rfl hm51 rfl) <| Q (mI rfl) <| ?_)))))
    have hx63 := hm53.elem (i := k) (by omega)
    refine Q (r_ixR tsl32 hm53 rfl rfl (by omega)) <| Q (fA fa129_1 rfl) <| Q (r_ld (v := .int .i64 ((gt x.Away k).Reader)) sca3 rfl (hm53.cell hx63 rfl)) <| Q (mI rfl) <| Q (r_eq rfl rfl) <| Qn (W.cond_d rfl (fun h64 => ?_) (fun h64 => ?_))
    ·refine Wr (Q (mL rfl) <| Q (fA fa34_1 rfl) <| Q (lB sca32 rfl hm51 rfl) <| Q (mI rfl) <| Q (r_ixR tsl32 hm53 rfl rfl (by omega)) <| Q (fA fa129_0 rfl) <| Q (r_ld (v := .int .i64 ((gt x.Away k).Map)) sca3 rfl (hm53.cell hx63 rfl)) <| SR.lit (vs := [.int .i64 ((gt x.Away k).Map)]) (L := ([(gt x.Away k).Map] : List Int)) (enc := encI) tel93 (fun _ => rfl) rfl rfl rfl (by decide) ?_)
     intro g65 w66 hg67 hk68 hO69
     have hz70 := hk68.size
     refine SR.app tel93 rfl rfl (hO54.lo hk68) (hO69.rd) (fun _ => rfl) (by omega) (by omega) ?_
     intro A73 c74 w75 hk76 hO77 hN78
     have hz79 := hk76.size
     have hd81 : ¬ A73 = some ⟨g1, 0, none⟩ := fun e' => (hN78 g1 e').elim (fun h => hd56 (h.trans e')) (fun h => by have := (hm51.lo hk68).lt; omega)
     refine Q (aL rfl) <| Qn ?_
     have hm84 := (hm52.lo hk68).kp hk76 (fun b_ hb e' => by have := (hO54.lo hk68).base_le e'; omega)
     have hm85 := (hm53.lo hk68).kp hk76 (fun b_ hb e' => by have := (hO54.lo hk68).base_le e'; omega)
     refine Wr (Q (mI rfl) <| Q (r_add rfl rfl (by omega)) <| Q (aI rfl) <| Qn (⟨(k + 1, A73, n46 + 1, c74), _, rfl, (At.r rfl), (show (Lo w w75) ∧ (Blk w75 g1 34 (cLb Ax1 nx1 cx1 Ax2 nx2 cx2 x)) ∧ (SlR w75 Bx1 encLMap 3 Ax1 nx1 cx1 x.Maps) ∧ (SlR w75 Bx2 encAway 2 Ax2 nx2 cx2 x.Away) ∧ (SlO w75 w.heap.size encI 1 3 A73 (n46 + 1) c74 (selL (atR r) Away.Map (x.Away.take (k + 1)))) ∧ (¬ A73 = some ⟨g1, 0, none⟩) ∧ (k + 1 ≤ nx2) from ⟨((hB49.lo hk68).step hk76 (fun i_ hi_ e' => by have := (hO54.lo hk68).base_le e'; first | omega | exact e' | exact .inl e' | exact .inr e')), ((hm51.lo hk68).kp hk76 (fun e' => hd56 e')), hm84, hm85, (SlO.eqv hO77 (by first | exact sel_yes (by omega) (decide_eq_true ‹_›) | exact sel_no (by omega) (decide_eq_false ‹_›))), hd81, ?_⟩), ?_⟩))
     ·exact (by (try dsimp only); omega)
     ·exact (by (try dsimp only); omega)
    ·refine W.skip (Wr (Q (mI rfl) <| Q (r_add rfl rfl (by omega)) <| Q (aI rfl) <| Qn (⟨(k + 1, A46, n46, c46), _, rfl, (At.r rfl), (show (Lo w w48) ∧ (Blk w48 g1 34 (cLb Ax1 nx1 cx1 Ax2 nx2 cx2 x)) ∧ (SlR w48 Bx1 encLMap 3 Ax1 nx1 cx1 x.Maps) ∧ (SlR w48 Bx2 encAway 2 Ax2 nx2 cx2 x.Away) ∧ (SlO w48 w.heap.size encI 1 3 A46 n46 c46 (selL (atR r) Away.Map (x.Away.take (k + 1)))) ∧ (¬ A46 = some ⟨g1, 0, none⟩) ∧ (k + 1 ≤ nx2) from ⟨hB49, hm51, hm52, hm53, (SlO.eqv hO54 (by first | exact sel_yes (by omega) (decide_eq_true ‹_›) | exact sel_no (by omega) (decide_eq_false ‹_›))), hd56, ?_⟩), ?_⟩)))
     ·exact (by (try dsimp only); omega)
     ·exact (by (try dsimp only); omega)
   ·refine W.exit (xin_here (Ws (Wr (Q (mL rfl) <| Q (aL rfl) <| Q (aB rfl) <| Qn (W.ret (ret2 rfl (v := .slice _ _ _) (v' := .bool _) rfl rfl (⟨A46, n46, c46, eR (eT2 rfl (eDT (by first | assumption | exact ⟨‹_›, ‹_›⟩ | exact not_and_of_not_or_not ‹_›))), (SlO.eqv (hO54.down) (by first | (rw [if_pos (by first | assumption | exact ⟨‹_›, ‹_›⟩)]; exact sel_end (by omega)) | (rw [if_neg (by first | assumption | exact not_and_of_not_or_not ‹_›)]))), hB49⟩)))))))
theorem c_impl_MayLend (w : World) (x : Library) {Ax1 : Option Addr} {nx1 cx1 Bx1 : Nat} (hx1 : SlR w Bx1 encLMap 3 Ax1 nx1 cx1 x.Maps) {Ax2 : Option Addr} {nx2 cx2 Bx2 : Nat} (hx2 : SlR w Bx2 encAway 2 Ax2 nx2 cx2 x.Away) (hp0 : (nx1 : Int) ≤ 1048576) : Calls Tryz.prog 156 #[.agg (List.toArray (cLb Ax1 nx1 cx1 Ax2 nx2 cx2 x))] w fun e w' => ∃ (A1' : Option Addr) (n1' c1' : Nat), e = .returned (.tuple (List.toArray [.slice A1' n1' c1', .bool (decide (LibOK x))])) ∧ SlO w' w.heap.size encI 1 3 A1' n1' c1' (if LibOK x then selL mayM LMap.Id x.Maps else []) ∧ Lo w w' := by
 refine calls_W 29 Tryz.func156 rfl rfl rfl ?_
 have hbdx1 := hx1.bound
 have hlex1 := hx1.len
 have hBbx1 := hx1.bd
 have hbdx2 := hx2.bound
 have hlex2 := hx2.len
 have hBbx2 := hx2.bd
 refine Ws (Wr (SR.box (v := .agg (List.toArray _)) (l := (cLb Ax1 nx1 cx1 Ax2 nx2 cx2 x)) rfl rfl ?_))
 intro g1 w2 hg3 hk4 hs5 hb6
 refine Q (r_as (v := .slice none 0 0) rfl) <| Q (aB rfl) <| Qn (Ws (Ws (Wr (Q (lG agg34 rfl hb6 rfl) <| Qv ent72 (c_impl_IsLibrary w2 x (hx1.lo hk4) (hx2.lo hk4) (by omega)) rfl fun w9 hk10 hz11 => ?_))))
 have hB12 := ((Lo.refl w).lo hk4).lo hk10
 refine Q (r_not rfl) <| Qn (W.cond_n rfl (fun h13 => ?_) (fun h13 => ?_))
 ·refine Ws (Wr (Q (r_as (v := .slice none 0 0) rfl) <| Q (aB rfl) <| Qn (W.ret (ret2 rfl (v := .slice none 0 0) (v' := .bool _) rfl rfl (⟨none, 0, 0, eR (eT2 rfl (eDF h13)), (SlO.eqv (SlO.nil (e := 3) (enc := encI) (fun _ => rfl) (by omega)) (by first | (rw [if_pos (by first | assumption | exact ⟨‹_›, ‹_›⟩)]; exact sel_end (by omega)) | (rw [if_neg (by first | assumption | exact not_and_of_not_or_not ‹_›)]))), hB12⟩)))))
 ·have hq16 := And.left h13
  have hq17 := lib_len h13
  have hq18 := And.left hq16
  have hq19 := And.right hq16
  refine W.skip (Ws (Wr (Q (r_as (v := .slice none 0 0) rfl) <| Qn (Ws (Ws (Wr (Q (fA fa34_0 rfl) <| Q (lB sca31 rfl (hb6.lo hk10) rfl) <| Q (r_len und31 rfl) <| Q (r_mv (v := .int .i64 0) rfl) <| Qn (W.block (W.loop (σ := Nat × (Option Addr) × Nat × Nat) (fun g => [(2, .slice none 0 0), (3, .bool false), (4, .slice g.2.1 g.2.2.1 g.2.2.2), (11, .slice Ax1 nx1 cx1), (12, .int .i64 (nx1 : Int)), (13, .int .i64 (g.1 : Int))]) (fun g w' => (Lo w w') ∧ (SlR w' Bx1 encLMap 3 Ax1 nx1 cx1 x.Maps) ∧ (SlO w' w.heap.size encI 1 3 g.2.1 g.2.2.1 g.2.2.2 (selL mayM LMap.Id (x.Maps.take g.1))) ∧ (g.1 ≤ nx1)) (fun g => nx1 - g.1) (0, (none : Option Addr), 0, 0) ?_ ?_ ?_)))))))))
  ·exact (At.r rfl)
  ·exact ⟨hB12, ((hx1.lo hk4).lo hk10), (SlO.eqv (SlO.nil (base := w.heap.size) (e := 3) (enc := encI) (fun _ => rfl) (by omega)) (by rfl)), (by (try dsimp only); omega)⟩
  ·rintro ⟨k, A22, n22, c22⟩ f23 w24 hP26
   obtain ⟨hB25, hm27, hO28, hi29⟩ : (Lo w w24) ∧ (SlR w24 Bx1 encLMap 3 Ax1 nx1 cx1 x.Maps) ∧ (SlO w24 w.heap.size encI 1 3 A22 n22 c22 (selL mayM LMap.Id (x.Maps.take k))) ∧ (k ≤ nx1) := hP26
   refine (?_ : W _ _ _ _ _ (act _ (sets f23 [(2, .slice none 0 0), (3, .bool false), (4, .slice A22 n22 c22), (11, .slice Ax1 nx1 cx1), (12, .int .i64 (nx1 : Int)), (13, .int .i64 (k : Int))])) _)
   have hzw24 := hB25.size
   have hl30 := hO28.len
   have hl31 := hO28.rd.bound
   have hq32 := sel_lenT x.Maps k mayM LMap.Id
   refine Ws (Wr (Q (r_lt rfl rfl) <| Qn (Ws (W.cond_d rfl (fun h33 => ?_) (fun h33 => ?_)))))
   ·refine W.skip (Ws (W.block (Ws ?_)))
    have hx35 := hm27.elem (i := k) (by omega)
    refine Wr (Q (r_ixR tsl31 hm27 rfl rfl (by omega)) <| Q (r_lda (l := encLMap (gt x.Maps k)) agg102 rfl (fun _ _ hu => hm27.cell hx35 hu) (hm27.esz _)) <| SR.alloc (l := [.int .i64 0, .int .i64 0, .int .i64 0]) tz102 rfl ?_)
    intro g36 w37 hg38 hk39 hs40 hb41
    refine Qw (o := 0) (vs := [.int .i64 ((gt x.Maps k).Id), .int .i64 ((gt x.Maps k).Copies), .int .i64 ((gt x.Maps k).Torn)]) agg102.2 rfl rfl rfl rfl hb41 ler rfl ?_
    intro w45 hk46 hs47 hb48
    have hB50 := (hB25.lo hk39).new hk46
    refine Qn (Ws ?_)
    have hm51 := (hO28.lo hk39).kd hk46 (SlO.ne (g := g36) hO28)
    have hm52 := (hm27.lo hk39).kn hk46
    refine Wr (Q (fA fa102_1 rfl) <| Q (lB sca3 rfl hb48 rfl) <| Q (fA fa102_2 rfl) <| Q (lB sca3 rfl hb48 rfl) <| Q (r_gt rfl rfl) <| Qn (W.cond_d rfl (fun h53 => ?_) (fun h53 => ?_)))
    ·refine Wr (Q (mL rfl) <| Q (fA fa102_0 rfl) <| Q (lB sca3 rfl hb48 rfl) <| SR.lit (vs := [.int .i64 ((gt x.Maps k).Id)]) (L := ([(gt x.Maps k).Id] : List Int)) (enc := encI) tel93 (fun _ => rfl) rfl rfl rfl (by decide) ?_)
     intro g54 w55 hg56 hk57 hO58
     have hz59 := hk57.size
     refine SR.app tel93 rfl rfl (hm51.lo hk57) (hO58.rd) (fun _ => rfl) (by omega) (by omega) ?_
     intro A62 c63 w64 hk65 hO66 hN67
     have hz68 := hk65.size
     refine Q (aL rfl) <| Qn ?_
     have hm72 := (hm52.lo hk57).kp hk65 (fun b_ hb e' => by have := (hm51.lo hk57).base_le e'; omega)
     refine Wr (Q (r_add rfl rfl (by omega)) <| Q (mI rfl) <| Qn (⟨(k + 1, A62, n22 + 1, c63), _, rfl, (At.r rfl), ⟨((hB50.lo hk57).step hk65 (fun i_ hi_ e' => by have := (hm51.lo hk57).base_le e'; first | omega | exact e' | exact .inl e' | exact .inr e')), hm72, (SlO.eqv hO66 (by first | exact sel_yes (by omega) (decide_eq_true ‹_›) | exact sel_no (by omega) (decide_eq_false ‹_›))), ?_⟩, ?_⟩))
     ·exact (by (try dsimp only); omega)
     ·exact (by (try dsimp only); omega)
    ·refine W.skip (Wr (Q (r_add rfl rfl (by omega)) <| Q (mI rfl) <| Qn (⟨(k + 1, A22, n22, c22), _, rfl, (At.r rfl), ⟨hB50, hm52, (SlO.eqv hm51 (by first | exact sel_yes (by omega) (decide_eq_true ‹_›) | exact sel_no (by omega) (decide_eq_false ‹_›))), ?_⟩, ?_⟩)))
     ·exact (by (try dsimp only); omega)
     ·exact (by (try dsimp only); omega)
   ·refine W.exit (xin_here (Ws (Wr (Q (mL rfl) <| Q (aL rfl) <| Q (aB rfl) <| Qn (W.ret (ret2 rfl (v := .slice _ _ _) (v' := .bool _) rfl rfl (⟨A22, n22, c22, eR (eT2 rfl (eDT h13)), (SlO.eqv (hO28.down) (by first | (rw [if_pos (by first | assumption | exact ⟨‹_›, ‹_›⟩)]; exact sel_end (by omega)) | (rw [if_neg (by first | assumption | exact not_and_of_not_or_not ‹_›)]))), hB25⟩)))))))
theorem c_spec_MayLend (w : World) (x : Library) {Ax1 : Option Addr} {nx1 cx1 Bx1 : Nat} (hx1 : SlR w Bx1 encLMap 3 Ax1 nx1 cx1 x.Maps) {Ax2 : Option Addr} {nx2 cx2 Bx2 : Nat} (hx2 : SlR w Bx2 encAway 2 Ax2 nx2 cx2 x.Away) (hp0 : (nx1 : Int) ≤ 1048576) : Calls Tryz.prog 138 #[.agg (List.toArray (cLb Ax1 nx1 cx1 Ax2 nx2 cx2 x))] w fun e w' => ∃ (A1' : Option Addr) (n1' c1' : Nat), e = .returned (.tuple (List.toArray [.slice A1' n1' c1', .bool (decide (LibOK x))])) ∧ SlO w' w.heap.size encI 1 3 A1' n1' c1' (if LibOK x then selL mayM LMap.Id x.Maps else []) ∧ Lo w w' := by
 refine calls_W 41 Tryz.func138 rfl rfl rfl ?_
 have hbdx1 := hx1.bound
 have hlex1 := hx1.len
 have hBbx1 := hx1.bd
 have hbdx2 := hx2.bound
 have hlex2 := hx2.len
 have hBbx2 := hx2.bd
 refine Ws (Wr (SR.box (v := .agg (List.toArray _)) (l := (cLb Ax1 nx1 cx1 Ax2 nx2 cx2 x)) rfl rfl ?_))
 intro g1 w2 hg3 hk4 hs5 hb6
 refine Q (r_as (v := .slice none 0 0) rfl) <| Q (aB rfl) <| Qn (Ws (Wr (SR.lit (vs := []) (L := ([] : List Int)) (enc := encI) tel93 (fun _ => rfl) rfl rfl rfl (by decide) ?_)))
 intro g9 w10 hg11 hk12 hO13
 have hz14 := hk12.size
 refine Q (aL rfl) <| Qn (Ws (Ws ?_))
 have hm16 := (hx1.lo hk4).lo hk12
 have hm17 := (hx2.lo hk4).lo hk12
 refine Wr (Q (lG agg34 rfl (hb6.lo hk12) rfl) <| Qv ent80 (c_spec_l32Good w10 x hm16 hm17) rfl fun w18 hk19 hz20 => ?_)
 have hB21 := (((Lo.refl w).lo hk4).lo hk12).lo hk19
 refine Q (r_not rfl) <| Qn (W.cond_n rfl (fun h22 => ?_) (fun h22 => ?_))
 ·refine Ws (Wr (Q (mL rfl) <| Q (aL rfl) <| Q (aB rfl) <| Qn (W.ret (ret2 rfl (v := .slice _ _ _) (v' := .bool _) rfl rfl (⟨(pA g9), 0, 0, eR (eT2 rfl (eDF h22)), (SlO.eqv ((hO13.lo hk19).down) (by first | (rw [if_pos (by first | assumption | exact ⟨‹_›, ‹_›⟩)]; exact sel_end (by omega)) | (rw [if_neg (by first | assumption | exact not_and_of_not_or_not ‹_›)]))), hB21⟩)))))
 ·have hq24 := And.left h22
  have hq25 := lib_len h22
  have hq26 := And.left hq24
  have hq27 := And.right hq24
  refine W.skip (Ws (Ws (Wr (Q (aI rfl) <| Qn (W.block (W.loop (σ := Nat × (Option Addr) × Nat × Nat) (fun g => [(1, .pointer (pA g1)), (2, .slice none 0 0), (3, .bool false), (4, .slice g.2.1 g.2.2.1 g.2.2.2), (5, .int .i64 (g.1 : Int))]) (fun g w' => (Lo w w') ∧ (Blk w' g1 34 (cLb Ax1 nx1 cx1 Ax2 nx2 cx2 x)) ∧ (SlR w' Bx1 encLMap 3 Ax1 nx1 cx1 x.Maps) ∧ (SlR w' Bx2 encAway 2 Ax2 nx2 cx2 x.Away) ∧ (SlO w' w.heap.size encI 1 3 g.2.1 g.2.2.1 g.2.2.2 (selL mayM LMap.Id (x.Maps.take g.1))) ∧ (¬ g.2.1 = some ⟨g1, 0, none⟩) ∧ (g.1 ≤ nx1)) (fun g => nx1 - g.1) (0, (pA g9), 0, 0) ?_ ?_ ?_))))))
  ·exact (At.r rfl)
  ·show (Lo w w18) ∧ (Blk w18 g1 34 (cLb Ax1 nx1 cx1 Ax2 nx2 cx2 x)) ∧ (SlR w18 Bx1 encLMap 3 Ax1 nx1 cx1 x.Maps) ∧ (SlR w18 Bx2 encAway 2 Ax2 nx2 cx2 x.Away) ∧ (SlO w18 w.heap.size encI 1 3 (pA g9) 0 0 (selL mayM LMap.Id (x.Maps.take 0))) ∧ (¬ (pA g9) = some ⟨g1, 0, none⟩) ∧ (0 ≤ nx1)
   exact ⟨hB21, ((hb6.lo hk12).lo hk19), hm16.lo hk19, hm17.lo hk19, (SlO.eqv ((hO13.lo hk19).down) (by rfl)), (fun e' => by have := (hO13.lo hk19).base_le e'; omega), (by (try dsimp only); omega)⟩
  ·rintro ⟨k, A29, n29, c29⟩ f30 w31 hP33
   obtain ⟨hB32, hm34, hm35, hm36, hO37, hd39, hi38⟩ : (Lo w w31) ∧ (Blk w31 g1 34 (cLb Ax1 nx1 cx1 Ax2 nx2 cx2 x)) ∧ (SlR w31 Bx1 encLMap 3 Ax1 nx1 cx1 x.Maps) ∧ (SlR w31 Bx2 encAway 2 Ax2 nx2 cx2 x.Away) ∧ (SlO w31 w.heap.size encI 1 3 A29 n29 c29 (selL mayM LMap.Id (x.Maps.take k))) ∧ (¬ A29 = some ⟨g1, 0, none⟩) ∧ (k ≤ nx1) := hP33
   refine (?_ : W _ _ _ _ _ (act _ (sets f30 [(1, .pointer (pA g1)), (2, .slice none 0 0), (3, .bool false), (4, .slice A29 n29 c29), (5, .int .i64 (k : Int))])) _)
   have hzw31 := hB32.size
   have hl40 := hm34.lt
   have hl41 := hO37.len
   have hl42 := hO37.rd.bound
   have hq43 := sel_lenT x.Maps k mayM LMap.Id
   refine Ws (Ws (Wr (Q (mI rfl) <| Q (fA fa34_0 rfl) <| Q (lB sca31 rfl hm34 rfl) <| Q (r_len und31 rfl) <| Q (r_lt rfl rfl) <| Qn (W.cond_d rfl (fun h44 => ?_) (fun h44 => ?_)))))
   ·refine W.skip (Ws (W.block (Ws (W.regD mo (by kernel_rfl) (QR.q' (fun w' hw' => fA fa34_0 rfl) <| QR.q' (fun w' hw' => r_ld (v := .slice Ax1 nx1 cx1) sca31 rfl ((hm34.lo hw').cell rfl)) <| QR.q' (fun w' hw' => r_mv (v := .int .i64 _) rfl) <| ?_)))))
    have hx46 := hm35.elem (i := k) (by omega)
    refine QR.q' (fun w' hw' => r_ixR tsl31 (hm35.lo hw') rfl rfl (by omega)) <| QR.q' (fun w' hw' => fA fa102_1 rfl) <| QR.q' (fun w' hw' => r_ld (v := .int .i64 ((gt x.Maps k).Copies)) sca3 rfl ((hm35.lo hw').cell hx46 rfl)) <| QR.q' (fun w' hw' => fA fa34_0 rfl) <| QR.q' (fun w' hw' => r_ld (v := .slice Ax1 nx1 cx1) sca31 rfl ((hm34.lo hw').cell rfl)) <| QR.q' (fun w' hw' => r_mv (v := .int .i64 _) rfl) <| QR.q' (fun w' hw' => r_ixR tsl31 (hm35.lo hw') rfl rfl (by omega)) <| QR.q' (fun w' hw' => fA fa102_2 rfl) <| QR.q' (fun w' hw' => r_ld (v := .int .i64 ((gt x.Maps k).Torn)) sca3 rfl ((hm35.lo hw').cell hx46 rfl)) <| QR.q' (fun w' hw' => r_gt rfl rfl) <| QR.nil ?_
    intro w47 hk48
    have hz49 := hk48.size
    have hB50 := hB32.lo hk48
    refine W.cond_d rfl (fun h51 => ?_) (fun h51 => ?_)
    ·refine Wr (Q (mL rfl) <| Q (fA fa34_0 rfl) <| Q (lB sca31 rfl (hm34.lo hk48) rfl) <| Q (mI rfl) <| Q (r_ixR tsl31 (hm35.lo hk48) rfl rfl (by omega)) <| Q (fA fa102_0 rfl) <| Q (r_ld (v := .int .i64 ((gt x.Maps k).Id)) sca3 rfl ((hm35.lo hk48).cell hx46 rfl)) <| SR.lit (vs := [.int .i64 ((gt x.Maps k).Id)]) (L := ([(gt x.Maps k).Id] : List Int)) (enc := encI) tel93 (fun _ => rfl) rfl rfl rfl (by decide) ?_)
     intro g52 w53 hg54 hk55 hO56
     have hz57 := hk55.size
     refine SR.app tel93 rfl rfl ((hO37.lo hk48).lo hk55) (hO56.rd) (fun _ => rfl) (by omega) (by omega) ?_
     intro A60 c61 w62 hk63 hO64 hN65
     have hz66 := hk63.size
     have hd68 : ¬ A60 = some ⟨g1, 0, none⟩ := fun e' => (hN65 g1 e').elim (fun h => hd39 (h.trans e')) (fun h => by have := ((hm34.lo hk48).lo hk55).lt; omega)
     refine Q (aL rfl) <| Qn ?_
     have hm71 := ((hm35.lo hk48).lo hk55).kp hk63 (fun b_ hb e' => by have := ((hO37.lo hk48).lo hk55).base_le e'; omega)
     have hm72 := ((hm36.lo hk48).lo hk55).kp hk63 (fun b_ hb e' => by have := ((hO37.lo hk48).lo hk55).base_le e'; omega)
     refine Wr (Q (mI rfl) <| Q (r_add rfl rfl (by omega)) <| Q (aI rfl) <| Qn (⟨(k + 1, A60, n29 + 1, c61), _, rfl, (At.r rfl), (show (Lo w w62) ∧ (Blk w62 g1 34 (cLb Ax1 nx1 cx1 Ax2 nx2 cx2 x)) ∧ (SlR w62 Bx1 encLMap 3 Ax1 nx1 cx1 x.Maps) ∧ (SlR w62 Bx2 encAway 2 Ax2 nx2 cx2 x.Away) ∧ (SlO w62 w.heap.size encI 1 3 A60 (n29 + 1) c61 (selL mayM LMap.Id (x.Maps.take (k + 1)))) ∧ (¬ A60 = some ⟨g1, 0, none⟩) ∧ (k + 1 ≤ nx1) from ⟨((hB50.lo hk55).step hk63 (fun i_ hi_ e' => by have := ((hO37.lo hk48).lo hk55).base_le e'; first | omega | exact e' | exact .inl e' | exact .inr e')), (((hm34.lo hk48).lo hk55).kp hk63 (fun e' => hd39 e')), hm71, hm72, (SlO.eqv hO64 (by first | exact sel_yes (by omega) (decide_eq_true ‹_›) | exact sel_no (by omega) (decide_eq_false ‹_›))), hd68, ?_⟩), ?_⟩))
     ·exact (by (try dsimp only); omega)
     ·exact (by (try dsimp only); omega)
    ·refine W.skip (Wr (Q (mI rfl) <| Q (r_add rfl rfl (by omega)) <| Q (aI rfl) <| Qn (⟨(k + 1, A29, n29, c29), _, rfl, (At.r rfl), (show (Lo w w47) ∧ (Blk w47 g1 34 (cLb Ax1 nx1 cx1 Ax2 nx2 cx2 x)) ∧ (SlR w47 Bx1 encLMap 3 Ax1 nx1 cx1 x.Maps) ∧ (SlR w47 Bx2 encAway 2 Ax2 nx2 cx2 x.Away) ∧ (SlO w47 w.heap.size encI 1 3 A29 n29 c29 (selL mayM LMap.Id (x.Maps.take (k + 1)))) ∧ (¬ A29 = some ⟨g1, 0, none⟩) ∧ (k + 1 ≤ nx1) from ⟨hB50, hm34.lo hk48, hm35.lo hk48, hm36.lo hk48, (SlO.eqv (hO37.lo hk48) (by first | exact sel_yes (by omega) (decide_eq_true ‹_›) | exact sel_no (by omega) (decide_eq_false ‹_›))), hd39, ?_⟩), ?_⟩)))
     ·exact (by (try dsimp only); omega)
     ·exact (by (try dsimp only); omega)
   ·refine W.exit (xin_here (Ws (Wr (Q (mL rfl) <| Q (aL rfl) <| Q (aB rfl) <| Qn (W.ret (ret2 rfl (v := .slice _ _ _) (v' := .bool _) rfl rfl (⟨A29, n29, c29, eR (eT2 rfl (eDT h22)), (SlO.eqv (hO37.down) (by first | (rw [if_pos (by first | assumption | exact ⟨‹_›, ‹_›⟩)]; exact sel_end (by omega)) | (rw [if_neg (by first | assumption | exact not_and_of_not_or_not ‹_›)]))), hB32⟩)))))))
theorem c_impl_TornCopies (w : World) (x : Library) {Ax1 : Option Addr} {nx1 cx1 Bx1 : Nat} (hx1 : SlR w Bx1 encLMap 3 Ax1 nx1 cx1 x.Maps) {Ax2 : Option Addr} {nx2 cx2 Bx2 : Nat} (hx2 : SlR w Bx2 encAway 2 Ax2 nx2 cx2 x.Away) (hp0 : (nx1 : Int) ≤ 1048576) : Calls Tryz.prog 157 #[.agg (List.toArray (cLb Ax1 nx1 cx1 Ax2 nx2 cx2 x))] w fun e w' => e = .returned (.tuple (List.toArray [.int .i64 (if LibOK x then sumT x.Maps else 0), .bool (decide (LibOK x))])) ∧ Lo w w' := by
 refine calls_W 23 Tryz.func157 rfl rfl rfl ?_
 have hbdx1 := hx1.bound
 have hlex1 := hx1.len
 have hBbx1 := hx1.bd
 have hbdx2 := hx2.bound
 have hlex2 := hx2.len
 have hBbx2 := hx2.bd
 refine Ws (Wr (SR.box (v := .agg (List.toArray _)) (l := (cLb Ax1 nx1 cx1 Ax2 nx2 cx2 x)) rfl rfl ?_))
 intro g1 w2 hg3 hk4 hs5 hb6
 refine Q (aI rfl) <| Q (aB rfl) <| Qn (Ws (Ws (Wr (Q (lG agg34 rfl hb6 rfl) <| Qv ent72 (c_impl_IsLibrary w2 x (hx1.lo hk4) (hx2.lo hk4) (by omega)) rfl fun w9 hk10 hz11 => ?_))))
 have hB12 := ((Lo.refl w).lo hk4).lo hk10
 refine Q (r_not rfl) <| Qn (W.cond_n rfl (fun h13 => ?_) (fun h13 => ?_))
 ·refine Ws (Wr (Q (aI rfl) <| Q (aB rfl) <| Qn (W.ret (ret2 rfl (v := .int .i64 _) (v' := .bool _) rfl rfl (⟨eR (eT2 (eI (by first | assumption | simp [*])) (eDF h13)), hB12⟩)))))
 ·have hq16 := And.left h13
  have hq17 := lib_len h13
  have hq18 := And.left hq16
  have hq19 := And.right hq16
  refine W.skip (Ws (Wr (Q (aI rfl) <| Qn (Ws (Ws (Wr (Q (fA fa34_0 rfl) <| Q (lB sca31 rfl (hb6.lo hk10) rfl) <| Q (r_len und31 rfl) <| Q (r_mv (v := .int .i64 0) rfl) <| Qn (W.block (W.loop (σ := Nat × Int) (fun g => [(2, .int .i64 0), (3, .bool false), (4, .int .i64 g.2), (11, .slice Ax1 nx1 cx1), (12, .int .i64 (nx1 : Int)), (13, .int .i64 (g.1 : Int))]) (fun g w' => (Lo w w') ∧ (SlR w' Bx1 encLMap 3 Ax1 nx1 cx1 x.Maps) ∧ (g.1 ≤ nx1 ∧ sumT (x.Maps.take g.1) = g.2 ∧ 0 ≤ g.2 ∧ g.2 ≤ 99 * (g.1 : Int))) (fun g => nx1 - g.1) (0, (0 : Int)) ?_ ?_ ?_)))))))))
  ·exact (At.r rfl)
  ·exact ⟨hB12, ((hx1.lo hk4).lo hk10), (by (try dsimp only); simp [sumT])⟩
  ·rintro ⟨k, t⟩ f22 w23 hP25
   obtain ⟨hB24, hm26, hi27⟩ : (Lo w w23) ∧ (SlR w23 Bx1 encLMap 3 Ax1 nx1 cx1 x.Maps) ∧ (k ≤ nx1 ∧ sumT (x.Maps.take k) = t ∧ 0 ≤ t ∧ t ≤ 99 * (k : Int)) := hP25
   refine (?_ : W _ _ _ _ _ (act _ (sets f22 [(2, .int .i64 0), (3, .bool false), (4, .int .i64 t), (11, .slice Ax1 nx1 cx1), (12, .int .i64 (nx1 : Int)), (13, .int .i64 (k : Int))])) _)
   have hzw23 := hB24.size
   refine Ws (Wr (Q (r_lt rfl rfl) <| Qn (Ws (W.cond_d rfl (fun h28 => ?_) (fun h28 => ?_)))))
   ·refine W.skip (Ws (W.block (Ws ?_)))
    have hx30 := hm26.elem (i := k) (by omega)
    have hq31 := maps_rng ‹MapsOK x.Maps› hx30
    refine Wr (Q (r_ixR tsl31 hm26 rfl rfl (by omega)) <| Q (r_lda (l := encLMap (gt x.Maps k)) agg102 rfl (fun _ _ hu => hm26.cell hx30 hu) (hm26.esz _)) <| SR.alloc (l := [.int .i64 0, .int .i64 0, .int .i64 0]) tz102 rfl ?_)
    intro g32 w33 hg34 hk35 hs36 hb37
    refine Qw (o := 0) (vs := [.int .i64 ((gt x.Maps k).Id), .int .i64 ((gt x.Maps k).Copies), .int .i64 ((gt x.Maps k).Torn)]) agg102.2 rfl rfl rfl rfl hb37 ler rfl ?_
    intro w40 hk41 hs42 hb43
    refine Qn (Wr (Q (mI rfl) <| Q (fA fa102_2 rfl) <| Q (lB sca3 rfl hb43 rfl) <| Q (r_add rfl rfl (by omega)) <| Q (aI rfl) <| Qn (Wr (Q (r_add rfl rfl (by omega)) <| Q (mI rfl) <| Qn (⟨(k + 1, t + ((gt x.Maps k).Torn)), _, rfl, (At.r rfl), ⟨((hB24.lo hk35).new hk41), ((hm26.lo hk35).kn hk41), ?_⟩, ?_⟩)))))
    ·exact (by (try dsimp only); have hh := ‹_ ∧ sumT _ = _ ∧ _›; have hq := maps_rng ‹MapsOK _› ‹x.Maps[k]? = some _›; exact ⟨by omega, by rw [sumT_snoc (by omega), hh.2.1], by omega, by omega⟩)
    ·exact (by (try dsimp only); omega)
   ·refine W.exit (xin_here (Ws (Wr (Q (mI rfl) <| Q (aI rfl) <| Q (aB rfl) <| Qn (W.ret (ret2 rfl (v := .int .i64 _) (v' := .bool _) rfl rfl (⟨eR (eT2 (eI (by rw [if_pos ‹_›]; have hh := ‹_ ∧ sumT _ = _ ∧ _›; rw [← hh.2.1, List.take_of_length_le (by omega)])) (eDT h13)), hB24⟩)))))))
theorem c_spec_TornCopies (w : World) (x : Library) {Ax1 : Option Addr} {nx1 cx1 Bx1 : Nat} (hx1 : SlR w Bx1 encLMap 3 Ax1 nx1 cx1 x.Maps) {Ax2 : Option Addr} {nx2 cx2 Bx2 : Nat} (hx2 : SlR w Bx2 encAway 2 Ax2 nx2 cx2 x.Away) : Calls Tryz.prog 137 #[.agg (List.toArray (cLb Ax1 nx1 cx1 Ax2 nx2 cx2 x))] w fun e w' => e = .returned (.tuple (List.toArray [.int .i64 (if LibOK x then sumT x.Maps else 0), .bool (decide (LibOK x))])) ∧ Lo w w' := by
 refine calls_W 9 Tryz.func137 rfl rfl rfl ?_
 have hbdx1 := hx1.bound
 have hlex1 := hx1.len
 have hBbx1 := hx1.bd
 have hbdx2 := hx2.bound
 have hlex2 := hx2.len
 have hBbx2 := hx2.bd
 refine Ws (Wr (SR.box (v := .agg (List.toArray _)) (l := (cLb Ax1 nx1 cx1 Ax2 nx2 cx2 x)) rfl rfl ?_))
 intro g1 w2 hg3 hk4 hs5 hb6
 refine Q (aI rfl) <| Q (aB rfl) <| Qn (Ws (Ws (Wr (Q (lG agg34 rfl hb6 rfl) <| Qv ent80 (c_spec_l32Good w2 x (hx1.lo hk4) (hx2.lo hk4)) rfl fun w9 hk10 hz11 => ?_))))
 have hB12 := ((Lo.refl w).lo hk4).lo hk10
 refine Q (r_not rfl) <| Qn (W.cond_n rfl (fun h13 => ?_) (fun h13 => ?_))
 ·refine Ws (Wr (Q (aI rfl) <| Q (aB rfl) <| Qn (W.ret (ret2 rfl (v := .int .i64 _) (v' := .bool _) rfl rfl (⟨eR (eT2 (eI (by first | assumption | simp [*])) (eDF h13)), hB12⟩)))))
 ·have hq16 := And.left h13
  have hq17 := lib_len h13
  have hq18 := And.left hq16
  have hq19 := And.right hq16
  refine W.skip (Ws (Wr (Q (lG agg34 rfl (hb6.lo hk10) rfl) <| Qv ent132 (c_spec_l32There w9 x ((hx1.lo hk4).lo hk10) ((hx2.lo hk4).lo hk10) true (by first | assumption | exact MTo.end_ (And.right ‹_ ∧ MTo _ _›) (by omega)) (by omega)) rfl fun w22 hk23 hz24 => ?_)))
  have hq26 : 0 ≤ (if true = true then sumT x.Maps else sumC x.Maps) ∧ (if true = true then sumT x.Maps else sumC x.Maps) ≤ 792 := there_rng true ‹MapsOK _› (by omega)
  refine Q (aI rfl) <| Q (aB rfl) <| Qn (W.ret (ret2 rfl (v := .int .i64 _) (v' := .bool _) rfl rfl (⟨eR (eT2 (eI (by first | assumption | simp [*])) (eDT h13)), (hB12.lo hk23)⟩)))
theorem c_impl_ReadersOf (w : World) (x : Library) {Ax1 : Option Addr} {nx1 cx1 Bx1 : Nat} (hx1 : SlR w Bx1 encLMap 3 Ax1 nx1 cx1 x.Maps) {Ax2 : Option Addr} {nx2 cx2 Bx2 : Nat} (hx2 : SlR w Bx2 encAway 2 Ax2 nx2 cx2 x.Away) (id : Int) (hp0 : (nx1 : Int) ≤ 1048576) : Calls Tryz.prog 155 #[.agg (List.toArray (cLb Ax1 nx1 cx1 Ax2 nx2 cx2 x)), .int .i64 id] w fun e w' => ∃ (A1' : Option Addr) (n1' c1' : Nat), e = .returned (.tuple (List.toArray [.slice A1' n1' c1', .bool (decide (LibOK x ∧ 0 ≤ idxF (hasId id) x.Maps))])) ∧ SlO w' w.heap.size encI 1 3 A1' n1' c1' (if LibOK x ∧ 0 ≤ idxF (hasId id) x.Maps then selL (ofM id) Away.Reader x.Away else []) ∧ Lo w w' := by
 refine calls_W 24 Tryz.func155 rfl rfl rfl ?_
 have hbdx1 := hx1.bound
 have hlex1 := hx1.len
 have hBbx1 := hx1.bd
 have hbdx2 := hx2.bound
 have hlex2 := hx2.len
 have hBbx2 := hx2.bd
 refine Ws (Wr (SR.box (v := .agg (List.toArray _)) (l := (cLb Ax1 nx1 cx1 Ax2 nx2 cx2 x)) rfl rfl ?_))
 intro g1 w2 hg3 hk4 hs5 hb6
 refine Q (r_as (v := .slice none 0 0) rfl) <| Q (aB rfl) <| Qn (Ws (Ws (Wr (Q (lG agg34 rfl hb6 rfl) <| Q (mI rfl) <| Qv ent121 (c__impl_Library__mapAt w2 x (hx1.lo hk4) (hx2.lo hk4) id (by omega)) rfl fun w9 hk10 hz11 => ?_))))
 have hq13 : bsP cmpM id x.Maps ≤ x.Maps.length := bsP_le
 refine Q (mT rfl) <| Q (xI rfl rfl) <| Q (xB rfl rfl) <| Q (aI rfl) <| Q (aB rfl) <| Qn (Ws ?_)
 have hm14 := (hx1.lo hk4).lo hk10
 have hm15 := (hx2.lo hk4).lo hk10
 refine W.regJS (fun f' w' => At f' [(1, .int .i64 id), (2, .pointer (pA g1)), (4, .slice none 0 0), (5, .bool false), (20, .bool (decide ((¬ (bsF cmpM id x.Maps)) ∨ (¬ (LibOK x)))))] ∧ Lo w9 w') ?_ ?_
 ·refine Q (mB rfl) <| Q (r_not rfl) <| Q (mB rfl) <| SR.splitN (fun h16 => ?_) (fun h16 => ?_)
  ·refine Qs rfl <| Qs rfl <| Qs rfl <| Q (r_pick true rfl (v := .bool true) rfl) <| Qn (⟨_, rfl, ⟨⟨rfl, rfl, rfl, rfl, (eDT ((jmf h16).1 trivial)), trivial⟩, (Lo.refl _)⟩⟩)
  ·have hq17 := And.left h16
   have hq18 := And.left h16
   refine Qg rfl (lG agg34 rfl (hb6.lo hk10) rfl) <| SR.gcall rfl ent72 (c_impl_IsLibrary w9 x hm14 hm15 (by omega)) rfl ?_
   rintro e w19 ⟨rfl, hk20⟩
   refine ⟨_, rfl, ?_⟩
   have hz21 := hk20.size
   refine Qg rfl (r_not rfl) <| Q (r_pick false rfl (v := .bool _) rfl) <| Qn (⟨_, rfl, ⟨⟨rfl, rfl, rfl, rfl, (eND (jmt h16)), trivial⟩, hk20⟩⟩)
 rintro f23 w24 ⟨hat25, hk26⟩
 rw [← sets_of_at hat25]
 have hz27 := hk26.size
 have hB28 := (((Lo.refl w).lo hk4).lo hk10).lo hk26
 refine W.cond_d rfl (fun h29 => ?_) (fun h29 => ?_)
 ·refine Ws (Wr (Q (r_as (v := .slice none 0 0) rfl) <| Q (aB rfl) <| Qn (W.ret (ret2 rfl (v := .slice none 0 0) (v' := .bool _) rfl rfl (⟨none, 0, 0, eR (eT2 rfl (eDF (by first | exact ro_yes ‹_› ‹_› | exact ro_no ‹_›))), (SlO.eqv (SlO.nil (e := 3) (enc := encI) (fun _ => rfl) (by omega)) (by first | (rw [if_pos (ro_yes ‹_› ‹_›)]) | (rw [if_neg (ro_no ‹_›)]))), hB28⟩)))))
 ·have hq31 : bsF cmpM id x.Maps := (Classical.not_not.1 (not_or.1 h29).1)
  have hq32 : LibOK x := (Classical.not_not.1 (not_or.1 h29).2)
  have hq33 := And.left hq31
  have hq34 := And.left hq31
  have hq35 := And.left hq32
  have hq36 := lib_len hq32
  have hq37 := And.left hq35
  have hq38 := And.right hq35
  refine W.skip (Ws (Wr (Q (lG agg34 rfl ((hb6.lo hk10).lo hk26) rfl) <| Q (mI rfl) <| SR.call ent126 (c__impl_Library__readersOf w24 x (hm14.lo hk26) (hm15.lo hk26) id (by omega)) rfl ?_)))
  rintro e w40 ⟨A42, n43, c44, rfl, hO45, hk41⟩
  refine ⟨_, rfl, ?_⟩
  have hz46 := hk41.size
  have hl48 := hO45.len
  have hl49 := hO45.rd.bound
  have hq50 := sel_len x.Away (ofM id) Away.Reader
  refine Q (aL rfl) <| Q (aB rfl) <| Qn (W.ret (ret2 rfl (v := .slice _ _ _) (v' := .bool _) rfl rfl (⟨A42, n43, c44, eR (eT2 rfl (eDT (by first | exact ro_yes ‹_› ‹_› | exact ro_no ‹_›))), (SlO.eqv (hO45.down) (by first | (rw [if_pos (ro_yes ‹_› ‹_›)]) | (rw [if_neg (ro_no ‹_›)]))), (hB28.lo hk41)⟩)))
theorem c_spec_ReadersOf (w : World) (x : Library) {Ax1 : Option Addr} {nx1 cx1 Bx1 : Nat} (hx1 : SlR w Bx1 encLMap 3 Ax1 nx1 cx1 x.Maps) {Ax2 : Option Addr} {nx2 cx2 Bx2 : Nat} (hx2 : SlR w Bx2 encAway 2 Ax2 nx2 cx2 x.Away) (id : Int) : Calls Tryz.prog 141 #[.agg (List.toArray (cLb Ax1 nx1 cx1 Ax2 nx2 cx2 x)), .int .i64 id] w fun e w' => ∃ (A1' : Option Addr) (n1' c1' : Nat), e = .returned (.tuple (List.toArray [.slice A1' n1' c1', .bool (decide (LibOK x ∧ 0 ≤ idxF (hasId id) x.Maps))])) ∧ SlO w' w.heap.size encI 1 3 A1' n1' c1' (if LibOK x ∧ 0 ≤ idxF (hasId id) x.Maps then selL (ofM id) Away.Reader x.Away else []) ∧ Lo w w' := by
 refine calls_W 19 Tryz.func141 rfl rfl rfl ?_
 have hbdx1 := hx1.bound
 have hlex1 := hx1.len
 have hBbx1 := hx1.bd
 have hbdx2 := hx2.bound
 have hlex2 := hx2.len
 have hBbx2 := hx2.bd
 refine Ws (Wr (SR.box (v := .agg (List.toArray _)) (l := (cLb Ax1 nx1 cx1 Ax2 nx2 cx2 x)) rfl rfl ?_))
 intro g1 w2 hg3 hk4 hs5 hb6
 refine Q (r_as (v := .slice none 0 0) rfl) <| Q (aB rfl) <| Qn (Ws (Ws (W.regJS (fun f' w' => At f' [(1, .int .i64 id), (2, .pointer (pA g1)), (4, .slice none 0 0), (5, .bool false), (14, .bool (decide ((¬ (LibOK x)) ∨ ((idxF (hasId id) x.Maps) < 0))))] ∧ Lo w2 w') ?_ ?_)))
 ·refine Q (lG agg34 rfl hb6 rfl) <| Qv ent80 (c_spec_l32Good w2 x (hx1.lo hk4) (hx2.lo hk4)) rfl fun w9 hk10 hz11 => (Q (r_not rfl) <| Q (mB rfl) <| SR.splitN (fun h13 => ?_) (fun h13 => ?_))
  ·refine Qs rfl <| Qs rfl <| Qs rfl <| Qs rfl <| Q (r_pick true rfl (v := .bool true) rfl) <| Qn (⟨_, rfl, ⟨⟨rfl, rfl, rfl, rfl, (eDT ((jmf h13).1 trivial)), trivial⟩, hk10⟩⟩)
  ·have hq14 := And.left h13
   have hq15 := lib_len h13
   have hq16 := And.left hq14
   have hq17 := And.right hq14
   refine Qg rfl (lG agg34 rfl (hb6.lo hk10) rfl) <| Qg rfl (mI rfl) <| SR.gcall rfl ent165 (c_spec_l32Map w9 x ((hx1.lo hk4).lo hk10) ((hx2.lo hk4).lo hk10) id) rfl ?_
   rintro e w18 ⟨rfl, hk19⟩
   refine ⟨_, rfl, ?_⟩
   have hz20 := hk19.size
   have hq22 : idxF (hasId id) x.Maps < (x.Maps.length : Int) ∧ -1 ≤ idxF (hasId id) x.Maps := idx_lt
   refine Qg rfl (r_lt rfl rfl) <| Q (r_pick false rfl (v := .bool _) rfl) <| Qn (⟨_, rfl, ⟨⟨rfl, rfl, rfl, rfl, (eDD (jmt h13)), trivial⟩, (hk10.trans hk19)⟩⟩)
 rintro f23 w24 ⟨hat25, hk26⟩
 rw [← sets_of_at hat25]
 have hz27 := hk26.size
 have hB28 := ((Lo.refl w).lo hk4).lo hk26
 refine W.cond_d rfl (fun h29 => ?_) (fun h29 => ?_)
 ·refine Ws (Wr (SR.lit (vs := []) (L := ([] : List Int)) (enc := encI) tel93 (fun _ => rfl) rfl rfl rfl (by decide) ?_))
  intro g32 w33 hg34 hk35 hO36
  have hz37 := hk35.size
  refine Q (aL rfl) <| Q (aB rfl) <| Qn (W.ret (ret2 rfl (v := .slice _ _ _) (v' := .bool _) rfl rfl (⟨(pA g32), 0, 0, eR (eT2 rfl (eDF (by first | exact ⟨‹LibOK x›, by omega⟩ | exact ro_noS ‹_›))), (SlO.eqv (hO36.down) (by first | (rw [if_pos ⟨‹LibOK x›, by omega⟩]) | (rw [if_neg (ro_noS ‹_›)]))), (hB28.lo hk35)⟩)))
 ·have hq39 : LibOK x := (Classical.not_not.1 (not_or.1 h29).1)
  have hq40 : ¬ ((idxF (hasId id) x.Maps) < 0) := (not_or.1 h29).2
  have hq41 := And.left hq39
  have hq42 := lib_len hq39
  have hq43 := Int.not_lt.1 hq40
  have hq44 := And.left hq41
  have hq45 := And.right hq41
  refine W.skip (Ws (Wr (Q (lG agg34 rfl (hb6.lo hk26) rfl) <| Q (mI rfl) <| SR.call ent128 (c_spec_l32At w24 x ((hx1.lo hk4).lo hk26) ((hx2.lo hk4).lo hk26) id (by omega)) rfl ?_)))
  rintro e w48 ⟨A50, n51, c52, rfl, hO53, hk49⟩
  refine ⟨_, rfl, ?_⟩
  have hz54 := hk49.size
  have hl56 := hO53.len
  have hl57 := hO53.rd.bound
  have hq58 := sel_len x.Away (ofM id) Away.Reader
  refine Q (aL rfl) <| Q (aB rfl) <| Qn (W.ret (ret2 rfl (v := .slice _ _ _) (v' := .bool _) rfl rfl (⟨A50, n51, c52, eR (eT2 rfl (eDT (by first | exact ⟨‹LibOK x›, by omega⟩ | exact ro_noS ‹_›))), (SlO.eqv (hO53.down) (by first | (rw [if_pos ⟨‹LibOK x›, by omega⟩]) | (rw [if_neg (ro_noS ‹_›)]))), (hB28.lo hk49)⟩)))
end Go.Proofs.YtndcchndcghmoaaGreatDoor
namespace Go.Proofs.YtndcchndcghmoaaGreatDoor
open Go Go.RowKit Fw
set_option maxRecDepth 10000
set_option maxHeartbeats 2000000
set_option linter.unusedVariables false
theorem bld102_0 (a0 : Int) : Tryz.prog.built 102 [(0, .int .i64 a0)] = some (List.toArray [.int .i64 a0, .int .i64 0, .int .i64 0]) := by kernel_rfl
theorem bld129_0_1 (a0 : Int) (a1 : Int) : Tryz.prog.built 129 [(0, .int .i64 a0), (1, .int .i64 a1)] = some (List.toArray [.int .i64 a0, .int .i64 a1]) := by kernel_rfl
theorem bld34_ : Tryz.prog.built 34 [] = some (List.toArray [.slice none 0 0, .slice none 0 0, .int .i64 0, .int .i64 0, .int .i64 0]) := by kernel_rfl
theorem bld34_0_1_2_3_4 (a0 : Option Addr) (b0 c0 : Nat) (a1 : Option Addr) (b1 c1 : Nat) (a2 : Int) (a3 : Int) (a4 : Int) : Tryz.prog.built 34 [(0, .slice a0 b0 c0), (1, .slice a1 b1 c1), (2, .int .i64 a2), (3, .int .i64 a3), (4, .int .i64 a4)] = some (List.toArray [.slice a0 b0 c0, .slice a1 b1 c1, .int .i64 a2, .int .i64 a3, .int .i64 a4]) := by kernel_rfl
theorem ent182 : Ent Tryz.prog 182 := en Tryz.func182
theorem ent209 : Ent Tryz.prog 209 := en Tryz.func209
theorem ent210 : Ent Tryz.prog 210 := en Tryz.func210
theorem ent211 : Ent Tryz.prog 211 := en Tryz.func211
theorem ent227 : Ent Tryz.prog 227 := en Tryz.func227
theorem ent91 : Ent Tryz.prog 91 := en Tryz.func91
theorem ent92 : Ent Tryz.prog 92 := en Tryz.func92
theorem fa106_0 : FA Tryz.prog 106 0 0 := fun _ _ => by kernel_rfl
theorem fa106_1 : FA Tryz.prog 106 1 1 := fun _ _ => by kernel_rfl
theorem fa106_2 : FA Tryz.prog 106 2 2 := fun _ _ => by kernel_rfl
theorem fa106_3 : FA Tryz.prog 106 3 3 := fun _ _ => by kernel_rfl
theorem ovl207 : Ovl Tryz.prog 207 31 4 := fun args w => run_callFunc_extern Tryz.func207 (by kernel_rfl) (by kernel_rfl) (by kernel_rfl) (by kernel_rfl) args w
theorem ovl228 : Ovl Tryz.prog 228 32 4 := fun args w => run_callFunc_extern Tryz.func228 (by kernel_rfl) (by kernel_rfl) (by kernel_rfl) (by kernel_rfl) args w
theorem tel31 : TEl Tryz.prog 31 102 (.agg (List.toArray [.int .i64 0, .int .i64 0, .int .i64 0])) 3 24 := ⟨by kernel_rfl, by kernel_rfl, rfl, by decide⟩
theorem tel32 : TEl Tryz.prog 32 129 (.agg (List.toArray [.int .i64 0, .int .i64 0])) 2 16 := ⟨by kernel_rfl, by kernel_rfl, rfl, by decide⟩
theorem tz34 : TZ Tryz.prog 34 (.agg (List.toArray [.slice none 0 0, .slice none 0 0, .int .i64 0, .int .i64 0, .int .i64 0])) := fun _ => by kernel_rfl
open Classical in
noncomputable def impl_isLibraryStep (s : LibraryStep) : Bool :=
 if s.Kind = 1 then decide ((1 ≤ s.Id ∧ s.Id ≤ 99) ∧ ((s.Reader = 0) ∧ (1 ≤ s.Value ∧ s.Value ≤ 50))) else if s.Kind = 2 then decide ((1 ≤ s.Reader ∧ s.Reader ≤ 999) ∧ (s.Value = 0)) else if s.Kind = 3 then decide ((1 ≤ s.Reader ∧ s.Reader ≤ 999) ∧ (0 ≤ s.Value ∧ s.Value ≤ 1)) else if s.Kind = 5 then decide ((1 ≤ s.Reader ∧ s.Reader ≤ 999) ∧ (1 ≤ s.Value ∧ s.Value ≤ 999)) else if s.Kind = 4 then decide ((s.Reader = 0) ∧ (1 ≤ s.Value)) else if s.Kind = 6 then decide ((s.Reader = 0) ∧ (1 ≤ s.Value)) else if s.Kind = 7 then decide ((s.Reader = 0) ∧ (1 ≤ s.Value)) else false
theorem c_impl_isLibraryStep (w : World) (s : LibraryStep) : Calls Tryz.prog 150 #[.agg (List.toArray (encLibraryStep s))] w fun e w' => e = .returned (.bool (impl_isLibraryStep s)) ∧ Lo w w' := by
 refine calls_W 62 Tryz.func150 rfl rfl rfl (Ws (Wr (SR.box (v := .agg (List.toArray _)) (l := [.int .i64 s.Kind, .int .i64 s.Id, .int .i64 s.Reader, .int .i64 s.Value]) rfl rfl ?_)))
 intro g1 w2 hg3 hk4 hs5 hb6
 have hB8 := (Lo.refl w).lo hk4
 refine Q (aB rfl) <| Qn (Ws (Ws (Wr (Q (fA fa106_0 rfl) <| Q (lB sca3 rfl hb6 rfl) <| Qn (W.block (Ws (Wr (Q (r_eq rfl rfl) <| Q (aB rfl) <| Qn (W.cond_d rfl (fun h9 => ?_) (fun h9 => ?_))))))))))
 ·refine Ws (W.regJS (fun f' w' => At f' [(2, .bool (decide ((1 ≤ s.Id ∧ s.Id ≤ 99) ∧ ((s.Reader = 0) ∧ (1 ≤ s.Value ∧ s.Value ≤ 50)))))] ∧ Lo w2 w') ?_ ?_)
  ·refine Q (fA fa106_1 rfl) <| Q (lB sca3 rfl hb6 rfl) <| Qv ent120 (c_impl_isMapId w2 s.Id) rfl fun w10 hk11 hz12 => (Q (mB rfl) <| SR.splitD (fun h14 => ?_) (fun h14 => ?_))
   ·refine Qg rfl (fA fa106_2 rfl) <| Qg rfl (lB sca3 rfl (hb6.lo hk11) rfl) <| Qg rfl (r_eq rfl rfl) <| Q (r_pick true rfl (v := .bool _) rfl) <| Q (mB rfl) <| SR.splitD (fun h15 => ?_) (fun h15 => ?_)
    ·refine Qg rfl (fA fa106_3 rfl) <| Qg rfl (lB sca3 rfl (hb6.lo hk11) rfl) <| SR.gcall rfl ent66 (c_impl_within w10 s.Value 1 50) rfl ?_
     rintro e w16 ⟨rfl, hk17⟩
     refine ⟨_, rfl, ?_⟩
     have hz18 := hk17.size
     refine Q (r_pick true rfl (v := .bool _) rfl) <| Q (aB rfl) <| Qn (⟨_, rfl, ⟨⟨(eDD ((jat h15).trans (jat h14))), trivial⟩, (hk11.trans hk17)⟩⟩)
    ·refine Qs rfl <| Qs rfl <| Qs rfl <| Q (r_pick false rfl (v := .bool false) rfl) <| Q (aB rfl) <| Qn (⟨_, rfl, ⟨⟨(eDF ((jaf h15).trans (jat h14)).2), trivial⟩, hk11⟩⟩)
   ·refine Qs rfl <| Qs rfl <| Qs rfl <| Q (r_pick false rfl (v := .bool false) rfl) <| Q (mB rfl) <| Qs rfl <| Qs rfl <| Qs rfl <| Q (r_pick false rfl (v := .bool false) rfl) <| Q (aB rfl) <| Qn (⟨_, rfl, ⟨⟨(eDF (jaf h14).2), trivial⟩, hk11⟩⟩)
  rintro f20 w21 ⟨hat22, hk23⟩
  rw [← sets_of_at hat22]
  have hz24 := hk23.size
  refine W.ret (ret1 rfl (v := .bool _) rfl ?_)
  exact ⟨eR (eB (by unfold impl_isLibraryStep; rw [if_pos h9] <;> rfl)), (hB8.lo hk23)⟩
 ·refine Ws (Wr (Q (r_eq rfl rfl) <| Q (aB rfl) <| Qn (W.cond_d rfl (fun h26 => ?_) (fun h26 => ?_))))
  ·refine Ws (W.regJS (fun f' w' => At f' [(2, .bool (decide ((1 ≤ s.Reader ∧ s.Reader ≤ 999) ∧ (s.Value = 0))))] ∧ Lo w2 w') ?_ ?_)
   ·refine Q (fA fa106_2 rfl) <| Q (lB sca3 rfl hb6 rfl) <| Qv ent122 (c_impl_isId w2 s.Reader) rfl fun w27 hk28 hz29 => (Q (mB rfl) <| SR.splitD (fun h31 => ?_) (fun h31 => ?_))
    ·refine Qg rfl (fA fa106_3 rfl) <| Qg rfl (lB sca3 rfl (hb6.lo hk28) rfl) <| Qg rfl (r_eq rfl rfl) <| Q (r_pick true rfl (v := .bool _) rfl) <| Q (aB rfl) <| Qn (⟨_, rfl, ⟨⟨(eDD (jat h31)), trivial⟩, hk28⟩⟩)
    ·refine Qs rfl <| Qs rfl <| Qs rfl <| Q (r_pick false rfl (v := .bool false) rfl) <| Q (aB rfl) <| Qn (⟨_, rfl, ⟨⟨(eDF (jaf h31).2), trivial⟩, hk28⟩⟩)
   rintro f32 w33 ⟨hat34, hk35⟩
   rw [← sets_of_at hat34]
   have hz36 := hk35.size
   refine W.ret (ret1 rfl (v := .bool _) rfl ?_)
   exact ⟨eR (eB (by unfold impl_isLibraryStep; rw [if_neg h9, if_pos h26] <;> rfl)), (hB8.lo hk35)⟩
  ·refine Ws (Wr (Q (r_eq rfl rfl) <| Q (aB rfl) <| Qn (W.cond_d rfl (fun h38 => ?_) (fun h38 => ?_))))
   ·refine Ws (W.regJS (fun f' w' => At f' [(2, .bool (decide ((1 ≤ s.Reader ∧ s.Reader ≤ 999) ∧ (0 ≤ s.Value ∧ s.Value ≤ 1))))] ∧ Lo w2 w') ?_ ?_)
    ·refine Q (fA fa106_2 rfl) <| Q (lB sca3 rfl hb6 rfl) <| Qv ent122 (c_impl_isId w2 s.Reader) rfl fun w39 hk40 hz41 => (Q (mB rfl) <| SR.splitD (fun h43 => ?_) (fun h43 => ?_))
     ·refine Qg rfl (fA fa106_3 rfl) <| Qg rfl (lB sca3 rfl (hb6.lo hk40) rfl) <| SR.gcall rfl ent66 (c_impl_within w39 s.Value 0 1) rfl ?_
      rintro e w44 ⟨rfl, hk45⟩
      refine ⟨_, rfl, ?_⟩
      have hz46 := hk45.size
      refine Q (r_pick true rfl (v := .bool _) rfl) <| Q (aB rfl) <| Qn (⟨_, rfl, ⟨⟨(eDD (jat h43)), trivial⟩, (hk40.trans hk45)⟩⟩)
     ·refine Qs rfl <| Qs rfl <| Qs rfl <| Q (r_pick false rfl (v := .bool false) rfl) <| Q (aB rfl) <| Qn (⟨_, rfl, ⟨⟨(eDF (jaf h43).2), trivial⟩, hk40⟩⟩)
    rintro f48 w49 ⟨hat50, hk51⟩
    rw [← sets_of_at hat50]
    have hz52 := hk51.size
    refine W.ret (ret1 rfl (v := .bool _) rfl ?_)
    exact ⟨eR (eB (by unfold impl_isLibraryStep; rw [if_neg h9, if_neg h26, if_pos h38] <;> rfl)), (hB8.lo hk51)⟩
   ·refine Ws (Wr (Q (r_eq rfl rfl) <| Q (aB rfl) <| Qn (W.cond_d rfl (fun h54 => ?_) (fun h54 => ?_))))
    ·refine Ws (W.regJS (fun f' w' => At f' [(2, .bool (decide ((1 ≤ s.Reader ∧ s.Reader ≤ 999) ∧ (1 ≤ s.Value ∧ s.Value ≤ 999))))] ∧ Lo w2 w') ?_ ?_)
     ·refine Q (fA fa106_2 rfl) <| Q (lB sca3 rfl hb6 rfl) <| Qv ent122 (c_impl_isId w2 s.Reader) rfl fun w55 hk56 hz57 => (Q (mB rfl) <| SR.splitD (fun h59 => ?_) (fun h59 => ?_))
      ·refine Qg rfl (fA fa106_3 rfl) <| Qg rfl (lB sca3 rfl (hb6.lo hk56) rfl) <| SR.gcall rfl ent122 (c_impl_isId w55 s.Value) rfl ?_
       rintro e w60 ⟨rfl, hk61⟩
       refine ⟨_, rfl, ?_⟩
       have hz62 := hk61.size
       refine Q (r_pick true rfl (v := .bool _) rfl) <| Q (aB rfl) <| Qn (⟨_, rfl, ⟨⟨(eDD (jat h59)), trivial⟩, (hk56.trans hk61)⟩⟩)
      ·refine Qs rfl <| Qs rfl <| Qs rfl <| Q (r_pick false rfl (v := .bool false) rfl) <| Q (aB rfl) <| Qn (⟨_, rfl, ⟨⟨(eDF (jaf h59).2), trivial⟩, hk56⟩⟩)
     rintro f64 w65 ⟨hat66, hk67⟩
     rw [← sets_of_at hat66]
     have hz68 := hk67.size
     refine W.ret (ret1 rfl (v := .bool _) rfl ?_)
     exact ⟨eR (eB (by unfold impl_isLibraryStep; rw [if_neg h9, if_neg h26, if_neg h38, if_pos h54] <;> rfl)), (hB8.lo hk67)⟩
    ·refine Ws (Ws (Wr (Q (r_eq rfl rfl) <| Q (aB rfl) <| Qn (W.cond_d rfl (fun h70 => ?_) (fun h70 => ?_)))))
     ·refine W.skip (W.cond_t (congrArg Value.bool (decide_eq_true h70)) (Ws (W.regJS (fun f' w' => At f' [(2, .bool (decide ((s.Reader = 0) ∧ (1 ≤ s.Value))))] ∧ Lo w2 w') ?_ ?_)))
      ·refine Q (fA fa106_2 rfl) <| Q (lB sca3 rfl hb6 rfl) <| Q (r_eq rfl rfl) <| Q (mB rfl) <| SR.splitD (fun h71 => ?_) (fun h71 => ?_)
       ·refine Qg rfl (fA fa106_3 rfl) <| Qg rfl (lB sca3 rfl hb6 rfl) <| Qg rfl (r_ge rfl rfl) <| Q (r_pick true rfl (v := .bool _) rfl) <| Q (aB rfl) <| Qn (⟨_, rfl, ⟨⟨(eDD (jat h71)), trivial⟩, (Lo.refl _)⟩⟩)
       ·refine Qs rfl <| Qs rfl <| Qs rfl <| Q (r_pick false rfl (v := .bool false) rfl) <| Q (aB rfl) <| Qn (⟨_, rfl, ⟨⟨(eDF (jaf h71).2), trivial⟩, (Lo.refl _)⟩⟩)
      rintro f72 w73 ⟨hat74, hk75⟩
      rw [← sets_of_at hat74]
      have hz76 := hk75.size
      refine W.ret (ret1 rfl (v := .bool _) rfl ?_)
      exact ⟨eR (eB (by unfold impl_isLibraryStep; rw [if_neg h9, if_neg h26, if_neg h38, if_neg h54, if_pos h70] <;> rfl)), (hB8.lo hk75)⟩
     ·refine Ws (Wr (Q (r_eq rfl rfl) <| Q (aB rfl) <| Qn (W.cond_d rfl (fun h78 => ?_) (fun h78 => ?_))))
      ·refine W.skip (W.cond_t (congrArg Value.bool (decide_eq_true h78)) (Ws (W.regJS (fun f' w' => At f' [(2, .bool (decide ((s.Reader = 0) ∧ (1 ≤ s.Value))))] ∧ Lo w2 w') ?_ ?_)))
       ·refine Q (fA fa106_2 rfl) <| Q (lB sca3 rfl hb6 rfl) <| Q (r_eq rfl rfl) <| Q (mB rfl) <| SR.splitD (fun h79 => ?_) (fun h79 => ?_)
        ·refine Qg rfl (fA fa106_3 rfl) <| Qg rfl (lB sca3 rfl hb6 rfl) <| Qg rfl (r_ge rfl rfl) <| Q (r_pick true rfl (v := .bool _) rfl) <| Q (aB rfl) <| Qn (⟨_, rfl, ⟨⟨(eDD (jat h79)), trivial⟩, (Lo.refl _)⟩⟩)
        ·refine Qs rfl <| Qs rfl <| Qs rfl <| Q (r_pick false rfl (v := .bool false) rfl) <| Q (aB rfl) <| Qn (⟨_, rfl, ⟨⟨(eDF (jaf h79).2), trivial⟩, (Lo.refl _)⟩⟩)
       rintro f80 w81 ⟨hat82, hk83⟩
       rw [← sets_of_at hat82]
       have hz84 := hk83.size
       refine W.ret (ret1 rfl (v := .bool _) rfl ?_)
       exact ⟨eR (eB (by unfold impl_isLibraryStep; rw [if_neg h9, if_neg h26, if_neg h38, if_neg h54, if_neg h70, if_pos h78] <;> rfl)), (hB8.lo hk83)⟩
      ·refine Wr (Q (r_eq rfl rfl) <| Q (aB rfl) <| Qn (W.cond_d rfl (fun h86 => ?_) (fun h86 => ?_)))
       ·refine Ws (W.regJS (fun f' w' => At f' [(2, .bool (decide ((s.Reader = 0) ∧ (1 ≤ s.Value))))] ∧ Lo w2 w') ?_ ?_)
        ·refine Q (fA fa106_2 rfl) <| Q (lB sca3 rfl hb6 rfl) <| Q (r_eq rfl rfl) <| Q (mB rfl) <| SR.splitD (fun h87 => ?_) (fun h87 => ?_)
         ·refine Qg rfl (fA fa106_3 rfl) <| Qg rfl (lB sca3 rfl hb6 rfl) <| Qg rfl (r_ge rfl rfl) <| Q (r_pick true rfl (v := .bool _) rfl) <| Q (aB rfl) <| Qn (⟨_, rfl, ⟨⟨(eDD (jat h87)), trivial⟩, (Lo.refl _)⟩⟩)
         ·refine Qs rfl <| Qs rfl <| Qs rfl <| Q (r_pick false rfl (v := .bool false) rfl) <| Q (aB rfl) <| Qn (⟨_, rfl, ⟨⟨(eDF (jaf h87).2), trivial⟩, (Lo.refl _)⟩⟩)
        rintro f88 w89 ⟨hat90, hk91⟩
        rw [← sets_of_at hat90]
        have hz92 := hk91.size
        refine W.ret (ret1 rfl (v := .bool _) rfl ?_)
        exact ⟨eR (eB (by unfold impl_isLibraryStep; rw [if_neg h9, if_neg h26, if_neg h38, if_neg h54, if_neg h70, if_neg h78, if_pos h86] <;> rfl)), (hB8.lo hk91)⟩
       ·refine W.skip (Ws (Wr (Q (aB rfl) <| Qn (W.ret (ret1 rfl (v := .bool _) rfl ?_)))))
        exact ⟨eR (eB (by unfold impl_isLibraryStep; rw [if_neg h9, if_neg h26, if_neg h38, if_neg h54, if_neg h70, if_neg h78, if_neg h86] <;> rfl)), hB8⟩
theorem c_slices_Clone___impl_Map_impl_Map_ (w : World) {AL : Option Addr} {nL cL BL : Nat}  (L : List LMap) (hL : SlR w BL encLMap 3 AL nL cL L) (hp0 : (nL : Int) ≤ 1048576) : Calls Tryz.prog 91 #[.slice AL nL cL] w fun e w' => ∃ (A1' : Option Addr) (n1' c1' : Nat), e = .returned (.slice A1' n1' c1') ∧ SlO w' w.heap.size encLMap 3 102 A1' n1' c1' L ∧ Lo w w' := by
 refine calls_W 8 Tryz.func91 rfl rfl rfl ?_
 have hbdL := hL.bound
 have hleL := hL.len
 have hBbL := hL.bd
 refine Ws (Wr (Q (r_as (v := .slice none 0 0) rfl) <| Qn (Ws (Ws (Wr (Q (mL rfl) <| Q (r_eqlnil und31 rfl rfl) <| Qn (W.cond_b rfl (fun h1 => ?_) (fun h1 => ?_))))))))
 ·have hq2 := slR_nil hL h1
  refine Ws (Wr (Q (r_as (v := .slice none 0 0) rfl) <| Qn (W.ret (ret1 rfl (v := .slice none 0 0) rfl (⟨none, 0, 0, eR rfl, (SlO.eqv (SlO.nil (e := 102) (enc := encLMap) (fun _ => rfl) (Nat.le_refl _)) (by first | rfl | (exact (List.eq_nil_of_length_eq_zero (by omega)).symm))), (Lo.refl w)⟩)))))
 ·refine W.skip (Ws (Wr (SR.lit (vs := []) (L := ([] : List LMap)) (enc := encLMap) tel31 (fun _ => rfl) rfl rfl rfl (by decide) ?_)))
  intro g3 w4 hg5 hk6 hO7
  have hz8 := hk6.size
  refine Q (mL rfl) <| SR.app tel31 rfl rfl hO7 (hL.lo hk6) (fun _ => rfl) (by omega) (by omega) ?_
  intro A10 c11 w12 hk13 hO14 hN15
  have hz16 := hk13.size
  rw [List.nil_append] at hO14
  refine Q (aL rfl) <| Qn (W.ret (ret1 rfl (v := .slice _ _ _) rfl (⟨A10, 0 + nL, c11, eR rfl, (hO14.down), (((Lo.refl w).lo hk6).step hk13 (fun i_ hi_ e' => by have := hO7.base_le e'; first | omega | exact e' | exact .inl e' | exact .inr e'))⟩)))
theorem c_slices_Insert___impl_Map_impl_Map_ (w : World) {AL : Option Addr} {nL cL BL : Nat}  (L : List LMap) (hL : SlO w BL encLMap 3 102 AL nL cL L) (i : Int) {AV : Option Addr} {nV cV BV : Nat}  (V : List LMap) (hV : SlO w BV encLMap 3 102 AV nV cV V) (hp0 : 0 ≤ i) (hp1 : i ≤ (nL : Int)) (hp2 : ((nL + nV : Nat) : Int) ≤ 1048576) (hp3 : Dj AV AL) : Calls Tryz.prog 182 #[.slice AL nL cL, .int .i64 i, .slice AV nV cV] w fun e w' => ∃ (A1' : Option Addr) (n1' c1' : Nat), e = .returned (.slice A1' n1' c1') ∧ SlO w' BL encLMap 3 102 A1' n1' c1' (L.take i.toNat ++ V ++ L.drop i.toNat) ∧ (∀ b_, A1' = some ⟨b_, 0, none⟩ → (AL = some ⟨b_, 0, none⟩) ∨ w.heap.size ≤ b_) ∧ Kp (KA AL) w w' := by
 refine calls_W 95 Tryz.func182 rfl rfl rfl ?_
 have hcpL := hL.rd.cap
 have hbbL := hL.rd.bd
 have hbdL := hL.rd.bound
 have hleL := hL.len
 have hBbL := hL.bd
 have hcpV := hV.rd.cap
 have hbbV := hV.rd.bd
 have hbdV := hV.rd.bound
 have hleV := hV.len
 have hBbV := hV.bd
 obtain ⟨i_, rfl⟩ := Int.eq_ofNat_of_zero_le hp0
 refine Ws (Wr (Q (r_as (v := .slice none 0 0) rfl) <| Qn (Ws (Wr (Q (mL rfl) <| Q (mI rfl) <| Q (r_cutl (l := i_) tsl31 rfl rfl rfl (by omega)) <| Qn (Ws (Wr (Q (mL rfl) <| Q (r_len und31 rfl) <| Q (aI rfl) <| Qn (Ws (Ws (Wr (Q (mI rfl) <| Q (r_eq rfl rfl) <| Qn (W.cond_d rfl (fun h1 => ?_) (fun h1 => ?_))))))))))))))
 ·refine Ws (Wr (Q (mL rfl) <| Q (aL rfl) <| Qn (W.ret (ret1 rfl (v := .slice _ _ _) rfl (⟨AL, nL, cL, eR rfl, (SlO.eqv hL (by first | (have hV0 : V = [] := List.eq_nil_of_length_eq_zero (by omega); subst hV0; simp; done) | (exact ins_end hleL (show nL ≤ i_ by omega)) | (exact ins_grow hleL hleV (by omega) (by omega)))), (fun b_ h_ => .inl h_), (Kp.refl w : Kp (KA AL) w w)⟩)))))
 ·refine W.skip (Ws (Wr (Q (mL rfl) <| Q (r_len und31 rfl) <| Q (aI rfl) <| Qn (Ws (Ws (Wr (Q (mI rfl) <| Q (mI rfl) <| Q (r_eq rfl rfl) <| Qn (W.cond_d rfl (fun h2 => ?_) (fun h2 => ?_)))))))))
  ·refine Ws (Wr (Q (mL rfl) <| Q (mL rfl) <| SR.app tel31 rfl rfl hL (hV.rd) (fun _ => rfl) (by omega) (by omega) ?_))
   intro A3 c4 w5 hk6 hO7 hN8
   have hz9 := hk6.size
   refine Q (aL rfl) <| Qn (W.ret (ret1 rfl (v := .slice _ _ _) rfl (⟨A3, nL + nV, c4, eR rfl, (SlO.eqv hO7 (by first | (have hV0 : V = [] := List.eq_nil_of_length_eq_zero (by omega); subst hV0; simp; done) | (exact ins_end hleL (show nL ≤ i_ by omega)) | (exact ins_grow hleL hleV (by omega) (by omega)))), (fun b_ h_ => (hN8 b_ h_).elim (fun h => (fun b_ h_ => .inl h_) b_ (h.trans h_)) (fun h => .inr (by omega))), ((Kp.refl w : Kp (KA AL) w w).step hk6 (fun i_ hi_ e' => by have := hL.base_le e'; first | omega | exact e' | exact .inl e' | exact .inr e'))⟩)))
  ·refine W.skip (Ws (Ws (Wr (Q (mI rfl) <| Q (mI rfl) <| Q (r_add rfl rfl (by omega)) <| Q (mL rfl) <| Q (r_cap und31 rfl) <| Q (r_gt rfl rfl) <| Qn (W.cond_d rfl (fun h11 => ?_) (fun h11 => ?_))))))
   ·refine Ws (Wr (Q (mL rfl) <| Q (mI rfl) <| Q (r_cuth (h := i_) tsl31 rfl rfl rfl (Nat.le_trans (by omega : i_ ≤ nL) hL.rd.cap)) <| Q (mI rfl) <| Q (mI rfl) <| Q (r_add rfl rfl (by omega)) <| Q (mI rfl) <| Q (r_sub rfl rfl (by omega)) <| SR.appZ (k := ((nL + nV) - i_)) (zx := (⟨0, 0, 0⟩ : LMap)) tel31 und3 rfl rfl (by first | rfl | (rw [show (((nL : Int) + (nV : Int)) - (i_ : Int) : Int) = ((((nL + nV) - i_) : Nat) : Int) from by omega]; rfl)) (hL.head (h := i_) (by omega)) (by omega) (by omega) (by omega) (by omega) ?_))
    intro g12 c13 w14 hg15 hk16 hO17
    have hz18 := hk16.size
    refine Q (aL rfl) <| Qn (Ws ?_)
    refine Wr (Q (mL rfl) <| Q (mI rfl) <| Q (r_cutl (l := i_) tsl31 rfl rfl rfl (by omega)) <| Q (mL rfl) <| SR.copyO (l := i_) (q := nV) tel31 rfl rfl hO17 ((hV.lo hk16).rd) (by simp only [Nat.min_def]; split <;> omega) (by omega) (fun _ => rfl) ?_)
    intro w22 hk23 hO24
    have hz25 := hk23.size
    refine Qn (Ws (W.regA (Kp (fun b_ => (pA g12) = some ⟨b_, 0, none⟩) w22) (fun f' w' => At f' [(0, .slice AL nL cL), (1, .int .i64 (i_ : Int)), (2, .slice AV nV cV), (6, .slice none 0 0), (7, .int .i64 (nV : Int)), (8, .int .i64 (nL : Int)), (9, .slice (pA g12) (i_ + ((nL + nV) - i_)) c13)] ∧ (Kp (fun b_ => (pA g12) = some ⟨b_, 0, none⟩) w22 w') ∧ (SlO w' w.heap.size encLMap 3 102 (pA g12) (i_ + ((nL + nV) - i_)) c13 ((((L.take i_) ++ List.replicate ((nL + nV) - i_) (⟨0, 0, 0⟩ : LMap)).take i_ ++ V.take nV ++ ((L.take i_) ++ List.replicate ((nL + nV) - i_) (⟨0, 0, 0⟩ : LMap)).drop (i_ + nV)).take (i_ + nV) ++ (L.drop i_).take (nL - i_) ++ (((L.take i_) ++ List.replicate ((nL + nV) - i_) (⟨0, 0, 0⟩ : LMap)).take i_ ++ V.take nV ++ ((L.take i_) ++ List.replicate ((nL + nV) - i_) (⟨0, 0, 0⟩ : LMap)).drop (i_ + nV)).drop ((i_ + nV) + (nL - i_))))) mo ?_ ?_))
    ·intro w49 hk50
     have hz51 := hk50.size
     refine Ak 0 rfl ((Kp.refl w22 : Kp (fun b_ => (pA g12) = some ⟨b_, 0, none⟩) w22 w22).lo hk50) (fun w' hw' => r_mv (v := .slice _ _ _) rfl) <| Ak 1 rfl ((Kp.refl w22 : Kp (fun b_ => (pA g12) = some ⟨b_, 0, none⟩) w22 w22).lo hk50) (fun w' hw' => r_mv (v := .int .i64 _) rfl) <| Ak 2 rfl ((Kp.refl w22 : Kp (fun b_ => (pA g12) = some ⟨b_, 0, none⟩) w22 w22).lo hk50) (fun w' hw' => r_mv (v := .int .i64 _) rfl) <| Ak 3 rfl ((Kp.refl w22 : Kp (fun b_ => (pA g12) = some ⟨b_, 0, none⟩) w22 w22).lo hk50) (fun w' hw' => r_add rfl rfl (by omega)) <| Ak 4 rfl ((Kp.refl w22 : Kp (fun b_ => (pA g12) = some ⟨b_, 0, none⟩) w22 w22).lo hk50) (fun w' hw' => r_cutl (l := (i_ + nV)) tsl31 rfl rfl (by omega) (by omega)) <| Ak 5 rfl ((Kp.refl w22 : Kp (fun b_ => (pA g12) = some ⟨b_, 0, none⟩) w22 w22).lo hk50) (fun w' hw' => r_mv (v := .slice _ _ _) rfl) <| Ak 6 rfl ((Kp.refl w22 : Kp (fun b_ => (pA g12) = some ⟨b_, 0, none⟩) w22 w22).lo hk50) (fun w' hw' => r_mv (v := .int .i64 _) rfl) <| Ak 7 rfl ((Kp.refl w22 : Kp (fun b_ => (pA g12) = some ⟨b_, 0, none⟩) w22 w22).lo hk50) (fun w' hw' => r_cutl (l := i_) tsl31 rfl rfl rfl (by omega)) <| Ab 8 rfl ?_
     refine SR.copyO (l := (i_ + nV)) (q := nL - i_) tel31 rfl rfl (hO24.lo hk50) ((((hL.lo hk16).kp hk23 (fun b_ hb e' => by have h1 := hO17.base_le e'; have h2 := (hL.lo hk16).base_le hb; have h3 := hL.base_le hb; omega)).rd.cutl (l := i_) (by omega)).lo hk50) (by simp only [Nat.min_def]; split <;> omega) (by omega) (fun _ => rfl) ?_
     intro w53 hk54 hO55
     have hz56 := hk54.size
     have hS58 := ((Kp.refl w22 : Kp (fun b_ => (pA g12) = some ⟨b_, 0, none⟩) w22 w22).lo hk50).step hk54 (fun _ _ e => e)
     refine Qn ⟨hS58, _, rfl, (AH.done (by kernel_rfl) (⟨(At.r rfl), hS58, hO55⟩))⟩
    rintro f59 w60 ⟨hat62, hR61, hm48⟩
    rw [← sets_of_at hat62]
    have hz63 := hR61.size
    refine Ws (Wr (Q (mL rfl) <| Q (aL rfl) <| Qn (W.ret (ret1 rfl (v := .slice _ _ _) rfl (⟨(pA g12), i_ + ((nL + nV) - i_), c13, eR rfl, (SlO.eqv (hm48.down) (by first | (have hV0 : V = [] := List.eq_nil_of_length_eq_zero (by omega); subst hV0; simp; done) | (exact ins_end hleL (show nL ≤ i_ by omega)) | (exact ins_grow hleL hleV (by omega) (by omega)))), (fun b_ h => .inr (by have := hm48.base_le h; omega)), ((((Kp.refl w : Kp (KA AL) w w).lo hk16).step hk23 (fun i_ hi_ e' => by have := hO17.base_le e'; first | omega | exact e' | exact .inl e' | exact .inr e')).step hR61 (fun i_ hi_ e' => by have := hO24.base_le e'; first | omega | exact e' | exact .inl e' | exact .inr e'))⟩)))))
   ·refine W.skip (Ws ?_)
    have hrL := hL.rd
    have hrV := hV.rd
    obtain ⟨gL, cs, rfl, hRw, htk, hcc⟩ := hL.raw (hrL.some (by omega))
    obtain ⟨gV, cv, rfl, hRv, _, _⟩ := hV.raw (hrV.some (by omega))
    have hne : gV ≠ gL := fun e => hp3 gV rfl (by rw [e])
    refine Wr (Q (mL rfl) <| Q (mI rfl) <| Q (mI rfl) <| Q (r_add rfl rfl (by omega)) <| Q (r_cuth (h := nL + nV) tsl31 rfl rfl (by omega) (by omega)) <| Q (aL rfl) <| Qn (Ws (Ws (Wr (Q (mL rfl) <| Q (mL rfl) <| Q (mI rfl) <| Q (mI rfl) <| Q (r_add rfl rfl (by omega)) <| Q (r_cutl (l := i_ + nV) tsl31 rfl rfl (by omega) (by omega)) <| SR.over ovl207 tel31 rfl rfl hne hRv.heap hRw (by omega) <| Q (r_not rfl) <| Qn (W.cond_t rfl (Ws (W.regT 8 mo (by kernel_rfl) ?_))))))))
    intro wd hkd
    refine TR.q' (mL rfl) <| TR.q' (mI rfl) <| TR.q' (mI rfl) <| TR.q' (r_add rfl rfl (by omega)) <| TR.q' (r_cutl (l := i_ + nV) tsl31 rfl rfl (by omega) (by omega)) <| TR.q' (mL rfl) <| TR.q' (mI rfl) <| TR.q' (r_cutl (l := i_) tsl31 rfl rfl (by omega) (by omega)) <| TR.nil ?_
    refine SR.copyR (l := i_ + nV) (m := nL - i_) (vs := (L.drop i_).flatMap encLMap) tel31 rfl rfl (hRw.lo hkd) (by simp only [Nat.min_def]; split <;> omega) (by omega) (by rw [flat_len (sz := 3) (fun _ => rfl), List.length_drop, ← hleL]) (fun _ => ((hrL.lo hkd).cutl (l := i_) (by omega)).flat) (fun h => (hrL.cutl (l := i_) (by omega)).some (by omega)) (fun u hu => by obtain ⟨q, _, hu⟩ := List.mem_flatMap.1 hu; exact List.all_eq_true.1 (show (encLMap q).all (·.oneCell') = true from rfl) u hu) ?_
    intro we hke hRe
    refine Qn (Ws ?_)
    refine Wr (Q (mL rfl) <| Q (mI rfl) <| Q (r_cutl (l := i_) tsl31 rfl rfl (by omega) (by omega)) <| Q (mL rfl) <| SR.copyR (l := i_) (m := nV) (vs := V.flatMap encLMap) tel31 rfl rfl hRe (by simp only [Nat.min_def]; split <;> omega) (by omega) (by rw [flat_len (sz := 3) (fun _ => rfl), ← hleV]) (fun _ => ((hV.lo hkd).kp hke (fun b hb e' => hne (by injection hb with hb; injection hb with hb; rw [hb, e']))).rd.flat) (fun h => hrV.some h) (fun u hu => by obtain ⟨q, _, hu⟩ := List.mem_flatMap.1 hu; exact List.all_eq_true.1 (show (encLMap q).all (·.oneCell') = true from rfl) u hu) ?_)
    intro wf hkf hRf
    refine Qn ?_
    have hBf := (((Kp.refl w : Kp (fun b_ => (pA gL) = some ⟨b_, 0, none⟩) w w).lo hkd).step hke (fun _ _ e' => by rw [e'])).step hkf (fun _ _ e' => by rw [e'])
    refine Ws (Wr (Q (mL rfl) <| Q (aL rfl) <| Qn (W.ret (ret1 rfl (v := .slice _ _ _) rfl (⟨(pA gL), nL + nV, cL, eR rfl, hRf.own (by omega) (by rw [List.length_append, List.length_append, List.length_take, List.length_drop]; omega) (fun _ => rfl) (ins_flat (enc := encLMap) (sz := 3) (i := i_) (cs := cs) (fun _ => rfl) hleL hleV (by omega) (by rw [hRw.len]; exact Nat.mul_le_mul_right 3 (show nL + nV ≤ cL by omega)) htk), (fun b_ h_ => .inl h_), hBf⟩)))))
theorem c_slices_Clone___impl_Away_impl_Away_ (w : World) {AL : Option Addr} {nL cL BL : Nat}  (L : List Away) (hL : SlR w BL encAway 2 AL nL cL L) (hp0 : (nL : Int) ≤ 1048576) : Calls Tryz.prog 92 #[.slice AL nL cL] w fun e w' => ∃ (A1' : Option Addr) (n1' c1' : Nat), e = .returned (.slice A1' n1' c1') ∧ SlO w' w.heap.size encAway 2 129 A1' n1' c1' L ∧ Lo w w' := by
 refine calls_W 8 Tryz.func92 rfl rfl rfl ?_
 have hbdL := hL.bound
 have hleL := hL.len
 have hBbL := hL.bd
 refine Ws (Wr (Q (r_as (v := .slice none 0 0) rfl) <| Qn (Ws (Ws (Wr (Q (mL rfl) <| Q (r_eqlnil und32 rfl rfl) <| Qn (W.cond_b rfl (fun h1 => ?_) (fun h1 => ?_))))))))
 ·have hq2 := slR_nil hL h1
  refine Ws (Wr (Q (r_as (v := .slice none 0 0) rfl) <| Qn (W.ret (ret1 rfl (v := .slice none 0 0) rfl (⟨none, 0, 0, eR rfl, (SlO.eqv (SlO.nil (e := 129) (enc := encAway) (fun _ => rfl) (Nat.le_refl _)) (by first | rfl | (exact (List.eq_nil_of_length_eq_zero (by omega)).symm))), (Lo.refl w)⟩)))))
 ·refine W.skip (Ws (Wr (SR.lit (vs := []) (L := ([] : List Away)) (enc := encAway) tel32 (fun _ => rfl) rfl rfl rfl (by decide) ?_)))
  intro g3 w4 hg5 hk6 hO7
  have hz8 := hk6.size
  refine Q (mL rfl) <| SR.app tel32 rfl rfl hO7 (hL.lo hk6) (fun _ => rfl) (by omega) (by omega) ?_
  intro A10 c11 w12 hk13 hO14 hN15
  have hz16 := hk13.size
  rw [List.nil_append] at hO14
  refine Q (aL rfl) <| Qn (W.ret (ret1 rfl (v := .slice _ _ _) rfl (⟨A10, 0 + nL, c11, eR rfl, (hO14.down), (((Lo.refl w).lo hk6).step hk13 (fun i_ hi_ e' => by have := hO7.base_le e'; first | omega | exact e' | exact .inl e' | exact .inr e'))⟩)))
theorem c_slices_Insert___impl_Away_impl_Away_ (w : World) {AL : Option Addr} {nL cL BL : Nat}  (L : List Away) (hL : SlO w BL encAway 2 129 AL nL cL L) (i : Int) {AV : Option Addr} {nV cV BV : Nat}  (V : List Away) (hV : SlO w BV encAway 2 129 AV nV cV V) (hp0 : 0 ≤ i) (hp1 : i ≤ (nL : Int)) (hp2 : ((nL + nV : Nat) : Int) ≤ 1048576) (hp3 : Dj AV AL) : Calls Tryz.prog 210 #[.slice AL nL cL, .int .i64 i, .slice AV nV cV] w fun e w' => ∃ (A1' : Option Addr) (n1' c1' : Nat), e = .returned (.slice A1' n1' c1') ∧ SlO w' BL encAway 2 129 A1' n1' c1' (L.take i.toNat ++ V ++ L.drop i.toNat) ∧ (∀ b_, A1' = some ⟨b_, 0, none⟩ → (AL = some ⟨b_, 0, none⟩) ∨ w.heap.size ≤ b_) ∧ Kp (KA AL) w w' := by
 refine calls_W 95 Tryz.func210 rfl rfl rfl ?_
 have hcpL := hL.rd.cap
 have hbbL := hL.rd.bd
 have hbdL := hL.rd.bound
 have hleL := hL.len
 have hBbL := hL.bd
 have hcpV := hV.rd.cap
 have hbbV := hV.rd.bd
 have hbdV := hV.rd.bound
 have hleV := hV.len
 have hBbV := hV.bd
 obtain ⟨i_, rfl⟩ := Int.eq_ofNat_of_zero_le hp0
 refine Ws (Wr (Q (r_as (v := .slice none 0 0) rfl) <| Qn (Ws (Wr (Q (mL rfl) <| Q (mI rfl) <| Q (r_cutl (l := i_) tsl32 rfl rfl rfl (by omega)) <| Qn (Ws (Wr (Q (mL rfl) <| Q (r_len und32 rfl) <| Q (aI rfl) <| Qn (Ws (Ws (Wr (Q (mI rfl) <| Q (r_eq rfl rfl) <| Qn (W.cond_d rfl (fun h1 => ?_) (fun h1 => ?_))))))))))))))
 ·refine Ws (Wr (Q (mL rfl) <| Q (aL rfl) <| Qn (W.ret (ret1 rfl (v := .slice _ _ _) rfl (⟨AL, nL, cL, eR rfl, (SlO.eqv hL (by first | (have hV0 : V = [] := List.eq_nil_of_length_eq_zero (by omega); subst hV0; simp; done) | (exact ins_end hleL (show nL ≤ i_ by omega)) | (exact ins_grow hleL hleV (by omega) (by omega)))), (fun b_ h_ => .inl h_), (Kp.refl w : Kp (KA AL) w w)⟩)))))
 ·refine W.skip (Ws (Wr (Q (mL rfl) <| Q (r_len und32 rfl) <| Q (aI rfl) <| Qn (Ws (Ws (Wr (Q (mI rfl) <| Q (mI rfl) <| Q (r_eq rfl rfl) <| Qn (W.cond_d rfl (fun h2 => ?_) (fun h2 => ?_)))))))))
  ·refine Ws (Wr (Q (mL rfl) <| Q (mL rfl) <| SR.app tel32 rfl rfl hL (hV.rd) (fun _ => rfl) (by omega) (by omega) ?_))
   intro A3 c4 w5 hk6 hO7 hN8
   have hz9 := hk6.size
   refine Q (aL rfl) <| Qn (W.ret (ret1 rfl (v := .slice _ _ _) rfl (⟨A3, nL + nV, c4, eR rfl, (SlO.eqv hO7 (by first | (have hV0 : V = [] := List.eq_nil_of_length_eq_zero (by omega); subst hV0; simp; done) | (exact ins_end hleL (show nL ≤ i_ by omega)) | (exact ins_grow hleL hleV (by omega) (by omega)))), (fun b_ h_ => (hN8 b_ h_).elim (fun h => (fun b_ h_ => .inl h_) b_ (h.trans h_)) (fun h => .inr (by omega))), ((Kp.refl w : Kp (KA AL) w w).step hk6 (fun i_ hi_ e' => by have := hL.base_le e'; first | omega | exact e' | exact .inl e' | exact .inr e'))⟩)))
  ·refine W.skip (Ws (Ws (Wr (Q (mI rfl) <| Q (mI rfl) <| Q (r_add rfl rfl (by omega)) <| Q (mL rfl) <| Q (r_cap und32 rfl) <| Q (r_gt rfl rfl) <| Qn (W.cond_d rfl (fun h11 => ?_) (fun h11 => ?_))))))
   ·refine Ws (Wr (Q (mL rfl) <| Q (mI rfl) <| Q (r_cuth (h := i_) tsl32 rfl rfl rfl (Nat.le_trans (by omega : i_ ≤ nL) hL.rd.cap)) <| Q (mI rfl) <| Q (mI rfl) <| Q (r_add rfl rfl (by omega)) <| Q (mI rfl) <| Q (r_sub rfl rfl (by omega)) <| SR.appZ (k := ((nL + nV) - i_)) (zx := (⟨0, 0⟩ : Away)) tel32 und3 rfl rfl (by first | rfl | (rw [show (((nL : Int) + (nV : Int)) - (i_ : Int) : Int) = ((((nL + nV) - i_) : Nat) : Int) from by omega]; rfl)) (hL.head (h := i_) (by omega)) (by omega) (by omega) (by omega) (by omega) ?_))
    intro g12 c13 w14 hg15 hk16 hO17
    have hz18 := hk16.size
    refine Q (aL rfl) <| Qn (Ws ?_)
    refine Wr (Q (mL rfl) <| Q (mI rfl) <| Q (r_cutl (l := i_) tsl32 rfl rfl rfl (by omega)) <| Q (mL rfl) <| SR.copyO (l := i_) (q := nV) tel32 rfl rfl hO17 ((hV.lo hk16).rd) (by simp only [Nat.min_def]; split <;> omega) (by omega) (fun _ => rfl) ?_)
    intro w22 hk23 hO24
    have hz25 := hk23.size
    refine Qn (Ws (W.regA (Kp (fun b_ => (pA g12) = some ⟨b_, 0, none⟩) w22) (fun f' w' => At f' [(0, .slice AL nL cL), (1, .int .i64 (i_ : Int)), (2, .slice AV nV cV), (6, .slice none 0 0), (7, .int .i64 (nV : Int)), (8, .int .i64 (nL : Int)), (9, .slice (pA g12) (i_ + ((nL + nV) - i_)) c13)] ∧ (Kp (fun b_ => (pA g12) = some ⟨b_, 0, none⟩) w22 w') ∧ (SlO w' w.heap.size encAway 2 129 (pA g12) (i_ + ((nL + nV) - i_)) c13 ((((L.take i_) ++ List.replicate ((nL + nV) - i_) (⟨0, 0⟩ : Away)).take i_ ++ V.take nV ++ ((L.take i_) ++ List.replicate ((nL + nV) - i_) (⟨0, 0⟩ : Away)).drop (i_ + nV)).take (i_ + nV) ++ (L.drop i_).take (nL - i_) ++ (((L.take i_) ++ List.replicate ((nL + nV) - i_) (⟨0, 0⟩ : Away)).take i_ ++ V.take nV ++ ((L.take i_) ++ List.replicate ((nL + nV) - i_) (⟨0, 0⟩ : Away)).drop (i_ + nV)).drop ((i_ + nV) + (nL - i_))))) mo ?_ ?_))
    ·intro w49 hk50
     have hz51 := hk50.size
     refine Ak 0 rfl ((Kp.refl w22 : Kp (fun b_ => (pA g12) = some ⟨b_, 0, none⟩) w22 w22).lo hk50) (fun w' hw' => r_mv (v := .slice _ _ _) rfl) <| Ak 1 rfl ((Kp.refl w22 : Kp (fun b_ => (pA g12) = some ⟨b_, 0, none⟩) w22 w22).lo hk50) (fun w' hw' => r_mv (v := .int .i64 _) rfl) <| Ak 2 rfl ((Kp.refl w22 : Kp (fun b_ => (pA g12) = some ⟨b_, 0, none⟩) w22 w22).lo hk50) (fun w' hw' => r_mv (v := .int .i64 _) rfl) <| Ak 3 rfl ((Kp.refl w22 : Kp (fun b_ => (pA g12) = some ⟨b_, 0, none⟩) w22 w22).lo hk50) (fun w' hw' => r_add rfl rfl (by omega)) <| Ak 4 rfl ((Kp.refl w22 : Kp (fun b_ => (pA g12) = some ⟨b_, 0, none⟩) w22 w22).lo hk50) (fun w' hw' => r_cutl (l := (i_ + nV)) tsl32 rfl rfl (by omega) (by omega)) <| Ak 5 rfl ((Kp.refl w22 : Kp (fun b_ => (pA g12) = some ⟨b_, 0, none⟩) w22 w22).lo hk50) (fun w' hw' => r_mv (v := .slice _ _ _) rfl) <| Ak 6 rfl ((Kp.refl w22 : Kp (fun b_ => (pA g12) = some ⟨b_, 0, none⟩) w22 w22).lo hk50) (fun w' hw' => r_mv (v := .int .i64 _) rfl) <| Ak 7 rfl ((Kp.refl w22 : Kp (fun b_ => (pA g12) = some ⟨b_, 0, none⟩) w22 w22).lo hk50) (fun w' hw' => r_cutl (l := i_) tsl32 rfl rfl rfl (by omega)) <| Ab 8 rfl ?_
     refine SR.copyO (l := (i_ + nV)) (q := nL - i_) tel32 rfl rfl (hO24.lo hk50) ((((hL.lo hk16).kp hk23 (fun b_ hb e' => by have h1 := hO17.base_le e'; have h2 := (hL.lo hk16).base_le hb; have h3 := hL.base_le hb; omega)).rd.cutl (l := i_) (by omega)).lo hk50) (by simp only [Nat.min_def]; split <;> omega) (by omega) (fun _ => rfl) ?_
     intro w53 hk54 hO55
     have hz56 := hk54.size
     have hS58 := ((Kp.refl w22 : Kp (fun b_ => (pA g12) = some ⟨b_, 0, none⟩) w22 w22).lo hk50).step hk54 (fun _ _ e => e)
     refine Qn ⟨hS58, _, rfl, (AH.done (by kernel_rfl) (⟨(At.r rfl), hS58, hO55⟩))⟩
    rintro f59 w60 ⟨hat62, hR61, hm48⟩
    rw [← sets_of_at hat62]
    have hz63 := hR61.size
    refine Ws (Wr (Q (mL rfl) <| Q (aL rfl) <| Qn (W.ret (ret1 rfl (v := .slice _ _ _) rfl (⟨(pA g12), i_ + ((nL + nV) - i_), c13, eR rfl, (SlO.eqv (hm48.down) (by first | (have hV0 : V = [] := List.eq_nil_of_length_eq_zero (by omega); subst hV0; simp; done) | (exact ins_end hleL (show nL ≤ i_ by omega)) | (exact ins_grow hleL hleV (by omega) (by omega)))), (fun b_ h => .inr (by have := hm48.base_le h; omega)), ((((Kp.refl w : Kp (KA AL) w w).lo hk16).step hk23 (fun i_ hi_ e' => by have := hO17.base_le e'; first | omega | exact e' | exact .inl e' | exact .inr e')).step hR61 (fun i_ hi_ e' => by have := hO24.base_le e'; first | omega | exact e' | exact .inl e' | exact .inr e'))⟩)))))
   ·refine W.skip (Ws ?_)
    have hrL := hL.rd
    have hrV := hV.rd
    obtain ⟨gL, cs, rfl, hRw, htk, hcc⟩ := hL.raw (hrL.some (by omega))
    obtain ⟨gV, cv, rfl, hRv, _, _⟩ := hV.raw (hrV.some (by omega))
    have hne : gV ≠ gL := fun e => hp3 gV rfl (by rw [e])
    refine Wr (Q (mL rfl) <| Q (mI rfl) <| Q (mI rfl) <| Q (r_add rfl rfl (by omega)) <| Q (r_cuth (h := nL + nV) tsl32 rfl rfl (by omega) (by omega)) <| Q (aL rfl) <| Qn (Ws (Ws (Wr (Q (mL rfl) <| Q (mL rfl) <| Q (mI rfl) <| Q (mI rfl) <| Q (r_add rfl rfl (by omega)) <| Q (r_cutl (l := i_ + nV) tsl32 rfl rfl (by omega) (by omega)) <| SR.over ovl228 tel32 rfl rfl hne hRv.heap hRw (by omega) <| Q (r_not rfl) <| Qn (W.cond_t rfl (Ws (W.regT 8 mo (by kernel_rfl) ?_))))))))
    intro wd hkd
    refine TR.q' (mL rfl) <| TR.q' (mI rfl) <| TR.q' (mI rfl) <| TR.q' (r_add rfl rfl (by omega)) <| TR.q' (r_cutl (l := i_ + nV) tsl32 rfl rfl (by omega) (by omega)) <| TR.q' (mL rfl) <| TR.q' (mI rfl) <| TR.q' (r_cutl (l := i_) tsl32 rfl rfl (by omega) (by omega)) <| TR.nil ?_
    refine SR.copyR (l := i_ + nV) (m := nL - i_) (vs := (L.drop i_).flatMap encAway) tel32 rfl rfl (hRw.lo hkd) (by simp only [Nat.min_def]; split <;> omega) (by omega) (by rw [flat_len (sz := 2) (fun _ => rfl), List.length_drop, ← hleL]) (fun _ => ((hrL.lo hkd).cutl (l := i_) (by omega)).flat) (fun h => (hrL.cutl (l := i_) (by omega)).some (by omega)) (fun u hu => by obtain ⟨q, _, hu⟩ := List.mem_flatMap.1 hu; exact List.all_eq_true.1 (show (encAway q).all (·.oneCell') = true from rfl) u hu) ?_
    intro we hke hRe
    refine Qn (Ws ?_)
    refine Wr (Q (mL rfl) <| Q (mI rfl) <| Q (r_cutl (l := i_) tsl32 rfl rfl (by omega) (by omega)) <| Q (mL rfl) <| SR.copyR (l := i_) (m := nV) (vs := V.flatMap encAway) tel32 rfl rfl hRe (by simp only [Nat.min_def]; split <;> omega) (by omega) (by rw [flat_len (sz := 2) (fun _ => rfl), ← hleV]) (fun _ => ((hV.lo hkd).kp hke (fun b hb e' => hne (by injection hb with hb; injection hb with hb; rw [hb, e']))).rd.flat) (fun h => hrV.some h) (fun u hu => by obtain ⟨q, _, hu⟩ := List.mem_flatMap.1 hu; exact List.all_eq_true.1 (show (encAway q).all (·.oneCell') = true from rfl) u hu) ?_)
    intro wf hkf hRf
    refine Qn ?_
    have hBf := (((Kp.refl w : Kp (fun b_ => (pA gL) = some ⟨b_, 0, none⟩) w w).lo hkd).step hke (fun _ _ e' => by rw [e'])).step hkf (fun _ _ e' => by rw [e'])
    refine Ws (Wr (Q (mL rfl) <| Q (aL rfl) <| Qn (W.ret (ret1 rfl (v := .slice _ _ _) rfl (⟨(pA gL), nL + nV, cL, eR rfl, hRf.own (by omega) (by rw [List.length_append, List.length_append, List.length_take, List.length_drop]; omega) (fun _ => rfl) (ins_flat (enc := encAway) (sz := 2) (i := i_) (cs := cs) (fun _ => rfl) hleL hleV (by omega) (by rw [hRw.len]; exact Nat.mul_le_mul_right 2 (show nL + nV ≤ cL by omega)) htk), (fun b_ h_ => .inl h_), hBf⟩)))))
theorem c_slices_Delete___impl_Away_impl_Away_ (w : World) {AL : Option Addr} {nL cL BL : Nat}  (L : List Away) (hL : SlO w BL encAway 2 129 AL nL cL L) (i : Int) (j : Int) (hp0 : 0 ≤ i) (hp1 : i ≤ j) (hp2 : j ≤ (nL : Int)) : Calls Tryz.prog 211 #[.slice AL nL cL, .int .i64 i, .int .i64 j] w fun e w' => ∃ (A1' : Option Addr) (n1' c1' : Nat), e = .returned (.slice A1' n1' c1') ∧ SlO w' BL encAway 2 129 A1' n1' c1' (L.take i.toNat ++ L.drop j.toNat) ∧ (∀ b_, A1' = some ⟨b_, 0, none⟩ → (AL = some ⟨b_, 0, none⟩) ∨ w.heap.size ≤ b_) ∧ Kp (KA AL) w w' := by
 refine calls_W 33 Tryz.func211 rfl rfl rfl ?_
 have hcpL := hL.rd.cap
 have hbbL := hL.rd.bd
 have hbdL := hL.rd.bound
 have hleL := hL.len
 have hBbL := hL.bd
 refine Ws (Wr (Q (r_as (v := .slice none 0 0) rfl) <| Qn (Ws (Wr (Q (mL rfl) <| Q (mI rfl) <| Q (mI rfl) <| Q (mL rfl) <| Q (r_len und32 rfl) <| Q (r_cut3 (l := i.toNat) (h' := j.toNat) (m' := nL) tsl32 rfl rfl rfl rfl (by omega) (by omega) rfl (by omega) (by omega) (Nat.le_trans (by omega : nL ≤ nL) hL.rd.cap)) <| Qn (Ws (Ws (Wr (Q (mI rfl) <| Q (mI rfl) <| Q (r_eq rfl rfl) <| Qn (W.cond_d rfl (fun h1 => ?_) (fun h1 => ?_)))))))))))
 ·refine Ws (Wr (Q (mL rfl) <| Q (aL rfl) <| Qn (W.ret (ret1 rfl (v := .slice _ _ _) rfl (⟨AL, nL, cL, eR rfl, (SlO.eqv hL (by first | rfl | (obtain rfl : i = j := (by omega); exact (List.take_append_drop ..).symm))), (fun b_ h_ => .inl h_), (Kp.refl w : Kp (KA AL) w w)⟩)))))
 ·refine W.skip (Ws (Wr (Q (mL rfl) <| Q (r_len und32 rfl) <| Q (aI rfl) <| Qn (Ws (W.regA (Kp (KA AL) w) (fun f' w' => At f' [(0, .slice AL (i.toNat + (nL - j.toNat)) cL), (6, .slice none 0 0), (7, .int .i64 (nL : Int))] ∧ (Kp (KA AL) w w') ∧ (SlO w' BL encAway 2 129 AL (i.toNat + (nL - j.toNat)) cL ((L.take i.toNat) ++ (L.drop j.toNat)))) mo ?_ ?_)))))
  ·intro w25 hk26
   have hz27 := hk26.size
   refine Ak 0 rfl ((Kp.refl w : Kp (KA AL) w w).lo hk26) (fun w' hw' => r_mv (v := .slice _ _ _) rfl) <| Ak 1 rfl ((Kp.refl w : Kp (KA AL) w w).lo hk26) (fun w' hw' => r_mv (v := .int .i64 _) rfl) <| Ak 2 rfl ((Kp.refl w : Kp (KA AL) w w).lo hk26) (fun w' hw' => r_cuth (h := i.toNat) tsl32 rfl rfl (by omega) (Nat.le_trans (by omega : i.toNat ≤ nL) hL.rd.cap)) <| Ak 3 rfl ((Kp.refl w : Kp (KA AL) w w).lo hk26) (fun w' hw' => r_mv (v := .slice _ _ _) rfl) <| Ak 4 rfl ((Kp.refl w : Kp (KA AL) w w).lo hk26) (fun w' hw' => r_mv (v := .int .i64 _) rfl) <| Ak 5 rfl ((Kp.refl w : Kp (KA AL) w w).lo hk26) (fun w' hw' => r_cutl (l := j.toNat) tsl32 rfl rfl (by omega) (by omega)) <| Ab 6 rfl (SR.appI tel32 rfl rfl ((hL.head (h := i.toNat) (by omega)).lo hk26) ((hL.rd.cutl (l := j.toNat) (by omega)).lo hk26) (fun _ => rfl) (by omega) ?_)
   intro w29 hk30 hO31
   have hz32 := hk30.size
   have hS34 := ((Kp.refl w : Kp (KA AL) w w).lo hk26).step hk30 (fun _ _ e => e)
   refine Qn ⟨hS34, _, rfl, (Ak 7 rfl hS34 (fun w' hw' => r_as (v := .slice _ _ _) rfl) <| AH.done (by kernel_rfl) (⟨(At.r rfl), hS34, hO31⟩))⟩
  rintro f35 w36 ⟨hat38, hR37, hm24⟩
  rw [← sets_of_at hat38]
  have hz39 := hR37.size
  refine Ws (Wr (Q (mL rfl) <| Q (mL rfl) <| Q (r_len und32 rfl) <| Q (mI rfl) <| Q (r_cut (l := (i.toNat + (nL - j.toNat))) (h := nL) tsl32 rfl rfl rfl rfl rfl (by omega) (by omega)) <| SR.clearO (l := (i.toNat + (nL - j.toNat))) (k := nL - (i.toNat + (nL - j.toNat))) tel32 rfl hm24 (by omega) (by omega) (by kernel_rfl) ?_))
  intro w41 hk42 hO43
  have hz44 := hk42.size
  refine Qn (Ws (Wr (Q (mL rfl) <| Q (aL rfl) <| Qn (W.ret (ret1 rfl (v := .slice _ _ _) rfl (⟨AL, i.toNat + (nL - j.toNat), cL, eR rfl, (SlO.eqv hO43 (by first | rfl | (obtain rfl : i = j := (by omega); exact (List.take_append_drop ..).symm))), (fun b_ h_ => .inl h_), (((Kp.refl w : Kp (KA AL) w w).step hR37 (fun i_ hi_ e' => by have := hL.base_le e'; first | omega | exact e' | exact .inl e' | exact .inr e')).step hk42 (fun i_ hi_ e' => by have := hm24.base_le e'; first | omega | exact e' | exact .inl e' | exact .inr e'))⟩))))))
theorem c__impl_Library__own (w : World) (x : Library) {Ax1 : Option Addr} {nx1 cx1 Bx1 : Nat} (hx1 : SlR w Bx1 encLMap 3 Ax1 nx1 cx1 x.Maps) {Ax2 : Option Addr} {nx2 cx2 Bx2 : Nat} (hx2 : SlR w Bx2 encAway 2 Ax2 nx2 cx2 x.Away) (hp0 : (nx1 : Int) ≤ 1048576) (hp1 : (nx2 : Int) ≤ 1048576) : Calls Tryz.prog 47 #[.agg (List.toArray (cLb Ax1 nx1 cx1 Ax2 nx2 cx2 x))] w fun e w' => ∃ (A1' : Option Addr) (n1' c1' : Nat) (A2' : Option Addr) (n2' c2' : Nat), e = .returned (.agg (List.toArray (cLb A1' n1' c1' A2' n2' c2' x))) ∧ SlO w' w.heap.size encLMap 3 102 A1' n1' c1' x.Maps ∧ SlO w' w.heap.size encAway 2 129 A2' n2' c2' x.Away ∧ Dj A1' A2' ∧ Lo w w' := by
 refine calls_W 12 Tryz.func47 rfl rfl rfl ?_
 have hbdx1 := hx1.bound
 have hlex1 := hx1.len
 have hBbx1 := hx1.bd
 have hbdx2 := hx2.bound
 have hlex2 := hx2.len
 have hBbx2 := hx2.bd
 refine Ws (Wr (SR.box (v := .agg (List.toArray _)) (l := (cLb Ax1 nx1 cx1 Ax2 nx2 cx2 x)) rfl rfl ?_))
 intro g1 w2 hg3 hk4 hs5 hb6
 refine SR.alloc (l := [.slice none 0 0, .slice none 0 0, .int .i64 0, .int .i64 0, .int .i64 0]) tz34 rfl ?_
 intro g9 w10 hg11 hk12 hs13 hb14
 refine Qn (Ws ?_)
 have hm17 := (hx1.lo hk4).lo hk12
 refine W.regA (Kp (fun b_ => b_ = g1) w10) (fun f' w' => ∃ (A64 : Option Addr) (n65 : Nat) (c66 : Nat) (A79 : Option Addr) (n80 : Nat) (c81 : Nat), At f' [(1, .pointer (pA g1)), (2, .pointer (pA g9))] ∧ (Kp (fun b_ => b_ = g1) w10 w') ∧ (SlO w' w10.heap.size encLMap 3 102 A64 n65 c66 x.Maps) ∧ (SlO w' w10.heap.size encAway 2 129 A79 n80 c81 x.Away) ∧ (Blk w' g1 34 (cLb A64 n65 c66 A79 n80 c81 x)) ∧ Dj A64 A79 ∧ (n65 = (x.Maps).length) ∧ ((n65 : Int) ≤ 9223372036854775807) ∧ (n80 = (x.Away).length) ∧ ((n80 : Int) ≤ 9223372036854775807)) mo ?_ ?_
 ·intro w127 hk128
  have hz129 := hk128.size
  refine AH.via #[true, true, true, true, true, false, true, false, false, false] 4 (fun f' w' => ∃ (A64 : Option Addr) (n65 : Nat) (c66 : Nat), At f' [(1, .pointer (pA g1)), (2, .pointer (pA g9)), (5, .slice A64 n65 c66), (7, .slice Ax2 nx2 cx2), (9, .pointer (some ((⟨g1, 0, none⟩ : Addr).add 0)))] ∧ (Kp (fun b_ => b_ = g1) w10 w') ∧ (SlO w' w10.heap.size encLMap 3 102 A64 n65 c66 x.Maps) ∧ (Blk w' g1 34 (cLb Ax1 nx1 cx1 Ax2 nx2 cx2 x)) ∧ (n65 = (x.Maps).length) ∧ ((n65 : Int) ≤ 9223372036854775807)) ?_ (fun hn131 => ?_)
  ·rintro f132 w133 ⟨A64, n65, c66, hat135, hR134, hm75, hm76, hl71, hl72⟩
   rw [← sets_of_at hat135]
   have hz136 := hR134.size
   refine Ab 5 rfl (SR.call ent92 (c_slices_Clone___impl_Away_impl_Away_ w133 x.Away (((hx2.lo hk4).lo hk12).kn hR134 (by omega)) (by omega)) rfl ?_)
   rintro e w138 ⟨A140, n141, c142, rfl, hO143, hk139⟩
   refine ⟨_, rfl, ?_⟩
   have hz144 := hk139.size
   have hS146 := hR134.lo hk139
   have hl147 := hO143.len
   have hl148 := hO143.rd.bound
   refine Qn ⟨hS146, _, rfl, (Ab 7 rfl (Qw (o := 0) (vs := [.slice A64 n65 c66]) sca31.2 rfl rfl rfl rfl (hm76.lo hk139) ler rfl ?_))⟩
   intro w149 hk150 hs151 hb152
   have hS155 := hS146.step hk150 (fun _ _ e => e)
   refine Qn ⟨hS155, _, rfl, (Ak 8 rfl hS155 (fun w' hw' => fA fa34_1 rfl) <| Ab 9 rfl (Qw (o := 1) (vs := [.slice A140 n141 c142]) sca32.2 rfl rfl rfl rfl hb152 ler rfl ?_))⟩
   intro w156 hk157 hs158 hb159
   have hS162 := hS155.step hk157 (fun _ _ e => e)
   refine Qn ⟨hS162, _, rfl, (AH.done (by kernel_rfl) (⟨A64, n65, c66, A140, n141, c142, ⟨rfl, rfl, trivial⟩, hS162, ((((hm75.lo hk139).kn hk150).kn hk157).down), (((hO143.kn hk150).kn hk157).down), hb159, (fun b_ h h' => by have h1 := hm75.base_le h; have h2 := ((hO143.kn hk150).kn hk157).base_le h'; omega), hl71, hl72, hl147, hl148⟩))⟩
  refine AH.via #[true, true, false, true, true, false, false, false, false, false] 6 (fun f' w' => At f' [(1, .pointer (pA g1)), (2, .pointer (pA g9)), (4, .slice Ax1 nx1 cx1), (7, .slice Ax2 nx2 cx2)] ∧ (Kp (fun b_ => b_ = g1) w10 w') ∧ (Blk w' g1 34 (cLb Ax1 nx1 cx1 Ax2 nx2 cx2 x))) ?_ (fun hn164 => ?_)
  ·rintro f165 w166 ⟨hat168, hR167, hm114⟩
   rw [← sets_of_at hat168]
   have hz169 := hR167.size
   refine Ab 2 rfl (SR.call ent91 (c_slices_Clone___impl_Map_impl_Map_ w166 x.Maps (hm17.kn hR167 (by omega)) (by omega)) rfl ?_)
   rintro e w171 ⟨A173, n174, c175, rfl, hO176, hk172⟩
   refine ⟨_, rfl, ?_⟩
   have hz177 := hk172.size
   have hS179 := hR167.lo hk172
   have hl180 := hO176.len
   have hl181 := hO176.rd.bound
   refine Qn ⟨hS179, _, rfl, (Ak 6 rfl hS179 (fun w' hw' => fA fa34_0 rfl) <| AH.goto (by kernel_rfl) rfl (hn131 _ _ (⟨A173, n174, c175, (At.r rfl), hS179, (hO176.down), (hm114.lo hk172), hl180, hl181⟩)))⟩
  refine Ak 0 rfl (kr hk128) (fun w' hw' => fA fa34_0 rfl) <| Ak 3 rfl (kr hk128) (fun w' hw' => fA fa34_1 rfl) <| AH.br [1, 4] (by kernel_rfl) rfl ⟨Br.mk' rfl trivial ?_, Br.mk' rfl trivial ?_, trivial⟩
  ·refine Q (lB sca31 rfl ((hb6.lo hk12).lo hk128) rfl) (Qn ⟨(Kp.refl w10).lo hk128, _, rfl, (AH.br [2, 4] (by kernel_rfl) rfl ⟨Br.mk' rfl trivial ?_, Br.mk' rfl trivial ?_, trivial⟩)⟩)
   ·refine SR.call ent91 (c_slices_Clone___impl_Map_impl_Map_ w127 x.Maps (hm17.lo hk128) (by omega)) rfl ?_
    rintro e w182 ⟨A184, n185, c186, rfl, hO187, hk183⟩
    refine ⟨_, rfl, ?_⟩
    have hz188 := hk183.size
    have hS190 := ((Kp.refl w10 : Kp (fun b_ => b_ = g1) w10 w10).lo hk128).lo hk183
    have hl191 := hO187.len
    have hl192 := hO187.rd.bound
    refine Qn ⟨hS190, _, rfl, (Ab 4 rfl (Q (lB sca32 rfl (((hb6.lo hk12).lo hk128).lo hk183) rfl) (Qn ⟨hS190, _, rfl, (Ak 6 rfl hS190 (fun w' hw' => fA fa34_0 rfl) <| AH.goto (by kernel_rfl) rfl (hn131 _ _ (⟨A184, n185, c186, (At.r rfl), hS190, (hO187.down), (((hb6.lo hk12).lo hk128).lo hk183), hl191, hl192⟩)))⟩)))⟩
   ·refine Q (lB sca32 rfl ((hb6.lo hk12).lo hk128) rfl) (Qn ⟨(Kp.refl w10).lo hk128, _, rfl, (AH.goto (by kernel_rfl) rfl (hn164 _ _ (⟨(At.r rfl), (Kp.refl w10).lo hk128, ((hb6.lo hk12).lo hk128)⟩)))⟩)
  ·refine Q (lB sca32 rfl ((hb6.lo hk12).lo hk128) rfl) (Qn ⟨(Kp.refl w10).lo hk128, _, rfl, (Ab 1 rfl (Q (lB sca31 rfl ((hb6.lo hk12).lo hk128) rfl) (Qn ⟨(Kp.refl w10).lo hk128, _, rfl, (AH.goto (by kernel_rfl) rfl (hn164 _ _ (⟨(At.r rfl), (Kp.refl w10).lo hk128, ((hb6.lo hk12).lo hk128)⟩)))⟩)))⟩)
 rintro f193 w194 ⟨A64, n65, c66, A79, n80, c81, hat196, hR195, hm110, hm111, hm112, hd113, hl71, hl72, hl86, hl87⟩
 rw [← sets_of_at hat196]
 have hz197 := hR195.size
 refine Ws (Wr (Q (lG agg34 rfl hm112 rfl) <| Qw (o := 0) (vs := (cLb A64 n65 c66 A79 n80 c81 x)) agg34.2 rfl rfl rfl rfl (hb14.kn hR195 (by omega)) ler rfl ?_))
 intro w199 hk200 hs201 hb202
 refine Qn (W.ret (retC rfl rfl agg34 hb202 rfl (⟨A64, n65, c66, A79, n80, c81, eR rfl, ((hm110.kn hk200).down), ((hm111.kn hk200).down), hd113, (((((Lo.refl w).lo hk4).lo hk12).new hR195 (by omega)).new hk200)⟩)))
theorem c_spec_l32Own (w : World) (x : Library) {Ax1 : Option Addr} {nx1 cx1 Bx1 : Nat} (hx1 : SlR w Bx1 encLMap 3 Ax1 nx1 cx1 x.Maps) {Ax2 : Option Addr} {nx2 cx2 Bx2 : Nat} (hx2 : SlR w Bx2 encAway 2 Ax2 nx2 cx2 x.Away) (hp0 : (nx1 : Int) ≤ 1048576) (hp1 : (nx2 : Int) ≤ 1048576) : Calls Tryz.prog 79 #[.agg (List.toArray (cLb Ax1 nx1 cx1 Ax2 nx2 cx2 x))] w fun e w' => ∃ (A1' : Option Addr) (n1' c1' : Nat) (A2' : Option Addr) (n2' c2' : Nat), e = .returned (.agg (List.toArray (cLb A1' n1' c1' A2' n2' c2' x))) ∧ SlO w' w.heap.size encLMap 3 102 A1' n1' c1' x.Maps ∧ SlO w' w.heap.size encAway 2 129 A2' n2' c2' x.Away ∧ Dj A1' A2' ∧ Lo w w' := by
 refine calls_W 18 Tryz.func79 rfl rfl rfl ?_
 have hbdx1 := hx1.bound
 have hlex1 := hx1.len
 have hBbx1 := hx1.bd
 have hbdx2 := hx2.bound
 have hlex2 := hx2.len
 have hBbx2 := hx2.bd
 refine Ws (Wr (SR.box (v := .agg (List.toArray _)) (l := (cLb Ax1 nx1 cx1 Ax2 nx2 cx2 x)) rfl rfl ?_))
 intro g1 w2 hg3 hk4 hs5 hb6
 refine SR.alloc (l := [.slice none 0 0, .slice none 0 0, .int .i64 0, .int .i64 0, .int .i64 0]) tz34 rfl ?_
 intro g9 w10 hg11 hk12 hs13 hb14
 refine Qn (Ws ?_)
 have hm17 := (hx1.lo hk4).lo hk12
 refine W.regA (Kp (fun b_ => b_ = g9) w10) (fun f' w' => ∃ (g79 : Nat) (A89 : Option Addr) (c90 : Nat) (g100 : Nat) (A113 : Option Addr) (c114 : Nat), At f' [(2, .pointer (pA g9))] ∧ (Kp (fun b_ => b_ = g9) w10 w') ∧ (SlO w' w10.heap.size encLMap 3 102 A89 (0 + nx1) c90 x.Maps) ∧ (SlO w' w10.heap.size encAway 2 129 A113 (0 + nx2) c114 x.Away) ∧ (Blk w' g9 34 [.slice A89 (0 + nx1) c90, .slice A113 (0 + nx2) c114, .int .i64 x.Bought, .int .i64 x.Dropped, .int .i64 x.Mended]) ∧ Dj A89 A113) mo ?_ ?_
 ·intro w180 hk181
  have hz182 := hk181.size
  refine AH.via #[true, true, true, true, true, true, true, false, true, true, true, true, true, true, false, false] 3 (fun f' w' => ∃ (g79 : Nat) (A89 : Option Addr) (c90 : Nat) (g100 : Nat), At f' [(2, .pointer (pA g9)), (6, .slice A89 (0 + nx1) c90), (7, .slice (pA g100) 0 0), (9, .slice Ax2 nx2 cx2), (12, .int .i64 x.Bought), (14, .int .i64 x.Dropped), (16, .int .i64 x.Mended)] ∧ (Kp (fun b_ => b_ = g9) w10 w') ∧ (SlO w' w10.heap.size encLMap 3 102 A89 (0 + nx1) c90 x.Maps) ∧ (SlO w' w10.heap.size encAway 2 129 (pA g100) 0 0 ([] : List Away)) ∧ (Blk w' g9 34 [.slice none 0 0, .slice none 0 0, .int .i64 0, .int .i64 0, .int .i64 0]) ∧ (∀ b_, A89 = some ⟨b_, 0, none⟩ → ¬ (pA g100) = some ⟨b_, 0, none⟩)) ?_ (fun hn184 => ?_)
  ·rintro f185 w186 ⟨g79, A89, c90, g100, hat188, hR187, hm109, hm110, hm111, hd112⟩
   rw [← sets_of_at hat188]
   have hz189 := hR187.size
   refine Ab 7 rfl (SR.app tel32 rfl rfl hm110 (((hx2.lo hk4).lo hk12).kn hR187 (by omega)) (fun _ => rfl) (by omega) (by omega) ?_)
   intro A191 c192 w193 hk194 hO195 hN196
   have hz197 := hk194.size
   have hS199 := hR187.step hk194 (fun i_ hi_ e' => by have := hm110.base_le e'; omega)
   rw [List.nil_append] at hO195
   have hd200 : Dj A191 A89 := fun b_ e' h' => (hN196 b_ e').elim (fun h => (fun b_ h h' => hd112 b_ h' h) b_ (h.trans e') h') (fun h => by have := hm109.base_le h'; omega)
   refine Qn ⟨hS199, _, rfl, (Ak 14 rfl hS199 (fun w' hw' => r_build (vs := [(0, .slice A89 (0 + nx1) c90), (1, .slice A191 (0 + nx2) c192), (2, .int .i64 x.Bought), (3, .int .i64 x.Dropped), (4, .int .i64 x.Mended)]) rfl (bld34_0_1_2_3_4 _ _ _ _ _ _ _ _ _)) <| Ab 15 rfl (Qw (o := 0) (vs := [.slice A89 (0 + nx1) c90, .slice A191 (0 + nx2) c192, .int .i64 x.Bought, .int .i64 x.Dropped, .int .i64 x.Mended]) agg34.2 rfl rfl rfl rfl (hm111.kp hk194 (fun e' => by have := hm110.base_le e'; omega)) ler rfl ?_))⟩
   intro w201 hk202 hs203 hb204
   have hS207 := hS199.step hk202 (fun _ _ e => e)
   refine Qn ⟨hS207, _, rfl, (AH.done (by kernel_rfl) (⟨g79, A89, c90, g100, A191, c192, ⟨rfl, trivial⟩, hS207, (((hm109.kp hk194 (fun b_ hb e' => hd112 b_ hb e')).kn hk202).down), ((hO195.kn hk202).down), hb204, (fun b_ h h' => hd200 b_ h' h)⟩))⟩
  refine AH.via #[true, true, true, false, true, true, true, false, true, true, true, true, true, true, false, false] 4 (fun f' w' => ∃ (g79 : Nat) (g138 : Nat), At f' [(2, .pointer (pA g9)), (3, .slice (pA g79) 0 0), (5, .slice Ax1 nx1 cx1), (7, .slice (pA g138) 0 0), (9, .slice Ax2 nx2 cx2), (12, .int .i64 x.Bought), (14, .int .i64 x.Dropped), (16, .int .i64 x.Mended)] ∧ (Kp (fun b_ => b_ = g9) w10 w') ∧ (SlO w' w10.heap.size encLMap 3 102 (pA g79) 0 0 ([] : List LMap)) ∧ (SlO w' w10.heap.size encAway 2 129 (pA g138) 0 0 ([] : List Away)) ∧ (Blk w' g9 34 [.slice none 0 0, .slice none 0 0, .int .i64 0, .int .i64 0, .int .i64 0]) ∧ (∀ b_, (pA g79) = some ⟨b_, 0, none⟩ → ¬ (pA g138) = some ⟨b_, 0, none⟩)) ?_ (fun hn209 => ?_)
  ·rintro f210 w211 ⟨g79, g138, hat213, hR212, hm147, hm148, hm149, hd150⟩
   rw [← sets_of_at hat213]
   have hz214 := hR212.size
   refine Ab 3 rfl (SR.app tel31 rfl rfl hm147 (hm17.kn hR212 (by omega)) (fun _ => rfl) (by omega) (by omega) ?_)
   intro A216 c217 w218 hk219 hO220 hN221
   have hz222 := hk219.size
   have hS224 := hR212.step hk219 (fun i_ hi_ e' => by have := hm147.base_le e'; omega)
   rw [List.nil_append] at hO220
   have hd225 : ∀ b_, A216 = some ⟨b_, 0, none⟩ → ¬ (pA g138) = some ⟨b_, 0, none⟩ := fun b_ e' h' => (hN221 b_ e').elim (fun h => hd150 b_ (h.trans e') h') (fun h => by have := hm148.base_le h'; omega)
   refine Qn ⟨hS224, _, rfl, (AH.goto (by kernel_rfl) rfl (hn184 _ _ (⟨g79, A216, c217, g138, (At.r rfl), hS224, (hO220.down), ((hm148.kp hk219 (fun b_ hb e' => hd150 b_ e' hb)).down), (hm149.kp hk219 (fun e' => by have := hm147.base_le e'; omega)), hd225⟩)))⟩
  refine Ak 1 rfl (kr hk181) (fun w' hw' => fA fa34_0 rfl) <| Ak 2 rfl (kr hk181) (fun w' hw' => r_ld (v := .slice Ax1 nx1 cx1) sca31 rfl (((hb6.lo hk12).kn hw' (by omega)).cell rfl)) <| Ak 5 rfl (kr hk181) (fun w' hw' => fA fa34_1 rfl) <| Ak 6 rfl (kr hk181) (fun w' hw' => r_ld (v := .slice Ax2 nx2 cx2) sca32 rfl (((hb6.lo hk12).kn hw' (by omega)).cell rfl)) <| Ak 8 rfl (kr hk181) (fun w' hw' => fA fa34_2 rfl) <| Ak 9 rfl (kr hk181) (fun w' hw' => r_ld (v := .int .i64 x.Bought) sca3 rfl (((hb6.lo hk12).kn hw' (by omega)).cell rfl)) <| Ak 10 rfl (kr hk181) (fun w' hw' => fA fa34_3 rfl) <| Ak 11 rfl (kr hk181) (fun w' hw' => r_ld (v := .int .i64 x.Dropped) sca3 rfl (((hb6.lo hk12).kn hw' (by omega)).cell rfl)) <| Ak 12 rfl (kr hk181) (fun w' hw' => fA fa34_4 rfl) <| Ak 13 rfl (kr hk181) (fun w' hw' => r_ld (v := .int .i64 x.Mended) sca3 rfl (((hb6.lo hk12).kn hw' (by omega)).cell rfl)) <| AH.br [0, 4] (by kernel_rfl) rfl ⟨Br.mk' rfl trivial ?_, Br.mk' rfl trivial ?_, trivial⟩
  ·refine SR.lit (vs := []) (L := ([] : List LMap)) (enc := encLMap) tel31 (fun _ => rfl) rfl rfl rfl (by decide) ?_
   intro g227 w228 hg229 hk230 hO231
   have hz232 := hk230.size
   have hS234 := ((Kp.refl w10 : Kp (fun b_ => b_ = g9) w10 w10).lo hk181).lo hk230
   refine Qn ⟨hS234, _, rfl, (AH.br [3, 4] (by kernel_rfl) rfl ⟨Br.mk' rfl trivial ?_, Br.mk' rfl trivial ?_, trivial⟩)⟩
   ·refine SR.app tel31 rfl rfl hO231 ((hm17.lo hk181).lo hk230) (fun _ => rfl) (by omega) (by omega) ?_
    intro A235 c236 w237 hk238 hO239 hN240
    have hz241 := hk238.size
    have hS243 := hS234.step hk238 (fun i_ hi_ e' => by have := hO231.base_le e'; omega)
    rw [List.nil_append] at hO239
    refine Qn ⟨hS243, _, rfl, (Ab 4 rfl (SR.lit (vs := []) (L := ([] : List Away)) (enc := encAway) tel32 (fun _ => rfl) rfl rfl rfl (by decide) ?_))⟩
    intro g244 w245 hg246 hk247 hO248
    have hz249 := hk247.size
    have hS251 := hS243.lo hk247
    refine Qn ⟨hS251, _, rfl, (AH.goto (by kernel_rfl) rfl (hn184 _ _ (⟨g227, A235, c236, g244, (At.r rfl), hS251, ((hO239.lo hk247).down), (hO248.down), ((((hb14.lo hk181).lo hk230).kp hk238 (fun e' => by have := hO231.base_le e'; omega)).lo hk247), (fun b_ h h' => (SlO.ne (g := g244) hO239) (h.trans h'.symm))⟩)))⟩
   ·refine SR.lit (vs := []) (L := ([] : List Away)) (enc := encAway) tel32 (fun _ => rfl) rfl rfl rfl (by decide) ?_
    intro g254 w255 hg256 hk257 hO258
    have hz259 := hk257.size
    have hS261 := hS234.lo hk257
    refine Qn ⟨hS261, _, rfl, (AH.goto (by kernel_rfl) rfl (hn209 _ _ (⟨g227, g254, (At.r rfl), hS261, ((hO231.lo hk257).down), (hO258.down), (((hb14.lo hk181).lo hk230).lo hk257), (fun b_ h h' => (SlO.ne (g := g254) hO231) (h.trans h'.symm))⟩)))⟩
  ·refine SR.lit (vs := []) (L := ([] : List Away)) (enc := encAway) tel32 (fun _ => rfl) rfl rfl rfl (by decide) ?_
   intro g264 w265 hg266 hk267 hO268
   have hz269 := hk267.size
   have hS271 := ((Kp.refl w10 : Kp (fun b_ => b_ = g9) w10 w10).lo hk181).lo hk267
   refine Qn ⟨hS271, _, rfl, (Ab 0 rfl (SR.lit (vs := []) (L := ([] : List LMap)) (enc := encLMap) tel31 (fun _ => rfl) rfl rfl rfl (by decide) ?_))⟩
   intro g272 w273 hg274 hk275 hO276
   have hz277 := hk275.size
   have hS279 := hS271.lo hk275
   refine Qn ⟨hS279, _, rfl, (AH.goto (by kernel_rfl) rfl (hn209 _ _ (⟨g272, g264, (At.r rfl), hS279, (hO276.down), ((hO268.lo hk275).down), (((hb14.lo hk181).lo hk267).lo hk275), (fun b_ h h' => (SlO.ne (g := g272) hO268) (h'.trans h.symm))⟩)))⟩
 rintro f282 w283 ⟨g79, A89, c90, g100, A113, c114, hat285, hR284, hm134, hm135, hm136, hd137⟩
 rw [← sets_of_at hat285]
 have hz286 := hR284.size
 refine W.ret (retC rfl rfl agg34 hm136 rfl (⟨A89, 0 + nx1, c90, A113, 0 + nx2, c114, eR rfl, (hm134.down), (hm135.down), hd137, ((((Lo.refl w).lo hk4).lo hk12).new hR284 (by omega))⟩))
theorem c__impl_Library__awayAt (w : World) (x : Library) {Ax1 : Option Addr} {nx1 cx1 Bx1 : Nat} (hx1 : SlR w Bx1 encLMap 3 Ax1 nx1 cx1 x.Maps) {Ax2 : Option Addr} {nx2 cx2 Bx2 : Nat} (hx2 : SlR w Bx2 encAway 2 Ax2 nx2 cx2 x.Away) (id : Int) (r : Int) (hp0 : (nx2 : Int) ≤ 1048576) : Calls Tryz.prog 209 #[.agg (List.toArray (cLb Ax1 nx1 cx1 Ax2 nx2 cx2 x)), .int .i64 id, .int .i64 r] w fun e w' => e = .returned (.tuple (List.toArray [.int .i64 (bsP cmpA (⟨id, r⟩ : Away) x.Away : Int), .bool (decide (bsF cmpA (⟨id, r⟩ : Away) x.Away))])) ∧ Lo w w' := by
 refine calls_W 16 Tryz.func209 rfl rfl rfl ?_
 have hbdx1 := hx1.bound
 have hlex1 := hx1.len
 have hBbx1 := hx1.bd
 have hbdx2 := hx2.bound
 have hlex2 := hx2.len
 have hBbx2 := hx2.bd
 refine Ws (Wr (SR.box (v := .agg (List.toArray _)) (l := (cLb Ax1 nx1 cx1 Ax2 nx2 cx2 x)) rfl rfl ?_))
 intro g1 w2 hg3 hk4 hs5 hb6
 refine Q (aI rfl) <| Q (aB rfl) <| Qn (Ws (Wr (Q (fA fa34_1 rfl) <| Q (lB sca32 rfl hb6 rfl) <| Q (mI rfl) <| Q (mI rfl) <| Q (r_build (vs := [(0, .int .i64 id), (1, .int .i64 r)]) rfl (bld129_0_1 _ _)) <| Qv ent227 (c_slices_BinarySearchFunc___impl_Away_impl_Away_impl_Away_ w2 x.Away (hx2.lo hk4) (⟨id, r⟩ : Away) (fun (u_ : Away) (v_ : Away) => cmpA u_ v_) ⟨ent123, fun w'' hw'' x y => (c_impl_compareAway w'' x y).mono fun _ _ h => ⟨h.1, h.2⟩⟩ (by omega)) rfl fun w9 hk10 hz11 => ?_)))
 have hq13 : bsP (fun (u_ : Away) (v_ : Away) => cmpA u_ v_) (⟨id, r⟩ : Away) x.Away ≤ x.Away.length := bsP_le
 refine Q (xI rfl rfl) <| Q (xB rfl rfl) <| Q (aI rfl) <| Q (aB rfl) <| Qn (W.ret (ret2 rfl (v := .int .i64 _) (v' := .bool _) rfl rfl (⟨eR (eT2 (eI (by rfl)) (eDD (by exact Iff.rfl))), (((Lo.refl w).lo hk4).lo hk10)⟩)))
open Classical in
noncomputable def impl_Library_buy (x : Library) (s : LibraryStep) : Library :=
 if bsF cmpM s.Id x.Maps then (⟨x.Maps.set ((bsP cmpM s.Id x.Maps : Int).toNat) ({ (gt x.Maps ((bsP cmpM s.Id x.Maps : Int).toNat)) with Copies := IntKind.i64.wrap (((gt x.Maps ((bsP cmpM s.Id x.Maps : Int).toNat)).Copies) + s.Value) }), x.Away, IntKind.i64.wrap (x.Bought + s.Value), x.Dropped, x.Mended⟩ : Library) else (⟨(x.Maps.take (bsP cmpM s.Id x.Maps : Int).toNat ++ ([(⟨s.Id, 0, 0⟩ : LMap)] : List LMap) ++ x.Maps.drop (bsP cmpM s.Id x.Maps : Int).toNat).set ((bsP cmpM s.Id x.Maps : Int).toNat) ({ (gt (x.Maps.take (bsP cmpM s.Id x.Maps : Int).toNat ++ ([(⟨s.Id, 0, 0⟩ : LMap)] : List LMap) ++ x.Maps.drop (bsP cmpM s.Id x.Maps : Int).toNat) ((bsP cmpM s.Id x.Maps : Int).toNat)) with Copies := IntKind.i64.wrap (((gt (x.Maps.take (bsP cmpM s.Id x.Maps : Int).toNat ++ ([(⟨s.Id, 0, 0⟩ : LMap)] : List LMap) ++ x.Maps.drop (bsP cmpM s.Id x.Maps : Int).toNat) ((bsP cmpM s.Id x.Maps : Int).toNat)).Copies) + s.Value) }), x.Away, IntKind.i64.wrap (x.Bought + s.Value), x.Dropped, x.Mended⟩ : Library)
theorem c__impl_Library__buy (w : World) (x : Library) {Ax1 : Option Addr} {nx1 cx1 Bx1 : Nat} (hx1 : SlO w Bx1 encLMap 3 102 Ax1 nx1 cx1 x.Maps) {Ax2 : Option Addr} {nx2 cx2 Bx2 : Nat} (hx2 : SlO w Bx2 encAway 2 129 Ax2 nx2 cx2 x.Away) (s : LibraryStep) (hdx_Maps_x2 : Dj Ax1 Ax2) (hp0 : (nx1 : Int) ≤ 100) (hp1 : (nx2 : Int) ≤ 100) : Calls Tryz.prog 151 #[.agg (List.toArray (cLb Ax1 nx1 cx1 Ax2 nx2 cx2 x)), .agg (List.toArray (encLibraryStep s))] w fun e w' => ∃ (A1' : Option Addr) (n1' c1' : Nat) (A2' : Option Addr) (n2' c2' : Nat), e = .returned (.agg (List.toArray [.slice A1' n1' c1', .slice A2' n2' c2', .int .i64 ((impl_Library_buy x s).Bought), .int .i64 ((impl_Library_buy x s).Dropped), .int .i64 ((impl_Library_buy x s).Mended)])) ∧ SlO w' Bx1 encLMap 3 102 A1' n1' c1' ((impl_Library_buy x s).Maps) ∧ SlO w' Bx2 encAway 2 129 A2' n2' c2' ((impl_Library_buy x s).Away) ∧ Dj A1' A2' ∧ (∀ b_, A1' = some ⟨b_, 0, none⟩ → (Ax1 = some ⟨b_, 0, none⟩ ∨ Ax2 = some ⟨b_, 0, none⟩) ∨ w.heap.size ≤ b_) ∧ (∀ b_, A2' = some ⟨b_, 0, none⟩ → (Ax1 = some ⟨b_, 0, none⟩ ∨ Ax2 = some ⟨b_, 0, none⟩) ∨ w.heap.size ≤ b_) ∧ Kp (fun b_ => Ax1 = some ⟨b_, 0, none⟩ ∨ Ax2 = some ⟨b_, 0, none⟩) w w' := by
 refine calls_W 43 Tryz.func151 rfl rfl rfl ?_
 have hcpx1 := hx1.rd.cap
 have hbbx1 := hx1.rd.bd
 have hbdx1 := hx1.rd.bound
 have hlex1 := hx1.len
 have hBbx1 := hx1.bd
 have hcpx2 := hx2.rd.cap
 have hbbx2 := hx2.rd.bd
 have hbdx2 := hx2.rd.bound
 have hlex2 := hx2.len
 have hBbx2 := hx2.bd
 refine Ws (Wr (SR.box (v := .agg (List.toArray _)) (l := (cLb Ax1 nx1 cx1 Ax2 nx2 cx2 x)) rfl rfl ?_))
 intro g1 w2 hg3 hk4 hs5 hb6
 have hd9 := SlO.ne (g := g1) hx1
 have hd10 := SlO.ne (g := g1) hx2
 refine SR.box (v := .agg (List.toArray _)) (l := [.int .i64 s.Kind, .int .i64 s.Id, .int .i64 s.Reader, .int .i64 s.Value]) rfl rfl ?_
 intro g11 w12 hg13 hk14 hs15 hb16
 have hd19 := SlO.ne (g := g11) (hx1.lo hk4)
 refine SR.alloc (l := [.slice none 0 0, .slice none 0 0, .int .i64 0, .int .i64 0, .int .i64 0]) tz34 rfl ?_
 intro g21 w22 hg23 hk24 hs25 hb26
 have hd29 := SlO.ne (g := g21) ((hx1.lo hk4).lo hk14)
 have hd30 := SlO.ne (g := g21) ((hx2.lo hk4).lo hk14)
 refine Qn (Ws ?_)
 have hm31 := (hb6.lo hk14).lo hk24
 have hm32 := ((hx1.lo hk4).lo hk14).lo hk24
 have hm33 := ((hx2.lo hk4).lo hk14).lo hk24
 refine Wr (Q (lG agg34 rfl hm31 rfl) <| Q (fA fa106_1 rfl) <| Q (lB sca3 rfl (hb16.lo hk24) rfl) <| Qv ent121 (c__impl_Library__mapAt w22 x (hm32.rd) (hm33.rd) s.Id (by omega)) rfl fun w34 hk35 hz36 => ?_)
 have hB37 := ((((Kp.refl w : Kp (fun b_ => Ax1 = some ⟨b_, 0, none⟩ ∨ Ax2 = some ⟨b_, 0, none⟩) w w).lo hk4).lo hk14).lo hk24).lo hk35
 have hq38 : bsP cmpM s.Id x.Maps ≤ x.Maps.length := bsP_le
 refine Q (mT rfl) <| Q (xI rfl rfl) <| Q (xB rfl rfl) <| Q (aI rfl) <| Q (aB rfl) <| Qn (Ws (Ws ?_))
 have hm39 := (hb16.lo hk24).lo hk35
 refine Wr (Q (mB rfl) <| Q (r_not rfl) <| Qn (W.cond_n rfl (fun h40 => ?_) (fun h40 => ?_)))
 ·refine Wr (Q (fA fa34_0 rfl) <| Q (lB sca31 rfl (hm31.lo hk35) rfl) <| Q (mI rfl) <| Q (fA fa106_1 rfl) <| Q (lB sca3 rfl hm39 rfl) <| Q (r_build (vs := [(0, .int .i64 s.Id)]) rfl (bld102_0 _)) <| SR.lit (vs := [.agg (List.toArray [.int .i64 s.Id, .int .i64 0, .int .i64 0])]) (L := ([(⟨s.Id, 0, 0⟩ : LMap)] : List LMap)) (enc := encLMap) tel31 (fun _ => rfl) rfl rfl rfl (by decide) ?_)
  intro g41 w42 hg43 hk44 hO45
  have hz46 := hk44.size
  refine SR.call ent182 (c_slices_Insert___impl_Map_impl_Map_ w42 x.Maps ((hm32.lo hk35).lo hk44) (bsP cmpM s.Id x.Maps : Int) ([(⟨s.Id, 0, 0⟩ : LMap)] : List LMap) hO45 (by omega) (by omega) (by omega) (fun b_ h h' => (SlO.ne (g := g41) (hm32.lo hk35)) (h'.trans h.symm))) rfl ?_
  rintro e w50 ⟨A52, n53, c54, rfl, hO55, hN56, hk51⟩
  refine ⟨_, rfl, ?_⟩
  have hz57 := hk51.size
  have hd59 : Dj A52 Ax2 := fun b_ e' h' => (hN56 b_ e').elim (fun h => hdx_Maps_x2 b_ h h') (fun h => by have := ((hm33.lo hk35).lo hk44).base_le h'; omega)
  have hd61 : ¬ A52 = some ⟨g1, 0, none⟩ := fun e' => (hN56 g1 e').elim (fun h => hd9 h) (fun h => by have := ((hm31.lo hk35).lo hk44).lt; omega)
  have hd62 : ¬ A52 = some ⟨g11, 0, none⟩ := fun e' => (hN56 g11 e').elim (fun h => hd19 h) (fun h => by have := (hm39.lo hk44).lt; omega)
  have hd63 : ¬ A52 = some ⟨g21, 0, none⟩ := fun e' => (hN56 g21 e').elim (fun h => hd29 h) (fun h => by have := ((hb26.lo hk35).lo hk44).lt; omega)
  have hl64 := hO55.len
  have hl65 := hO55.rd.bound
  have hq66 := ins_len1 x.Maps (⟨s.Id, 0, 0⟩ : LMap) ((bsP cmpM s.Id x.Maps : Int).toNat)
  refine Q (fA fa34_0 rfl) <| Qw (o := 0) (vs := [.slice A52 n53 c54]) sca31.2 rfl rfl rfl rfl (((hm31.lo hk35).lo hk44).kp hk51 (fun e' => hd9 e')) ler rfl ?_
  intro w67 hk68 hs69 hb70
  refine Qn (Ws ?_)
  have hm74 := ((hm39.lo hk44).kp hk51 (fun e' => hd19 e')).kn hk68
  refine W.regA (Kp (KA A52) w67) (fun f' w' => At f' [(2, .pointer (pA g1)), (3, .pointer (pA g11)), (4, .pointer (pA g21))] ∧ (Kp (KA A52) w67 w') ∧ (SlO w' Bx1 encLMap 3 102 A52 n53 c54 ((x.Maps.take (bsP cmpM s.Id x.Maps : Int).toNat ++ ([(⟨s.Id, 0, 0⟩ : LMap)] : List LMap) ++ x.Maps.drop (bsP cmpM s.Id x.Maps : Int).toNat).set ((bsP cmpM s.Id x.Maps : Int).toNat) ({ (gt (x.Maps.take (bsP cmpM s.Id x.Maps : Int).toNat ++ ([(⟨s.Id, 0, 0⟩ : LMap)] : List LMap) ++ x.Maps.drop (bsP cmpM s.Id x.Maps : Int).toNat) ((bsP cmpM s.Id x.Maps : Int).toNat)) with Copies := IntKind.i64.wrap (((gt (x.Maps.take (bsP cmpM s.Id x.Maps : Int).toNat ++ ([(⟨s.Id, 0, 0⟩ : LMap)] : List LMap) ++ x.Maps.drop (bsP cmpM s.Id x.Maps : Int).toNat) ((bsP cmpM s.Id x.Maps : Int).toNat)).Copies) + s.Value) }))) ∧ ((x.Maps.take (bsP cmpM s.Id x.Maps : Int).toNat ++ ([(⟨s.Id, 0, 0⟩ : LMap)] : List LMap) ++ x.Maps.drop (bsP cmpM s.Id x.Maps : Int).toNat)[(bsP cmpM s.Id x.Maps : Int).toNat]? = some (gt (x.Maps.take (bsP cmpM s.Id x.Maps : Int).toNat ++ ([(⟨s.Id, 0, 0⟩ : LMap)] : List LMap) ++ x.Maps.drop (bsP cmpM s.Id x.Maps : Int).toNat) ((bsP cmpM s.Id x.Maps : Int).toNat))) ∧ (((x.Maps.take (bsP cmpM s.Id x.Maps : Int).toNat ++ ([(⟨s.Id, 0, 0⟩ : LMap)] : List LMap) ++ x.Maps.drop (bsP cmpM s.Id x.Maps : Int).toNat).set ((bsP cmpM s.Id x.Maps : Int).toNat) ({ (gt (x.Maps.take (bsP cmpM s.Id x.Maps : Int).toNat ++ ([(⟨s.Id, 0, 0⟩ : LMap)] : List LMap) ++ x.Maps.drop (bsP cmpM s.Id x.Maps : Int).toNat) ((bsP cmpM s.Id x.Maps : Int).toNat)) with Copies := IntKind.i64.wrap (((gt (x.Maps.take (bsP cmpM s.Id x.Maps : Int).toNat ++ ([(⟨s.Id, 0, 0⟩ : LMap)] : List LMap) ++ x.Maps.drop (bsP cmpM s.Id x.Maps : Int).toNat) ((bsP cmpM s.Id x.Maps : Int).toNat)).Copies) + s.Value) }))[(bsP cmpM s.Id x.Maps : Int).toNat]? = some ({ (gt (x.Maps.take (bsP cmpM s.Id x.Maps : Int).toNat ++ ([(⟨s.Id, 0, 0⟩ : LMap)] : List LMap) ++ x.Maps.drop (bsP cmpM s.Id x.Maps : Int).toNat) ((bsP cmpM s.Id x.Maps : Int).toNat)) with Copies := IntKind.i64.wrap (((gt (x.Maps.take (bsP cmpM s.Id x.Maps : Int).toNat ++ ([(⟨s.Id, 0, 0⟩ : LMap)] : List LMap) ++ x.Maps.drop (bsP cmpM s.Id x.Maps : Int).toNat) ((bsP cmpM s.Id x.Maps : Int).toNat)).Copies) + s.Value) }))) mo ?_ ?_
  ·intro w108 hk109
   have hz110 := hk109.size
   refine Ak 0 rfl ((Kp.refl w67 : Kp (KA A52) w67 w67).lo hk109) (fun w' hw' => fA fa34_0 rfl) <| Ak 1 rfl ((Kp.refl w67 : Kp (KA A52) w67 w67).lo hk109) (fun w' hw' => r_ld (v := .slice A52 n53 c54) sca31 rfl ((hb70.kp hw' (fun e' => hd61 e')).cell rfl)) <| Ak 2 rfl ((Kp.refl w67 : Kp (KA A52) w67 w67).lo hk109) (fun w' hw' => r_mv (v := .int .i64 _) rfl) <| ?_
   have hx113 := (((hO55.kd hk68 hd61).lo hk109).rd).elem (i := (bsP cmpM s.Id x.Maps : Int).toNat) (by omega)
   refine Ak 6 rfl ((Kp.refl w67 : Kp (KA A52) w67 w67).lo hk109) (fun w' hw' => fA fa106_3 rfl) <| Ak 7 rfl ((Kp.refl w67 : Kp (KA A52) w67 w67).lo hk109) (fun w' hw' => r_ld (v := .int .i64 s.Value) sca3 rfl ((hm74.kp hw' (fun e' => hd62 e')).cell rfl)) <| Ab 3 rfl (Q (r_ixR tsl31 (((hO55.kd hk68 hd61).lo hk109).rd) rfl rfl (by omega)) (Qn ⟨(Kp.refl w67 : Kp (KA A52) w67 w67).lo hk109, _, rfl, (Ak 4 rfl ((Kp.refl w67 : Kp (KA A52) w67 w67).lo hk109) (fun w' hw' => fA fa102_1 rfl) <| Ab 5 rfl (Q (r_ld (v := .int .i64 ((gt (x.Maps.take (bsP cmpM s.Id x.Maps : Int).toNat ++ ([(⟨s.Id, 0, 0⟩ : LMap)] : List LMap) ++ x.Maps.drop (bsP cmpM s.Id x.Maps : Int).toNat) ((bsP cmpM s.Id x.Maps : Int).toNat)).Copies)) sca3 rfl ((((hO55.kd hk68 hd61).lo hk109).rd).cell hx113 rfl)) (Qn ⟨(Kp.refl w67 : Kp (KA A52) w67 w67).lo hk109, _, rfl, (Ak 8 rfl ((Kp.refl w67 : Kp (KA A52) w67 w67).lo hk109) (fun w' hw' => r_addW rfl rfl) <| Ab 9 rfl (Q (r_ixR tsl31 (((hO55.kd hk68 hd61).lo hk109).rd) rfl rfl (by omega)) (Qn ⟨(Kp.refl w67 : Kp (KA A52) w67 w67).lo hk109, _, rfl, (Ak 10 rfl ((Kp.refl w67 : Kp (KA A52) w67 w67).lo hk109) (fun w' hw' => fA fa102_1 rfl) <| Ab 11 rfl (SR.storeO (o := 1) (vs := [.int .i64 (IntKind.i64.wrap (((gt (x.Maps.take (bsP cmpM s.Id x.Maps : Int).toNat ++ ([(⟨s.Id, 0, 0⟩ : LMap)] : List LMap) ++ x.Maps.drop (bsP cmpM s.Id x.Maps : Int).toNat) ((bsP cmpM s.Id x.Maps : Int).toNat)).Copies) + s.Value))]) (x1 := { (gt (x.Maps.take (bsP cmpM s.Id x.Maps : Int).toNat ++ ([(⟨s.Id, 0, 0⟩ : LMap)] : List LMap) ++ x.Maps.drop (bsP cmpM s.Id x.Maps : Int).toNat) ((bsP cmpM s.Id x.Maps : Int).toNat)) with Copies := IntKind.i64.wrap (((gt (x.Maps.take (bsP cmpM s.Id x.Maps : Int).toNat ++ ([(⟨s.Id, 0, 0⟩ : LMap)] : List LMap) ++ x.Maps.drop (bsP cmpM s.Id x.Maps : Int).toNat) ((bsP cmpM s.Id x.Maps : Int).toNat)).Copies) + s.Value) }) sca3.2 rfl (add_add _ _ _) rfl rfl ((hO55.kd hk68 hd61).lo hk109) hx113 rfl ler rfl ?_))⟩)))⟩)))⟩))
   intro w114 hk115 hs116 hO117
   have hz118 := hk115.size
   have hS120 := ((Kp.refl w67 : Kp (KA A52) w67 w67).lo hk109).step hk115 (fun _ _ e => e)
   have hx121 : ((x.Maps.take (bsP cmpM s.Id x.Maps : Int).toNat ++ ([(⟨s.Id, 0, 0⟩ : LMap)] : List LMap) ++ x.Maps.drop (bsP cmpM s.Id x.Maps : Int).toNat).set ((bsP cmpM s.Id x.Maps : Int).toNat) ({ (gt (x.Maps.take (bsP cmpM s.Id x.Maps : Int).toNat ++ ([(⟨s.Id, 0, 0⟩ : LMap)] : List LMap) ++ x.Maps.drop (bsP cmpM s.Id x.Maps : Int).toNat) ((bsP cmpM s.Id x.Maps : Int).toNat)) with Copies := IntKind.i64.wrap (((gt (x.Maps.take (bsP cmpM s.Id x.Maps : Int).toNat ++ ([(⟨s.Id, 0, 0⟩ : LMap)] : List LMap) ++ x.Maps.drop (bsP cmpM s.Id x.Maps : Int).toNat) ((bsP cmpM s.Id x.Maps : Int).toNat)).Copies) + s.Value) }))[(bsP cmpM s.Id x.Maps : Int).toNat]? = some ({ (gt (x.Maps.take (bsP cmpM s.Id x.Maps : Int).toNat ++ ([(⟨s.Id, 0, 0⟩ : LMap)] : List LMap) ++ x.Maps.drop (bsP cmpM s.Id x.Maps : Int).toNat) ((bsP cmpM s.Id x.Maps : Int).toNat)) with Copies := IntKind.i64.wrap (((gt (x.Maps.take (bsP cmpM s.Id x.Maps : Int).toNat ++ ([(⟨s.Id, 0, 0⟩ : LMap)] : List LMap) ++ x.Maps.drop (bsP cmpM s.Id x.Maps : Int).toNat) ((bsP cmpM s.Id x.Maps : Int).toNat)).Copies) + s.Value) }) := List.getElem?_set_self (List.getElem?_eq_some_iff.1 hx113).1
   refine Qn ⟨hS120, _, rfl, (AH.done (by kernel_rfl) (⟨(At.r rfl), hS120, hO117, hx113, hx121⟩))⟩
  rintro f122 w123 ⟨hat125, hR124, hm107, hx94, hx106⟩
  rw [← sets_of_at hat125]
  have hz126 := hR124.size
  have hB127 := (((hB37.lo hk44).step hk51 (fun i_ hi_ e' => by have := ((hm32.lo hk35).lo hk44).base_le e'; first | omega | exact e' | exact .inl e' | exact .inr e')).new hk68).step hR124 (fun i_ hi_ e' => ((show ∀ b_, A52 = some ⟨b_, 0, none⟩ → (Ax1 = some ⟨b_, 0, none⟩ ∨ Ax2 = some ⟨b_, 0, none⟩) ∨ w.heap.size ≤ b_ from (fun b_ h_ => (hN56 b_ h_).elim (fun h => ((show ∀ b_, Ax1 = some ⟨b_, 0, none⟩ → (Ax1 = some ⟨b_, 0, none⟩ ∨ Ax2 = some ⟨b_, 0, none⟩) ∨ w.heap.size ≤ b_ from (fun b_ h_ => .inl (.inl h_))) b_ h)) (fun h => .inr (by omega)))) i_ e').elim (fun e_ => e_) (fun e_ => by omega))
  refine Ws (Wr (Q (fA fa34_2 rfl) <| Q (lB sca3 rfl (hb70.kp hR124 (fun e' => hd61 e')) rfl) <| Q (fA fa106_3 rfl) <| Q (lB sca3 rfl (hm74.kp hR124 (fun e' => hd62 e')) rfl) <| Q (r_addW rfl rfl) <| Q (fA fa34_2 rfl) <| Qw (o := 2) (vs := [.int .i64 (IntKind.i64.wrap (x.Bought + s.Value))]) sca3.2 rfl rfl rfl rfl (hb70.kp hR124 (fun e' => hd61 e')) ler rfl ?_))
  intro w128 hk129 hs130 hb131
  refine Qn (Ws (Wr (Q (lG agg34 rfl hb131 rfl) <| Qw (o := 0) (vs := [.slice A52 n53 c54, .slice Ax2 nx2 cx2, .int .i64 (IntKind.i64.wrap (x.Bought + s.Value)), .int .i64 x.Dropped, .int .i64 x.Mended]) agg34.2 rfl rfl rfl rfl ((((((hb26.lo hk35).lo hk44).kp hk51 (fun e' => hd29 e')).kn hk68).kp hR124 (fun e' => hd63 e')).kn hk129) ler rfl ?_)))
  intro w136 hk137 hs138 hb139
  refine Qn (W.ret (retC rfl rfl agg34 hb139 rfl ?_))
  refine ⟨A52, n53, c54, Ax2, nx2, cx2, eR (eA (eC rfl (eC rfl (eC (eI ?_) (eC (eI ?_) (eC (eI ?_) rfl)))))), (SlO.eqv ((hm107.kd hk129 hd61).kd hk137 hd63) ?_), (SlO.eqv (((((((hm33.lo hk35).lo hk44).kp hk51 (fun b_ hb e' => hdx_Maps_x2 b_ e' hb)).kd hk68 hd10).kp hR124 (fun b_ hb e' => hd59 b_ e' hb)).kd hk129 hd10).kd hk137 hd30) ?_), hd59, (fun b_ h_ => (hN56 b_ h_).elim (fun h => ((show ∀ b_, Ax1 = some ⟨b_, 0, none⟩ → (Ax1 = some ⟨b_, 0, none⟩ ∨ Ax2 = some ⟨b_, 0, none⟩) ∨ w.heap.size ≤ b_ from (fun b_ h_ => .inl (.inl h_))) b_ h)) (fun h => .inr (by omega))), (fun b_ h_ => .inl (.inr h_)), ((hB127.new hk129).new hk137)⟩ <;> (subst hlex2 hl64; unfold impl_Library_buy; rw [if_neg h40] <;> rfl)
 ·have hq142 := And.left h40
  have hq143 := And.left h40
  refine W.skip (Ws (W.regA (Kp (KA Ax1) w34) (fun f' w' => At f' [(2, .pointer (pA g1)), (3, .pointer (pA g11)), (4, .pointer (pA g21))] ∧ (Kp (KA Ax1) w34 w') ∧ (SlO w' Bx1 encLMap 3 102 Ax1 nx1 cx1 (x.Maps.set ((bsP cmpM s.Id x.Maps : Int).toNat) ({ (gt x.Maps ((bsP cmpM s.Id x.Maps : Int).toNat)) with Copies := IntKind.i64.wrap (((gt x.Maps ((bsP cmpM s.Id x.Maps : Int).toNat)).Copies) + s.Value) }))) ∧ (x.Maps[(bsP cmpM s.Id x.Maps : Int).toNat]? = some (gt x.Maps ((bsP cmpM s.Id x.Maps : Int).toNat))) ∧ ((x.Maps.set ((bsP cmpM s.Id x.Maps : Int).toNat) ({ (gt x.Maps ((bsP cmpM s.Id x.Maps : Int).toNat)) with Copies := IntKind.i64.wrap (((gt x.Maps ((bsP cmpM s.Id x.Maps : Int).toNat)).Copies) + s.Value) }))[(bsP cmpM s.Id x.Maps : Int).toNat]? = some ({ (gt x.Maps ((bsP cmpM s.Id x.Maps : Int).toNat)) with Copies := IntKind.i64.wrap (((gt x.Maps ((bsP cmpM s.Id x.Maps : Int).toNat)).Copies) + s.Value) }))) mo ?_ ?_))
  ·intro w176 hk177
   have hz178 := hk177.size
   refine Ak 0 rfl ((Kp.refl w34 : Kp (KA Ax1) w34 w34).lo hk177) (fun w' hw' => fA fa34_0 rfl) <| Ak 1 rfl ((Kp.refl w34 : Kp (KA Ax1) w34 w34).lo hk177) (fun w' hw' => r_ld (v := .slice Ax1 nx1 cx1) sca31 rfl (((hm31.lo hk35).kp hw' (fun e' => hd9 e')).cell rfl)) <| Ak 2 rfl ((Kp.refl w34 : Kp (KA Ax1) w34 w34).lo hk177) (fun w' hw' => r_mv (v := .int .i64 _) rfl) <| ?_
   have hx181 := (((hm32.lo hk35).lo hk177).rd).elem (i := (bsP cmpM s.Id x.Maps : Int).toNat) (by omega)
   refine Ak 6 rfl ((Kp.refl w34 : Kp (KA Ax1) w34 w34).lo hk177) (fun w' hw' => fA fa106_3 rfl) <| Ak 7 rfl ((Kp.refl w34 : Kp (KA Ax1) w34 w34).lo hk177) (fun w' hw' => r_ld (v := .int .i64 s.Value) sca3 rfl ((hm39.kp hw' (fun e' => hd19 e')).cell rfl)) <| Ab 3 rfl (Q (r_ixR tsl31 (((hm32.lo hk35).lo hk177).rd) rfl rfl (by omega)) (Qn ⟨(Kp.refl w34 : Kp (KA Ax1) w34 w34).lo hk177, _, rfl, (Ak 4 rfl ((Kp.refl w34 : Kp (KA Ax1) w34 w34).lo hk177) (fun w' hw' => fA fa102_1 rfl) <| Ab 5 rfl (Q (r_ld (v := .int .i64 ((gt x.Maps ((bsP cmpM s.Id x.Maps : Int).toNat)).Copies)) sca3 rfl ((((hm32.lo hk35).lo hk177).rd).cell hx181 rfl)) (Qn ⟨(Kp.refl w34 : Kp (KA Ax1) w34 w34).lo hk177, _, rfl, (Ak 8 rfl ((Kp.refl w34 : Kp (KA Ax1) w34 w34).lo hk177) (fun w' hw' => r_addW rfl rfl) <| Ab 9 rfl (Q (r_ixR tsl31 (((hm32.lo hk35).lo hk177).rd) rfl rfl (by omega)) (Qn ⟨(Kp.refl w34 : Kp (KA Ax1) w34 w34).lo hk177, _, rfl, (Ak 10 rfl ((Kp.refl w34 : Kp (KA Ax1) w34 w34).lo hk177) (fun w' hw' => fA fa102_1 rfl) <| Ab 11 rfl (SR.storeO (o := 1) (vs := [.int .i64 (IntKind.i64.wrap (((gt x.Maps ((bsP cmpM s.Id x.Maps : Int).toNat)).Copies) + s.Value))]) (x1 := { (gt x.Maps ((bsP cmpM s.Id x.Maps : Int).toNat)) with Copies := IntKind.i64.wrap (((gt x.Maps ((bsP cmpM s.Id x.Maps : Int).toNat)).Copies) + s.Value) }) sca3.2 rfl (add_add _ _ _) rfl rfl ((hm32.lo hk35).lo hk177) hx181 rfl ler rfl ?_))⟩)))⟩)))⟩))
   intro w182 hk183 hs184 hO185
   have hz186 := hk183.size
   have hS188 := ((Kp.refl w34 : Kp (KA Ax1) w34 w34).lo hk177).step hk183 (fun _ _ e => e)
   have hx189 : (x.Maps.set ((bsP cmpM s.Id x.Maps : Int).toNat) ({ (gt x.Maps ((bsP cmpM s.Id x.Maps : Int).toNat)) with Copies := IntKind.i64.wrap (((gt x.Maps ((bsP cmpM s.Id x.Maps : Int).toNat)).Copies) + s.Value) }))[(bsP cmpM s.Id x.Maps : Int).toNat]? = some ({ (gt x.Maps ((bsP cmpM s.Id x.Maps : Int).toNat)) with Copies := IntKind.i64.wrap (((gt x.Maps ((bsP cmpM s.Id x.Maps : Int).toNat)).Copies) + s.Value) }) := List.getElem?_set_self (List.getElem?_eq_some_iff.1 hx181).1
   refine Qn ⟨hS188, _, rfl, (AH.done (by kernel_rfl) (⟨(At.r rfl), hS188, hO185, hx181, hx189⟩))⟩
  rintro f190 w191 ⟨hat193, hR192, hm175, hx162, hx174⟩
  rw [← sets_of_at hat193]
  have hz194 := hR192.size
  refine Ws ?_
  have hm196 := (hm31.lo hk35).kp hR192 (fun e' => hd9 e')
  refine Wr (Q (fA fa34_2 rfl) <| Q (lB sca3 rfl hm196 rfl) <| Q (fA fa106_3 rfl) <| Q (lB sca3 rfl (hm39.kp hR192 (fun e' => hd19 e')) rfl) <| Q (r_addW rfl rfl) <| Q (fA fa34_2 rfl) <| Qw (o := 2) (vs := [.int .i64 (IntKind.i64.wrap (x.Bought + s.Value))]) sca3.2 rfl rfl rfl rfl hm196 ler rfl ?_)
  intro w199 hk200 hs201 hb202
  refine Qn (Ws (Wr (Q (lG agg34 rfl hb202 rfl) <| Qw (o := 0) (vs := [.slice Ax1 nx1 cx1, .slice Ax2 nx2 cx2, .int .i64 (IntKind.i64.wrap (x.Bought + s.Value)), .int .i64 x.Dropped, .int .i64 x.Mended]) agg34.2 rfl rfl rfl rfl (((hb26.lo hk35).kp hR192 (fun e' => hd29 e')).kn hk200) ler rfl ?_)))
  intro w205 hk206 hs207 hb208
  refine Qn (W.ret (retC rfl rfl agg34 hb208 rfl ?_))
  refine ⟨Ax1, nx1, cx1, Ax2, nx2, cx2, eR (eA (eC rfl (eC rfl (eC (eI ?_) (eC (eI ?_) (eC (eI ?_) rfl)))))), (SlO.eqv ((hm175.kd hk200 hd9).kd hk206 hd29) ?_), (SlO.eqv ((((hm33.lo hk35).kp hR192 (fun b_ hb e' => hdx_Maps_x2 b_ e' hb)).kd hk200 hd10).kd hk206 hd30) ?_), hdx_Maps_x2, (fun b_ h_ => .inl (.inl h_)), (fun b_ h_ => .inl (.inr h_)), (((hB37.step hR192 (fun i_ hi_ e' => by have := (hm32.lo hk35).base_le e'; first | omega | exact e' | exact .inl e' | exact .inr e')).new hk200).new hk206)⟩ <;> (subst hlex1 hlex2; unfold impl_Library_buy; rw [if_pos h40] <;> rfl)
open Classical in
noncomputable def impl_Library_give (x : Library) (id : Int) (reader : Int) : Library × Bool :=
 if bsF cmpA (⟨id, reader⟩ : Away) x.Away then ((⟨([] : List LMap), ([] : List Away), 0, 0, 0⟩ : Library), false) else ((⟨x.Maps, x.Away.take (bsP cmpA (⟨id, reader⟩ : Away) x.Away : Int).toNat ++ ([(⟨id, reader⟩ : Away)] : List Away) ++ x.Away.drop (bsP cmpA (⟨id, reader⟩ : Away) x.Away : Int).toNat, x.Bought, x.Dropped, x.Mended⟩ : Library), true)
theorem c__impl_Library__give (w : World) (x : Library) {Ax1 : Option Addr} {nx1 cx1 Bx1 : Nat} (hx1 : SlO w Bx1 encLMap 3 102 Ax1 nx1 cx1 x.Maps) {Ax2 : Option Addr} {nx2 cx2 Bx2 : Nat} (hx2 : SlO w Bx2 encAway 2 129 Ax2 nx2 cx2 x.Away) (id : Int) (reader : Int) (hdx_Maps_x2 : Dj Ax1 Ax2) (hp0 : (nx1 : Int) ≤ 100) (hp1 : (nx2 : Int) ≤ 100) : Calls Tryz.prog 183 #[.agg (List.toArray (cLb Ax1 nx1 cx1 Ax2 nx2 cx2 x)), .int .i64 id, .int .i64 reader] w fun e w' => ∃ (A1' : Option Addr) (n1' c1' : Nat) (A2' : Option Addr) (n2' c2' : Nat), e = .returned (.tuple (List.toArray [.agg (List.toArray [.slice A1' n1' c1', .slice A2' n2' c2', .int .i64 (((impl_Library_give x id reader).1).Bought), .int .i64 (((impl_Library_give x id reader).1).Dropped), .int .i64 (((impl_Library_give x id reader).1).Mended)]), .bool ((impl_Library_give x id reader).2)])) ∧ SlO w' Bx1 encLMap 3 102 A1' n1' c1' (((impl_Library_give x id reader).1).Maps) ∧ SlO w' Bx2 encAway 2 129 A2' n2' c2' (((impl_Library_give x id reader).1).Away) ∧ Dj A1' A2' ∧ (∀ b_, A1' = some ⟨b_, 0, none⟩ → (Ax1 = some ⟨b_, 0, none⟩ ∨ Ax2 = some ⟨b_, 0, none⟩) ∨ w.heap.size ≤ b_) ∧ (∀ b_, A2' = some ⟨b_, 0, none⟩ → (Ax1 = some ⟨b_, 0, none⟩ ∨ Ax2 = some ⟨b_, 0, none⟩) ∨ w.heap.size ≤ b_) ∧ Kp (fun b_ => Ax1 = some ⟨b_, 0, none⟩ ∨ Ax2 = some ⟨b_, 0, none⟩) w w' := by
 refine calls_W 29 Tryz.func183 rfl rfl rfl ?_
 have hcpx1 := hx1.rd.cap
 have hbbx1 := hx1.rd.bd
 have hbdx1 := hx1.rd.bound
 have hlex1 := hx1.len
 have hBbx1 := hx1.bd
 have hcpx2 := hx2.rd.cap
 have hbbx2 := hx2.rd.bd
 have hbdx2 := hx2.rd.bound
 have hlex2 := hx2.len
 have hBbx2 := hx2.bd
 refine Ws (Wr (SR.box (v := .agg (List.toArray _)) (l := (cLb Ax1 nx1 cx1 Ax2 nx2 cx2 x)) rfl rfl ?_))
 intro g1 w2 hg3 hk4 hs5 hb6
 have hd10 := SlO.ne (g := g1) hx2
 refine SR.alloc (l := [.slice none 0 0, .slice none 0 0, .int .i64 0, .int .i64 0, .int .i64 0]) tz34 rfl ?_
 intro g11 w12 hg13 hk14 hs15 hb16
 have hd20 := SlO.ne (g := g11) (hx2.lo hk4)
 refine Q (aB rfl) <| Qn (Ws ?_)
 have hm21 := (hx1.lo hk4).lo hk14
 have hm22 := (hx2.lo hk4).lo hk14
 refine Wr (Q (lG agg34 rfl (hb6.lo hk14) rfl) <| Q (mI rfl) <| Q (mI rfl) <| Qv ent209 (c__impl_Library__awayAt w12 x (hm21.rd) (hm22.rd) id reader (by omega)) rfl fun w23 hk24 hz25 => ?_)
 have hB26 := (((Kp.refl w : Kp (fun b_ => Ax1 = some ⟨b_, 0, none⟩ ∨ Ax2 = some ⟨b_, 0, none⟩) w w).lo hk4).lo hk14).lo hk24
 have hq27 : bsP cmpA (⟨id, reader⟩ : Away) x.Away ≤ x.Away.length := bsP_le
 refine Q (mT rfl) <| Q (xI rfl rfl) <| Q (xB rfl rfl) <| Q (aI rfl) <| Q (aB rfl) <| Qn (Ws (Ws ?_))
 have hm28 := (hb6.lo hk14).lo hk24
 refine Wr (Q (mB rfl) <| Qn (W.cond_d rfl (fun h29 => ?_) (fun h29 => ?_)))
 ·have hq30 := And.left h29
  have hq31 := And.left h29
  refine Ws (Wr (Q (r_build (vs := []) rfl bld34_) <| Qw (o := 0) (vs := [.slice none 0 0, .slice none 0 0, .int .i64 0, .int .i64 0, .int .i64 0]) agg34.2 rfl rfl rfl rfl (hb16.lo hk24) ler rfl ?_))
  intro w32 hk33 hs34 hb35
  refine Q (aB rfl) <| Qn (W.ret (retCT rfl rfl agg34 hb35 rfl (v := .bool _) rfl ?_))
  refine ⟨none, 0, 0, none, 0, 0, eR (eT2 (eA (eC rfl (eC rfl (eC (eI ?_) (eC (eI ?_) (eC (eI ?_) rfl)))))) (eB ?_)), (SlO.eqv (SlO.nil (e := 102) (enc := encLMap) (fun _ => rfl) (by omega)) ?_), (SlO.eqv (SlO.nil (e := 129) (enc := encAway) (fun _ => rfl) (by omega)) ?_), (fun b_ h => by cases h), (fun b_ h => by cases h), (fun b_ h => by cases h), (hB26.new hk33)⟩ <;> (unfold impl_Library_give; rw [if_pos h29] <;> rfl)
 ·refine W.skip (Ws (Wr (Q (fA fa34_1 rfl) <| Q (lB sca32 rfl hm28 rfl) <| Q (mI rfl) <| Q (mI rfl) <| Q (mI rfl) <| Q (r_build (vs := [(0, .int .i64 id), (1, .int .i64 reader)]) rfl (bld129_0_1 _ _)) <| SR.lit (vs := [.agg (List.toArray [.int .i64 id, .int .i64 reader])]) (L := ([(⟨id, reader⟩ : Away)] : List Away)) (enc := encAway) tel32 (fun _ => rfl) rfl rfl rfl (by decide) ?_)))
  intro g38 w39 hg40 hk41 hO42
  have hz43 := hk41.size
  refine SR.call ent210 (c_slices_Insert___impl_Away_impl_Away_ w39 x.Away ((hm22.lo hk24).lo hk41) (bsP cmpA (⟨id, reader⟩ : Away) x.Away : Int) ([(⟨id, reader⟩ : Away)] : List Away) hO42 (by omega) (by omega) (by omega) (fun b_ h h' => (SlO.ne (g := g38) (hm22.lo hk24)) (h'.trans h.symm))) rfl ?_
  rintro e w47 ⟨A49, n50, c51, rfl, hO52, hN53, hk48⟩
  refine ⟨_, rfl, ?_⟩
  have hz54 := hk48.size
  have hd56 : Dj A49 Ax1 := fun b_ e' h' => (hN53 b_ e').elim (fun h => (fun b_ h h' => hdx_Maps_x2 b_ h' h) b_ h h') (fun h => by have := ((hm21.lo hk24).lo hk41).base_le h'; omega)
  have hd58 : ¬ A49 = some ⟨g1, 0, none⟩ := fun e' => (hN53 g1 e').elim (fun h => hd10 h) (fun h => by have := (hm28.lo hk41).lt; omega)
  have hd59 : ¬ A49 = some ⟨g11, 0, none⟩ := fun e' => (hN53 g11 e').elim (fun h => hd20 h) (fun h => by have := ((hb16.lo hk24).lo hk41).lt; omega)
  have hl60 := hO52.len
  have hl61 := hO52.rd.bound
  have hq62 := ins_len1 x.Away (⟨id, reader⟩ : Away) ((bsP cmpA (⟨id, reader⟩ : Away) x.Away : Int).toNat)
  refine Q (fA fa34_1 rfl) <| Qw (o := 1) (vs := [.slice A49 n50 c51]) sca32.2 rfl rfl rfl rfl ((hm28.lo hk41).kp hk48 (fun e' => hd10 e')) ler rfl ?_
  intro w63 hk64 hs65 hb66
  refine Qn (Ws (Wr (Q (lG agg34 rfl hb66 rfl) <| Qw (o := 0) (vs := (cLb Ax1 nx1 cx1 A49 n50 c51 x)) agg34.2 rfl rfl rfl rfl ((((hb16.lo hk24).lo hk41).kp hk48 (fun e' => hd20 e')).kn hk64) ler rfl ?_)))
  intro w71 hk72 hs73 hb74
  refine Q (aB rfl) <| Qn (W.ret (retCT rfl rfl agg34 hb74 rfl (v := .bool _) rfl ?_))
  refine ⟨Ax1, nx1, cx1, A49, n50, c51, eR (eT2 (eA (eC rfl (eC rfl (eC (eI ?_) (eC (eI ?_) (eC (eI ?_) rfl)))))) (eB ?_)), (SlO.eqv (((((hm21.lo hk24).lo hk41).kp hk48 (fun b_ hb e' => hdx_Maps_x2 b_ hb e')).kd hk64 (SlO.ne (g := g1) hx1)).kd hk72 (SlO.ne (g := g11) (hx1.lo hk4))) ?_), (SlO.eqv ((hO52.kd hk64 hd58).kd hk72 hd59) ?_), (fun b_ h h' => hd56 b_ h' h), (fun b_ h_ => .inl (.inl h_)), (fun b_ h_ => (hN53 b_ h_).elim (fun h => ((show ∀ b_, Ax2 = some ⟨b_, 0, none⟩ → (Ax1 = some ⟨b_, 0, none⟩ ∨ Ax2 = some ⟨b_, 0, none⟩) ∨ w.heap.size ≤ b_ from (fun b_ h_ => .inl (.inr h_))) b_ h)) (fun h => .inr (by omega))), ((((hB26.lo hk41).step hk48 (fun i_ hi_ e' => by have := ((hm22.lo hk24).lo hk41).base_le e'; first | omega | exact e' | exact .inl e' | exact .inr e')).new hk64).new hk72)⟩ <;> (subst hlex1 hl60; unfold impl_Library_give; rw [if_neg h29] <;> rfl)
open Classical in
noncomputable def impl_Library_fetch (x : Library) (id : Int) (reader : Int) : Library × Bool :=
 if bsF cmpA (⟨id, reader⟩ : Away) x.Away then ((⟨x.Maps, x.Away.take (bsP cmpA (⟨id, reader⟩ : Away) x.Away : Int).toNat ++ x.Away.drop ((bsP cmpA (⟨id, reader⟩ : Away) x.Away : Int) + 1).toNat, x.Bought, x.Dropped, x.Mended⟩ : Library), true) else ((⟨([] : List LMap), ([] : List Away), 0, 0, 0⟩ : Library), false)
theorem c__impl_Library__fetch (w : World) (x : Library) {Ax1 : Option Addr} {nx1 cx1 Bx1 : Nat} (hx1 : SlO w Bx1 encLMap 3 102 Ax1 nx1 cx1 x.Maps) {Ax2 : Option Addr} {nx2 cx2 Bx2 : Nat} (hx2 : SlO w Bx2 encAway 2 129 Ax2 nx2 cx2 x.Away) (id : Int) (reader : Int) (hdx_Maps_x2 : Dj Ax1 Ax2) (hp0 : (nx1 : Int) ≤ 100) (hp1 : (nx2 : Int) ≤ 100) : Calls Tryz.prog 184 #[.agg (List.toArray (cLb Ax1 nx1 cx1 Ax2 nx2 cx2 x)), .int .i64 id, .int .i64 reader] w fun e w' => ∃ (A1' : Option Addr) (n1' c1' : Nat) (A2' : Option Addr) (n2' c2' : Nat), e = .returned (.tuple (List.toArray [.agg (List.toArray [.slice A1' n1' c1', .slice A2' n2' c2', .int .i64 (((impl_Library_fetch x id reader).1).Bought), .int .i64 (((impl_Library_fetch x id reader).1).Dropped), .int .i64 (((impl_Library_fetch x id reader).1).Mended)]), .bool ((impl_Library_fetch x id reader).2)])) ∧ SlO w' Bx1 encLMap 3 102 A1' n1' c1' (((impl_Library_fetch x id reader).1).Maps) ∧ SlO w' Bx2 encAway 2 129 A2' n2' c2' (((impl_Library_fetch x id reader).1).Away) ∧ Dj A1' A2' ∧ (∀ b_, A1' = some ⟨b_, 0, none⟩ → (Ax1 = some ⟨b_, 0, none⟩ ∨ Ax2 = some ⟨b_, 0, none⟩) ∨ w.heap.size ≤ b_) ∧ (∀ b_, A2' = some ⟨b_, 0, none⟩ → (Ax1 = some ⟨b_, 0, none⟩ ∨ Ax2 = some ⟨b_, 0, none⟩) ∨ w.heap.size ≤ b_) ∧ Kp (fun b_ => Ax1 = some ⟨b_, 0, none⟩ ∨ Ax2 = some ⟨b_, 0, none⟩) w w' := by
 refine calls_W 28 Tryz.func184 rfl rfl rfl ?_
 have hcpx1 := hx1.rd.cap
 have hbbx1 := hx1.rd.bd
 have hbdx1 := hx1.rd.bound
 have hlex1 := hx1.len
 have hBbx1 := hx1.bd
 have hcpx2 := hx2.rd.cap
 have hbbx2 := hx2.rd.bd
 have hbdx2 := hx2.rd.bound
 have hlex2 := hx2.len
 have hBbx2 := hx2.bd
 refine Ws (Wr (SR.box (v := .agg (List.toArray _)) (l := (cLb Ax1 nx1 cx1 Ax2 nx2 cx2 x)) rfl rfl ?_))
 intro g1 w2 hg3 hk4 hs5 hb6
 have hd10 := SlO.ne (g := g1) hx2
 refine SR.alloc (l := [.slice none 0 0, .slice none 0 0, .int .i64 0, .int .i64 0, .int .i64 0]) tz34 rfl ?_
 intro g11 w12 hg13 hk14 hs15 hb16
 have hd20 := SlO.ne (g := g11) (hx2.lo hk4)
 refine Q (aB rfl) <| Qn (Ws ?_)
 have hm21 := (hx1.lo hk4).lo hk14
 have hm22 := (hx2.lo hk4).lo hk14
 refine Wr (Q (lG agg34 rfl (hb6.lo hk14) rfl) <| Q (mI rfl) <| Q (mI rfl) <| Qv ent209 (c__impl_Library__awayAt w12 x (hm21.rd) (hm22.rd) id reader (by omega)) rfl fun w23 hk24 hz25 => ?_)
 have hB26 := (((Kp.refl w : Kp (fun b_ => Ax1 = some ⟨b_, 0, none⟩ ∨ Ax2 = some ⟨b_, 0, none⟩) w w).lo hk4).lo hk14).lo hk24
 have hq27 : bsP cmpA (⟨id, reader⟩ : Away) x.Away ≤ x.Away.length := bsP_le
 refine Q (mT rfl) <| Q (xI rfl rfl) <| Q (xB rfl rfl) <| Q (aI rfl) <| Q (aB rfl) <| Qn (Ws (Ws ?_))
 have hm28 := (hb6.lo hk14).lo hk24
 refine Wr (Q (mB rfl) <| Q (r_not rfl) <| Qn (W.cond_n rfl (fun h29 => ?_) (fun h29 => ?_)))
 ·refine Ws (Wr (Q (r_build (vs := []) rfl bld34_) <| Qw (o := 0) (vs := [.slice none 0 0, .slice none 0 0, .int .i64 0, .int .i64 0, .int .i64 0]) agg34.2 rfl rfl rfl rfl (hb16.lo hk24) ler rfl ?_))
  intro w30 hk31 hs32 hb33
  refine Q (aB rfl) <| Qn (W.ret (retCT rfl rfl agg34 hb33 rfl (v := .bool _) rfl ?_))
  refine ⟨none, 0, 0, none, 0, 0, eR (eT2 (eA (eC rfl (eC rfl (eC (eI ?_) (eC (eI ?_) (eC (eI ?_) rfl)))))) (eB ?_)), (SlO.eqv (SlO.nil (e := 102) (enc := encLMap) (fun _ => rfl) (by omega)) ?_), (SlO.eqv (SlO.nil (e := 129) (enc := encAway) (fun _ => rfl) (by omega)) ?_), (fun b_ h => by cases h), (fun b_ h => by cases h), (fun b_ h => by cases h), (hB26.new hk31)⟩ <;> (unfold impl_Library_fetch; rw [if_neg h29] <;> rfl)
 ·have hq36 := And.left h29
  have hq37 := And.left h29
  refine W.skip (Ws (Wr (Q (fA fa34_1 rfl) <| Q (lB sca32 rfl hm28 rfl) <| Q (mI rfl) <| Q (mI rfl) <| Q (r_add rfl rfl (by omega)) <| SR.call ent211 (c_slices_Delete___impl_Away_impl_Away_ w23 x.Away (hm22.lo hk24) (bsP cmpA (⟨id, reader⟩ : Away) x.Away : Int) ((bsP cmpA (⟨id, reader⟩ : Away) x.Away : Int) + 1) (by omega) (by omega) (by omega)) rfl ?_)))
  rintro e w38 ⟨A40, n41, c42, rfl, hO43, hN44, hk39⟩
  refine ⟨_, rfl, ?_⟩
  have hz45 := hk39.size
  have hd47 : Dj A40 Ax1 := fun b_ e' h' => (hN44 b_ e').elim (fun h => (fun b_ h h' => hdx_Maps_x2 b_ h' h) b_ h h') (fun h => by have := (hm21.lo hk24).base_le h'; omega)
  have hd48 : ¬ A40 = some ⟨g1, 0, none⟩ := fun e' => (hN44 g1 e').elim (fun h => hd10 h) (fun h => by have := hm28.lt; omega)
  have hd49 : ¬ A40 = some ⟨g11, 0, none⟩ := fun e' => (hN44 g11 e').elim (fun h => hd20 h) (fun h => by have := (hb16.lo hk24).lt; omega)
  have hl50 := hO43.len
  have hl51 := hO43.rd.bound
  have hq52 := del_lenT x.Away (i := (bsP cmpA (⟨id, reader⟩ : Away) x.Away : Int).toNat) (j := ((bsP cmpA (⟨id, reader⟩ : Away) x.Away : Int) + 1).toNat) (by omega)
  refine Q (fA fa34_1 rfl) <| Qw (o := 1) (vs := [.slice A40 n41 c42]) sca32.2 rfl rfl rfl rfl (hm28.kp hk39 (fun e' => hd10 e')) ler rfl ?_
  intro w53 hk54 hs55 hb56
  refine Qn (Ws (Wr (Q (lG agg34 rfl hb56 rfl) <| Qw (o := 0) (vs := (cLb Ax1 nx1 cx1 A40 n41 c42 x)) agg34.2 rfl rfl rfl rfl (((hb16.lo hk24).kp hk39 (fun e' => hd20 e')).kn hk54) ler rfl ?_)))
  intro w61 hk62 hs63 hb64
  refine Q (aB rfl) <| Qn (W.ret (retCT rfl rfl agg34 hb64 rfl (v := .bool _) rfl ?_))
  refine ⟨Ax1, nx1, cx1, A40, n41, c42, eR (eT2 (eA (eC rfl (eC rfl (eC (eI ?_) (eC (eI ?_) (eC (eI ?_) rfl)))))) (eB ?_)), (SlO.eqv ((((hm21.lo hk24).kp hk39 (fun b_ hb e' => hdx_Maps_x2 b_ hb e')).kd hk54 (SlO.ne (g := g1) hx1)).kd hk62 (SlO.ne (g := g11) (hx1.lo hk4))) ?_), (SlO.eqv ((hO43.kd hk54 hd48).kd hk62 hd49) ?_), (fun b_ h h' => hd47 b_ h' h), (fun b_ h_ => .inl (.inl h_)), (fun b_ h_ => (hN44 b_ h_).elim (fun h => ((show ∀ b_, Ax2 = some ⟨b_, 0, none⟩ → (Ax1 = some ⟨b_, 0, none⟩ ∨ Ax2 = some ⟨b_, 0, none⟩) ∨ w.heap.size ≤ b_ from (fun b_ h_ => .inl (.inr h_))) b_ h)) (fun h => .inr (by omega))), (((hB26.step hk39 (fun i_ hi_ e' => by have := (hm22.lo hk24).base_le e'; first | omega | exact e' | exact .inl e' | exact .inr e')).new hk54).new hk62)⟩ <;> (subst hlex1 hl50; unfold impl_Library_fetch; rw [if_pos h29] <;> rfl)
end Go.Proofs.YtndcchndcghmoaaGreatDoor
namespace Go.Proofs.YtndcchndcghmoaaGreatDoor
open Go Go.RowKit Fw
section
variable (x : Library) (s : LibraryStep) (i r : Int)
theorem fetch_lenMaps : (((impl_Library_fetch x i r).1).Maps).length ≤ x.Maps.length := by
  unfold impl_Library_fetch; split <;> simp
theorem fetch_lenAway : (((impl_Library_fetch x i r).1).Away).length ≤ x.Away.length := by
  unfold impl_Library_fetch; split
  · exact del_lenT _ (by omega)
  · simp
theorem give_lenMaps : (((impl_Library_give x i r).1).Maps).length ≤ x.Maps.length := by
  unfold impl_Library_give; split <;> simp
theorem give_lenAway : (((impl_Library_give x i r).1).Away).length ≤ x.Away.length + 1 := by
  unfold impl_Library_give; split
  · simp
  · exact Nat.le_of_eq (ins_len1 _ _ _)
theorem buy_lenMaps : ((impl_Library_buy x s).Maps).length ≤ x.Maps.length + 1 := by
  unfold impl_Library_buy; split
  · simp
  · simp only [List.length_set]; exact Nat.le_of_eq (ins_len1 _ _ _)
theorem buy_lenAway : ((impl_Library_buy x s).Away).length ≤ x.Away.length := by
  unfold impl_Library_buy; split <;> simp
end
end Go.Proofs.YtndcchndcghmoaaGreatDoor
namespace Go.Proofs.YtndcchndcghmoaaGreatDoor
open Go Go.RowKit Fw
set_option maxRecDepth 10000
set_option maxHeartbeats 2000000
set_option linter.unusedVariables false
theorem agg106 : TAgg Tryz.prog 106 4 := tG
theorem ent183 : Ent Tryz.prog 183 := en Tryz.func183
theorem ent184 : Ent Tryz.prog 184 := en Tryz.func184
theorem ent185 : Ent Tryz.prog 185 := en Tryz.func185
open Classical in
noncomputable def impl_Library_hand (x : Library) (s : LibraryStep) : Library × Bool :=
 if s.Reader = s.Value then ((⟨([] : List LMap), ([] : List Away), 0, 0, 0⟩ : Library), false) else if (!((impl_Library_fetch x s.Id s.Reader).2)) = true then ((⟨([] : List LMap), ([] : List Away), 0, 0, 0⟩ : Library), false) else (((impl_Library_give ((impl_Library_fetch x s.Id s.Reader).1) s.Id s.Value).1), (impl_Library_give ((impl_Library_fetch x s.Id s.Reader).1) s.Id s.Value).2)
theorem c__impl_Library__hand (w : World) (x : Library) {Ax1 : Option Addr} {nx1 cx1 Bx1 : Nat} (hx1 : SlO w Bx1 encLMap 3 102 Ax1 nx1 cx1 x.Maps) {Ax2 : Option Addr} {nx2 cx2 Bx2 : Nat} (hx2 : SlO w Bx2 encAway 2 129 Ax2 nx2 cx2 x.Away) (s : LibraryStep) (hdx_Maps_x2 : Dj Ax1 Ax2) (hp0 : (nx1 : Int) ≤ 100) (hp1 : (nx2 : Int) ≤ 100) : Calls Tryz.prog 185 #[.agg (List.toArray (cLb Ax1 nx1 cx1 Ax2 nx2 cx2 x)), .agg (List.toArray (encLibraryStep s))] w fun e w' => ∃ (A1' : Option Addr) (n1' c1' : Nat) (A2' : Option Addr) (n2' c2' : Nat), e = .returned (.tuple (List.toArray [.agg (List.toArray [.slice A1' n1' c1', .slice A2' n2' c2', .int .i64 (((impl_Library_hand x s).1).Bought), .int .i64 (((impl_Library_hand x s).1).Dropped), .int .i64 (((impl_Library_hand x s).1).Mended)]), .bool ((impl_Library_hand x s).2)])) ∧ SlO w' Bx1 encLMap 3 102 A1' n1' c1' (((impl_Library_hand x s).1).Maps) ∧ SlO w' Bx2 encAway 2 129 A2' n2' c2' (((impl_Library_hand x s).1).Away) ∧ Dj A1' A2' ∧ (∀ b_, A1' = some ⟨b_, 0, none⟩ → (Ax1 = some ⟨b_, 0, none⟩ ∨ Ax2 = some ⟨b_, 0, none⟩) ∨ w.heap.size ≤ b_) ∧ (∀ b_, A2' = some ⟨b_, 0, none⟩ → (Ax1 = some ⟨b_, 0, none⟩ ∨ Ax2 = some ⟨b_, 0, none⟩) ∨ w.heap.size ≤ b_) ∧ Kp (fun b_ => Ax1 = some ⟨b_, 0, none⟩ ∨ Ax2 = some ⟨b_, 0, none⟩) w w' := by
 refine calls_W 34 Tryz.func185 rfl rfl rfl ?_
 have hcpx1 := hx1.rd.cap
 have hbbx1 := hx1.rd.bd
 have hbdx1 := hx1.rd.bound
 have hlex1 := hx1.len
 have hBbx1 := hx1.bd
 have hcpx2 := hx2.rd.cap
 have hbbx2 := hx2.rd.bd
 have hbdx2 := hx2.rd.bound
 have hlex2 := hx2.len
 have hBbx2 := hx2.bd
 refine Ws (Wr (SR.box (v := .agg (List.toArray _)) (l := (cLb Ax1 nx1 cx1 Ax2 nx2 cx2 x)) rfl rfl ?_))
 intro g1 w2 hg3 hk4 hs5 hb6
 refine SR.box (v := .agg (List.toArray _)) (l := [.int .i64 s.Kind, .int .i64 s.Id, .int .i64 s.Reader, .int .i64 s.Value]) rfl rfl ?_
 intro g11 w12 hg13 hk14 hs15 hb16
 refine SR.alloc (l := [.slice none 0 0, .slice none 0 0, .int .i64 0, .int .i64 0, .int .i64 0]) tz34 rfl ?_
 intro g21 w22 hg23 hk24 hs25 hb26
 have hB28 := (((Kp.refl w : Kp (fun b_ => Ax1 = some ⟨b_, 0, none⟩ ∨ Ax2 = some ⟨b_, 0, none⟩) w w).lo hk4).lo hk14).lo hk24
 have hd29 := SlO.ne (g := g21) ((hx1.lo hk4).lo hk14)
 have hd30 := SlO.ne (g := g21) ((hx2.lo hk4).lo hk14)
 refine Q (aB rfl) <| Qn (Ws (Ws ?_))
 have hm32 := ((hx1.lo hk4).lo hk14).lo hk24
 have hm33 := ((hx2.lo hk4).lo hk14).lo hk24
 refine Wr (Q (fA fa106_2 rfl) <| Q (lB sca3 rfl (hb16.lo hk24) rfl) <| Q (fA fa106_3 rfl) <| Q (lB sca3 rfl (hb16.lo hk24) rfl) <| Q (r_eq rfl rfl) <| Qn (W.cond_d rfl (fun h34 => ?_) (fun h34 => ?_)))
 ·refine Ws (Wr (Q (r_build (vs := []) rfl bld34_) <| Qw (o := 0) (vs := [.slice none 0 0, .slice none 0 0, .int .i64 0, .int .i64 0, .int .i64 0]) agg34.2 rfl rfl rfl rfl hb26 ler rfl ?_))
  intro w35 hk36 hs37 hb38
  refine Q (aB rfl) <| Qn (W.ret (retCT rfl rfl agg34 hb38 rfl (v := .bool _) rfl ?_))
  refine ⟨none, 0, 0, none, 0, 0, eR (eT2 (eA (eC rfl (eC rfl (eC (eI ?_) (eC (eI ?_) (eC (eI ?_) rfl)))))) (eB ?_)), (SlO.eqv (SlO.nil (e := 102) (enc := encLMap) (fun _ => rfl) (by omega)) ?_), (SlO.eqv (SlO.nil (e := 129) (enc := encAway) (fun _ => rfl) (by omega)) ?_), (fun b_ h => by cases h), (fun b_ h => by cases h), (fun b_ h => by cases h), (hB28.new hk36)⟩ <;> (unfold impl_Library_hand; rw [if_pos h34] <;> rfl)
 ·refine W.skip (Ws (Wr (Q (lG agg34 rfl ((hb6.lo hk14).lo hk24) rfl) <| Q (fA fa106_1 rfl) <| Q (lB sca3 rfl (hb16.lo hk24) rfl) <| Q (fA fa106_2 rfl) <| Q (lB sca3 rfl (hb16.lo hk24) rfl) <| SR.call ent184 (c__impl_Library__fetch w22 x hm32 hm33 s.Id s.Reader hdx_Maps_x2 (by omega) (by omega)) rfl ?_)))
  rintro e w41 ⟨A43, n44, c45, A47, n48, c49, rfl, hO46, hO50, hd51, hN52, hN53, hk42⟩
  refine ⟨_, rfl, ?_⟩
  have hz54 := hk42.size
  have hd58 : ¬ A43 = some ⟨g21, 0, none⟩ := fun e' => (hN52 g21 e').elim (fun h => h.elim (fun h => hd29 h) (fun h => hd30 h)) (fun h => by have := hb26.lt; omega)
  have hd61 : ¬ A47 = some ⟨g21, 0, none⟩ := fun e' => (hN53 g21 e').elim (fun h => h.elim (fun h => hd29 h) (fun h => hd30 h)) (fun h => by have := hb26.lt; omega)
  have hl62 := hO46.len
  have hl63 := hO46.rd.bound
  have hq64 := fetch_lenMaps x s.Id s.Reader
  have hl65 := hO50.len
  have hl66 := hO50.rd.bound
  have hq67 := fetch_lenAway x s.Id s.Reader
  refine Q (mT rfl) <| Q (xG rfl rfl) <| Q (xB rfl rfl) <| SR.alloc (l := [.slice none 0 0, .slice none 0 0, .int .i64 0, .int .i64 0, .int .i64 0]) tz34 rfl ?_
  intro g68 w69 hg70 hk71 hs72 hb73
  refine Qw (o := 0) (vs := [.slice A43 n44 c45, .slice A47 n48 c49, .int .i64 (((impl_Library_fetch x s.Id s.Reader).1).Bought), .int .i64 (((impl_Library_fetch x s.Id s.Reader).1).Dropped), .int .i64 (((impl_Library_fetch x s.Id s.Reader).1).Mended)]) agg34.2 rfl rfl rfl rfl hb73 ler rfl ?_
  intro w78 hk79 hs80 hb81
  have hB83 := ((hB28.step hk42 (fun i_ hi_ e' => e'.elim (fun e' => by have := hm32.base_le e'; first | omega | exact e' | exact .inl e' | exact .inr e') (fun e' => by have := hm33.base_le e'; first | omega | exact e' | exact .inl e' | exact .inr e'))).lo hk71).new hk79
  refine Q (aB rfl) <| Qn (Ws (Ws ?_))
  have hm84 := (((hb16.lo hk24).kp hk42 (fun e' => e'.elim (fun e' => (SlO.ne (g := g11) (hx1.lo hk4)) e') (fun e' => (SlO.ne (g := g11) (hx2.lo hk4)) e'))).lo hk71).kn hk79
  have hm85 := ((hb26.kp hk42 (fun e' => e'.elim (fun e' => hd29 e') (fun e' => hd30 e'))).lo hk71).kn hk79
  refine Wr (Q (mB rfl) <| Q (r_not rfl) <| Qn (W.cond_b rfl (fun h88 => ?_) (fun h88 => ?_)))
  ·have hq89 := bnot_t h88
   refine Ws (Wr (Q (r_build (vs := []) rfl bld34_) <| Qw (o := 0) (vs := [.slice none 0 0, .slice none 0 0, .int .i64 0, .int .i64 0, .int .i64 0]) agg34.2 rfl rfl rfl rfl hm85 ler rfl ?_))
   intro w90 hk91 hs92 hb93
   refine Q (aB rfl) <| Qn (W.ret (retCT rfl rfl agg34 hb93 rfl (v := .bool _) rfl ?_))
   refine ⟨none, 0, 0, none, 0, 0, eR (eT2 (eA (eC rfl (eC rfl (eC (eI ?_) (eC (eI ?_) (eC (eI ?_) rfl)))))) (eB ?_)), (SlO.eqv (SlO.nil (e := 102) (enc := encLMap) (fun _ => rfl) (by omega)) ?_), (SlO.eqv (SlO.nil (e := 129) (enc := encAway) (fun _ => rfl) (by omega)) ?_), (fun b_ h => by cases h), (fun b_ h => by cases h), (fun b_ h => by cases h), (hB83.new hk91)⟩ <;> (unfold impl_Library_hand; rw [if_neg h34, if_pos h88] <;> rfl)
  ·have hq96 := bnot_f h88
   refine W.skip (Ws (Wr (Q (lG agg34 rfl hb81 rfl) <| Q (fA fa106_1 rfl) <| Q (lB sca3 rfl hm84 rfl) <| Q (fA fa106_3 rfl) <| Q (lB sca3 rfl hm84 rfl) <| SR.call ent183 (c__impl_Library__give w78 ((impl_Library_fetch x s.Id s.Reader).1) ((hO46.lo hk71).kd hk79 (SlO.ne (g := g68) hO46)) ((hO50.lo hk71).kd hk79 (SlO.ne (g := g68) hO50)) s.Id s.Value hd51 (by omega) (by omega)) rfl ?_)))
   rintro e w97 ⟨A99, n100, c101, A103, n104, c105, rfl, hO102, hO106, hd107, hN108, hN109, hk98⟩
   refine ⟨_, rfl, ?_⟩
   have hz110 := hk98.size
   have hB111 := hB83.step hk98 (fun i_ hi_ e' => e'.elim (fun e' => ((show ∀ b_, A43 = some ⟨b_, 0, none⟩ → (Ax1 = some ⟨b_, 0, none⟩ ∨ Ax2 = some ⟨b_, 0, none⟩) ∨ w.heap.size ≤ b_ from (fun b_ h_ => (hN52 b_ h_).elim (fun h => h.elim (fun h => ((show ∀ b_, Ax1 = some ⟨b_, 0, none⟩ → (Ax1 = some ⟨b_, 0, none⟩ ∨ Ax2 = some ⟨b_, 0, none⟩) ∨ w.heap.size ≤ b_ from (fun b_ h_ => .inl (.inl h_))) b_ h)) (fun h => ((show ∀ b_, Ax2 = some ⟨b_, 0, none⟩ → (Ax1 = some ⟨b_, 0, none⟩ ∨ Ax2 = some ⟨b_, 0, none⟩) ∨ w.heap.size ≤ b_ from (fun b_ h_ => .inl (.inr h_))) b_ h))) (fun h => .inr (by omega)))) i_ e').elim (fun e_ => e_) (fun e_ => by omega)) (fun e' => ((show ∀ b_, A47 = some ⟨b_, 0, none⟩ → (Ax1 = some ⟨b_, 0, none⟩ ∨ Ax2 = some ⟨b_, 0, none⟩) ∨ w.heap.size ≤ b_ from (fun b_ h_ => (hN53 b_ h_).elim (fun h => h.elim (fun h => ((show ∀ b_, Ax1 = some ⟨b_, 0, none⟩ → (Ax1 = some ⟨b_, 0, none⟩ ∨ Ax2 = some ⟨b_, 0, none⟩) ∨ w.heap.size ≤ b_ from (fun b_ h_ => .inl (.inl h_))) b_ h)) (fun h => ((show ∀ b_, Ax2 = some ⟨b_, 0, none⟩ → (Ax1 = some ⟨b_, 0, none⟩ ∨ Ax2 = some ⟨b_, 0, none⟩) ∨ w.heap.size ≤ b_ from (fun b_ h_ => .inl (.inr h_))) b_ h))) (fun h => .inr (by omega)))) i_ e').elim (fun e_ => e_) (fun e_ => by omega)))
   have hd114 : ¬ A99 = some ⟨g21, 0, none⟩ := fun e' => (hN108 g21 e').elim (fun h => h.elim (fun h => hd58 h) (fun h => hd61 h)) (fun h => by have := hm85.lt; omega)
   have hd118 : ¬ A103 = some ⟨g21, 0, none⟩ := fun e' => (hN109 g21 e').elim (fun h => h.elim (fun h => hd58 h) (fun h => hd61 h)) (fun h => by have := hm85.lt; omega)
   have hl120 := hO102.len
   have hl121 := hO102.rd.bound
   have hl122 := hO106.len
   have hl123 := hO106.rd.bound
   refine Q (xG rfl rfl) <| Q (xB rfl rfl) <| Qw (o := 0) (vs := [.slice A99 n100 c101, .slice A103 n104 c105, .int .i64 (((impl_Library_give ((impl_Library_fetch x s.Id s.Reader).1) s.Id s.Value).1).Bought), .int .i64 (((impl_Library_give ((impl_Library_fetch x s.Id s.Reader).1) s.Id s.Value).1).Dropped), .int .i64 (((impl_Library_give ((impl_Library_fetch x s.Id s.Reader).1) s.Id s.Value).1).Mended)]) agg34.2 rfl rfl rfl rfl (hm85.kp hk98 (fun e' => e'.elim (fun e' => hd58 e') (fun e' => hd61 e'))) ler rfl ?_
   intro w124 hk125 hs126 hb127
   refine Q (aB rfl) <| Qn (W.ret (retCT rfl rfl agg34 hb127 rfl (v := .bool _) rfl ?_))
   refine ⟨A99, n100, c101, A103, n104, c105, eR (eT2 (eA (eC rfl (eC rfl (eC (eI ?_) (eC (eI ?_) (eC (eI ?_) rfl)))))) (eB ?_)), (SlO.eqv (hO102.kd hk125 hd114) ?_), (SlO.eqv (hO106.kd hk125 hd118) ?_), hd107, (fun b_ h_ => (hN108 b_ h_).elim (fun h => h.elim (fun h => ((show ∀ b_, A43 = some ⟨b_, 0, none⟩ → (Ax1 = some ⟨b_, 0, none⟩ ∨ Ax2 = some ⟨b_, 0, none⟩) ∨ w.heap.size ≤ b_ from (fun b_ h_ => (hN52 b_ h_).elim (fun h => h.elim (fun h => ((show ∀ b_, Ax1 = some ⟨b_, 0, none⟩ → (Ax1 = some ⟨b_, 0, none⟩ ∨ Ax2 = some ⟨b_, 0, none⟩) ∨ w.heap.size ≤ b_ from (fun b_ h_ => .inl (.inl h_))) b_ h)) (fun h => ((show ∀ b_, Ax2 = some ⟨b_, 0, none⟩ → (Ax1 = some ⟨b_, 0, none⟩ ∨ Ax2 = some ⟨b_, 0, none⟩) ∨ w.heap.size ≤ b_ from (fun b_ h_ => .inl (.inr h_))) b_ h))) (fun h => .inr (by omega)))) b_ h)) (fun h => ((show ∀ b_, A47 = some ⟨b_, 0, none⟩ → (Ax1 = some ⟨b_, 0, none⟩ ∨ Ax2 = some ⟨b_, 0, none⟩) ∨ w.heap.size ≤ b_ from (fun b_ h_ => (hN53 b_ h_).elim (fun h => h.elim (fun h => ((show ∀ b_, Ax1 = some ⟨b_, 0, none⟩ → (Ax1 = some ⟨b_, 0, none⟩ ∨ Ax2 = some ⟨b_, 0, none⟩) ∨ w.heap.size ≤ b_ from (fun b_ h_ => .inl (.inl h_))) b_ h)) (fun h => ((show ∀ b_, Ax2 = some ⟨b_, 0, none⟩ → (Ax1 = some ⟨b_, 0, none⟩ ∨ Ax2 = some ⟨b_, 0, none⟩) ∨ w.heap.size ≤ b_ from (fun b_ h_ => .inl (.inr h_))) b_ h))) (fun h => .inr (by omega)))) b_ h))) (fun h => .inr (by omega))), (fun b_ h_ => (hN109 b_ h_).elim (fun h => h.elim (fun h => ((show ∀ b_, A43 = some ⟨b_, 0, none⟩ → (Ax1 = some ⟨b_, 0, none⟩ ∨ Ax2 = some ⟨b_, 0, none⟩) ∨ w.heap.size ≤ b_ from (fun b_ h_ => (hN52 b_ h_).elim (fun h => h.elim (fun h => ((show ∀ b_, Ax1 = some ⟨b_, 0, none⟩ → (Ax1 = some ⟨b_, 0, none⟩ ∨ Ax2 = some ⟨b_, 0, none⟩) ∨ w.heap.size ≤ b_ from (fun b_ h_ => .inl (.inl h_))) b_ h)) (fun h => ((show ∀ b_, Ax2 = some ⟨b_, 0, none⟩ → (Ax1 = some ⟨b_, 0, none⟩ ∨ Ax2 = some ⟨b_, 0, none⟩) ∨ w.heap.size ≤ b_ from (fun b_ h_ => .inl (.inr h_))) b_ h))) (fun h => .inr (by omega)))) b_ h)) (fun h => ((show ∀ b_, A47 = some ⟨b_, 0, none⟩ → (Ax1 = some ⟨b_, 0, none⟩ ∨ Ax2 = some ⟨b_, 0, none⟩) ∨ w.heap.size ≤ b_ from (fun b_ h_ => (hN53 b_ h_).elim (fun h => h.elim (fun h => ((show ∀ b_, Ax1 = some ⟨b_, 0, none⟩ → (Ax1 = some ⟨b_, 0, none⟩ ∨ Ax2 = some ⟨b_, 0, none⟩) ∨ w.heap.size ≤ b_ from (fun b_ h_ => .inl (.inl h_))) b_ h)) (fun h => ((show ∀ b_, Ax2 = some ⟨b_, 0, none⟩ → (Ax1 = some ⟨b_, 0, none⟩ ∨ Ax2 = some ⟨b_, 0, none⟩) ∨ w.heap.size ≤ b_ from (fun b_ h_ => .inl (.inr h_))) b_ h))) (fun h => .inr (by omega)))) b_ h))) (fun h => .inr (by omega))), (hB111.new hk125)⟩ <;> (subst hl120 hl122; unfold impl_Library_hand; rw [if_neg h34, if_neg (ne_true_of_eq_false h88)] <;> rfl)
open Classical in
noncomputable def impl_Library_use (x : Library) (s : LibraryStep) (k : Int) : Library × Bool :=
 if s.Kind = 2 then (((impl_Library_give (⟨x.Maps.set k.toNat ({ (gt x.Maps k.toNat) with Copies := IntKind.i64.wrap (((gt x.Maps k.toNat).Copies) - 1) }), x.Away, x.Bought, x.Dropped, x.Mended⟩ : Library) s.Id s.Reader).1), (impl_Library_give (⟨x.Maps.set k.toNat ({ (gt x.Maps k.toNat) with Copies := IntKind.i64.wrap (((gt x.Maps k.toNat).Copies) - 1) }), x.Away, x.Bought, x.Dropped, x.Mended⟩ : Library) s.Id s.Reader).2) else if s.Kind = 3 then (((impl_Library_fetch (⟨x.Maps.set k.toNat ({ ({ (gt x.Maps k.toNat) with Copies := IntKind.i64.wrap (((gt x.Maps k.toNat).Copies) + 1) }) with Torn := IntKind.i64.wrap (((gt x.Maps k.toNat).Torn) + s.Value) }), x.Away, x.Bought, x.Dropped, x.Mended⟩ : Library) s.Id s.Reader).1), (impl_Library_fetch (⟨x.Maps.set k.toNat ({ ({ (gt x.Maps k.toNat) with Copies := IntKind.i64.wrap (((gt x.Maps k.toNat).Copies) + 1) }) with Torn := IntKind.i64.wrap (((gt x.Maps k.toNat).Torn) + s.Value) }), x.Away, x.Bought, x.Dropped, x.Mended⟩ : Library) s.Id s.Reader).2) else if s.Kind = 5 then (((impl_Library_hand x s).1), (impl_Library_hand x s).2) else if s.Kind = 4 then ((⟨x.Maps.set k.toNat ({ (gt x.Maps k.toNat) with Torn := IntKind.i64.wrap (((gt x.Maps k.toNat).Torn) - s.Value) }), x.Away, x.Bought, x.Dropped, IntKind.i64.wrap (x.Mended + s.Value)⟩ : Library), true) else if s.Kind = 6 then ((⟨(x.Maps.set k.toNat ({ (gt x.Maps k.toNat) with Torn := IntKind.i64.wrap (((gt x.Maps k.toNat).Torn) - s.Value) })).set k.toNat ({ ({ (gt x.Maps k.toNat) with Torn := IntKind.i64.wrap (((gt x.Maps k.toNat).Torn) - s.Value) }) with Copies := IntKind.i64.wrap (((gt x.Maps k.toNat).Copies) - s.Value) }), x.Away, x.Bought, IntKind.i64.wrap (x.Dropped + s.Value), x.Mended⟩ : Library), true) else ((⟨x.Maps.set k.toNat ({ (gt x.Maps k.toNat) with Torn := IntKind.i64.wrap (((gt x.Maps k.toNat).Torn) + s.Value) }), x.Away, x.Bought, x.Dropped, x.Mended⟩ : Library), true)
theorem c__impl_Library__use (w : World) (x : Library) {Ax1 : Option Addr} {nx1 cx1 Bx1 : Nat} (hx1 : SlO w Bx1 encLMap 3 102 Ax1 nx1 cx1 x.Maps) {Ax2 : Option Addr} {nx2 cx2 Bx2 : Nat} (hx2 : SlO w Bx2 encAway 2 129 Ax2 nx2 cx2 x.Away) (s : LibraryStep) (k : Int) (hdx_Maps_x2 : Dj Ax1 Ax2) (hp0 : (nx1 : Int) ≤ 100) (hp1 : (nx2 : Int) ≤ 100) (hp2 : 0 ≤ k ∧ k < (nx1 : Int)) : Calls Tryz.prog 152 #[.agg (List.toArray (cLb Ax1 nx1 cx1 Ax2 nx2 cx2 x)), .agg (List.toArray (encLibraryStep s)), .int .i64 k] w fun e w' => ∃ (A1' : Option Addr) (n1' c1' : Nat) (A2' : Option Addr) (n2' c2' : Nat), e = .returned (.tuple (List.toArray [.agg (List.toArray [.slice A1' n1' c1', .slice A2' n2' c2', .int .i64 (((impl_Library_use x s k).1).Bought), .int .i64 (((impl_Library_use x s k).1).Dropped), .int .i64 (((impl_Library_use x s k).1).Mended)]), .bool ((impl_Library_use x s k).2)])) ∧ SlO w' Bx1 encLMap 3 102 A1' n1' c1' (((impl_Library_use x s k).1).Maps) ∧ SlO w' Bx2 encAway 2 129 A2' n2' c2' (((impl_Library_use x s k).1).Away) ∧ Dj A1' A2' ∧ (∀ b_, A1' = some ⟨b_, 0, none⟩ → (Ax1 = some ⟨b_, 0, none⟩ ∨ Ax2 = some ⟨b_, 0, none⟩) ∨ w.heap.size ≤ b_) ∧ (∀ b_, A2' = some ⟨b_, 0, none⟩ → (Ax1 = some ⟨b_, 0, none⟩ ∨ Ax2 = some ⟨b_, 0, none⟩) ∨ w.heap.size ≤ b_) ∧ Kp (fun b_ => Ax1 = some ⟨b_, 0, none⟩ ∨ Ax2 = some ⟨b_, 0, none⟩) w w' := by
 refine calls_W 118 Tryz.func152 rfl rfl rfl ?_
 have hcpx1 := hx1.rd.cap
 have hbbx1 := hx1.rd.bd
 have hbdx1 := hx1.rd.bound
 have hlex1 := hx1.len
 have hBbx1 := hx1.bd
 have hcpx2 := hx2.rd.cap
 have hbbx2 := hx2.rd.bd
 have hbdx2 := hx2.rd.bound
 have hlex2 := hx2.len
 have hBbx2 := hx2.bd
 refine Ws (Wr (SR.box (v := .agg (List.toArray _)) (l := (cLb Ax1 nx1 cx1 Ax2 nx2 cx2 x)) rfl rfl ?_))
 intro g1 w2 hg3 hk4 hs5 hb6
 have hd9 := SlO.ne (g := g1) hx1
 have hd10 := SlO.ne (g := g1) hx2
 refine SR.box (v := .agg (List.toArray _)) (l := [.int .i64 s.Kind, .int .i64 s.Id, .int .i64 s.Reader, .int .i64 s.Value]) rfl rfl ?_
 intro g11 w12 hg13 hk14 hs15 hb16
 have hd19 := SlO.ne (g := g11) (hx1.lo hk4)
 refine SR.alloc (l := [.slice none 0 0, .slice none 0 0, .int .i64 0, .int .i64 0, .int .i64 0]) tz34 rfl ?_
 intro g21 w22 hg23 hk24 hs25 hb26
 have hB28 := (((Kp.refl w : Kp (fun b_ => Ax1 = some ⟨b_, 0, none⟩ ∨ Ax2 = some ⟨b_, 0, none⟩) w w).lo hk4).lo hk14).lo hk24
 have hd29 := SlO.ne (g := g21) ((hx1.lo hk4).lo hk14)
 have hd30 := SlO.ne (g := g21) ((hx2.lo hk4).lo hk14)
 refine Q (aB rfl) <| Qn (Ws ?_)
 have hm31 := (hb6.lo hk14).lo hk24
 have hm32 := ((hx1.lo hk4).lo hk14).lo hk24
 have hm33 := ((hx2.lo hk4).lo hk14).lo hk24
 refine Wr (Q (fA fa34_0 rfl) <| Q (lB sca31 rfl hm31 rfl) <| Q (mI rfl) <| ?_)
 have hx35 := (hm32.rd).elem (i := k.toNat) (by omega)
 refine Q (r_ixR tsl31 (hm32.rd) rfl rfl (by omega)) <| Q (aP rfl) <| Qn (Ws (Ws (Wr (Q (fA fa106_0 rfl) <| Q (lB sca3 rfl (hb16.lo hk24) rfl) <| Qn (W.block (Ws (Wr (Q (r_eq rfl rfl) <| Q (aB rfl) <| Qn (W.cond_d rfl (fun h36 => ?_) (fun h36 => ?_))))))))))
 ·refine Ws (Wr (Q (mP rfl) <| Q (r_nilc rfl) <| Q (fA fa102_1 rfl) <| Q (r_ld (v := .int .i64 ((gt x.Maps k.toNat).Copies)) sca3 rfl ((hm32.rd).cell hx35 rfl)) <| Q (r_subW rfl rfl) <| Q (r_nilc rfl) <| Q (fA fa102_1 rfl) <| SR.storeO (o := 1) (vs := [.int .i64 (IntKind.i64.wrap (((gt x.Maps k.toNat).Copies) - 1))]) (x1 := { (gt x.Maps k.toNat) with Copies := IntKind.i64.wrap (((gt x.Maps k.toNat).Copies) - 1) }) sca3.2 rfl (add_add _ _ _) rfl rfl hm32 hx35 rfl ler rfl ?_))
  intro w37 hk38 hs39 hO40
  have hz41 := hk38.size
  have hx43 : (x.Maps.set k.toNat ({ (gt x.Maps k.toNat) with Copies := IntKind.i64.wrap (((gt x.Maps k.toNat).Copies) - 1) }))[k.toNat]? = some ({ (gt x.Maps k.toNat) with Copies := IntKind.i64.wrap (((gt x.Maps k.toNat).Copies) - 1) }) := List.getElem?_set_self (List.getElem?_eq_some_iff.1 hx35).1
  refine Qn (Ws ?_)
  have hm44 := (hb16.lo hk24).kp hk38 (fun e' => hd19 e')
  refine Wr (Q (lG agg34 rfl (hm31.kp hk38 (fun e' => hd9 e')) rfl) <| Q (fA fa106_1 rfl) <| Q (lB sca3 rfl hm44 rfl) <| Q (fA fa106_2 rfl) <| Q (lB sca3 rfl hm44 rfl) <| SR.call ent183 (c__impl_Library__give w37 (⟨x.Maps.set k.toNat ({ (gt x.Maps k.toNat) with Copies := IntKind.i64.wrap (((gt x.Maps k.toNat).Copies) - 1) }), x.Away, x.Bought, x.Dropped, x.Mended⟩ : Library) hO40 (hm33.kp hk38 (fun b_ hb e' => hdx_Maps_x2 b_ e' hb)) s.Id s.Reader hdx_Maps_x2 (by omega) (by omega)) rfl ?_)
  rintro e w45 ⟨A47, n48, c49, A51, n52, c53, rfl, hO50, hO54, hd55, hN56, hN57, hk46⟩
  refine ⟨_, rfl, ?_⟩
  have hz58 := hk46.size
  have hB59 := (hB28.step hk38 (fun i_ hi_ e' => by have := hm32.base_le e'; first | omega | exact e' | exact .inl e' | exact .inr e')).step hk46 (fun i_ hi_ e' => e'.elim (fun e' => by have := hO40.base_le e'; first | omega | exact e' | exact .inl e' | exact .inr e') (fun e' => by have := (hm33.kp hk38 (fun b_ hb e' => hdx_Maps_x2 b_ e' hb)).base_le e'; first | omega | exact e' | exact .inl e' | exact .inr e'))
  have hd62 : ¬ A47 = some ⟨g21, 0, none⟩ := fun e' => (hN56 g21 e').elim (fun h => h.elim (fun h => hd29 h) (fun h => hd30 h)) (fun h => by have := (hb26.kp hk38 (fun e' => hd29 e')).lt; omega)
  have hd65 : ¬ A51 = some ⟨g21, 0, none⟩ := fun e' => (hN57 g21 e').elim (fun h => h.elim (fun h => hd29 h) (fun h => hd30 h)) (fun h => by have := (hb26.kp hk38 (fun e' => hd29 e')).lt; omega)
  have hl66 := hO50.len
  have hl67 := hO50.rd.bound
  have hl68 := hO54.len
  have hl69 := hO54.rd.bound
  refine Q (xG rfl rfl) <| Q (xB rfl rfl) <| Qw (o := 0) (vs := [.slice A47 n48 c49, .slice A51 n52 c53, .int .i64 (((impl_Library_give (⟨x.Maps.set k.toNat ({ (gt x.Maps k.toNat) with Copies := IntKind.i64.wrap (((gt x.Maps k.toNat).Copies) - 1) }), x.Away, x.Bought, x.Dropped, x.Mended⟩ : Library) s.Id s.Reader).1).Bought), .int .i64 (((impl_Library_give (⟨x.Maps.set k.toNat ({ (gt x.Maps k.toNat) with Copies := IntKind.i64.wrap (((gt x.Maps k.toNat).Copies) - 1) }), x.Away, x.Bought, x.Dropped, x.Mended⟩ : Library) s.Id s.Reader).1).Dropped), .int .i64 (((impl_Library_give (⟨x.Maps.set k.toNat ({ (gt x.Maps k.toNat) with Copies := IntKind.i64.wrap (((gt x.Maps k.toNat).Copies) - 1) }), x.Away, x.Bought, x.Dropped, x.Mended⟩ : Library) s.Id s.Reader).1).Mended)]) agg34.2 rfl rfl rfl rfl ((hb26.kp hk38 (fun e' => hd29 e')).kp hk46 (fun e' => e'.elim (fun e' => hd29 e') (fun e' => hd30 e'))) ler rfl ?_
  intro w70 hk71 hs72 hb73
  refine Q (aB rfl) <| Qn (W.ret (retCT rfl rfl agg34 hb73 rfl (v := .bool _) rfl ?_))
  refine ⟨A47, n48, c49, A51, n52, c53, eR (eT2 (eA (eC rfl (eC rfl (eC (eI ?_) (eC (eI ?_) (eC (eI ?_) rfl)))))) (eB ?_)), (SlO.eqv (hO50.kd hk71 hd62) ?_), (SlO.eqv (hO54.kd hk71 hd65) ?_), hd55, (fun b_ h_ => (hN56 b_ h_).elim (fun h => h.elim (fun h => ((show ∀ b_, Ax1 = some ⟨b_, 0, none⟩ → (Ax1 = some ⟨b_, 0, none⟩ ∨ Ax2 = some ⟨b_, 0, none⟩) ∨ w.heap.size ≤ b_ from (fun b_ h_ => .inl (.inl h_))) b_ h)) (fun h => ((show ∀ b_, Ax2 = some ⟨b_, 0, none⟩ → (Ax1 = some ⟨b_, 0, none⟩ ∨ Ax2 = some ⟨b_, 0, none⟩) ∨ w.heap.size ≤ b_ from (fun b_ h_ => .inl (.inr h_))) b_ h))) (fun h => .inr (by omega))), (fun b_ h_ => (hN57 b_ h_).elim (fun h => h.elim (fun h => ((show ∀ b_, Ax1 = some ⟨b_, 0, none⟩ → (Ax1 = some ⟨b_, 0, none⟩ ∨ Ax2 = some ⟨b_, 0, none⟩) ∨ w.heap.size ≤ b_ from (fun b_ h_ => .inl (.inl h_))) b_ h)) (fun h => ((show ∀ b_, Ax2 = some ⟨b_, 0, none⟩ → (Ax1 = some ⟨b_, 0, none⟩ ∨ Ax2 = some ⟨b_, 0, none⟩) ∨ w.heap.size ≤ b_ from (fun b_ h_ => .inl (.inr h_))) b_ h))) (fun h => .inr (by omega))), (hB59.new hk71)⟩ <;> (subst hl66 hl68; unfold impl_Library_use; rw [if_pos h36] <;> rfl)
 ·refine Ws (Wr (Q (r_eq rfl rfl) <| Q (aB rfl) <| Qn (W.cond_d rfl (fun h76 => ?_) (fun h76 => ?_))))
  ·refine Ws (Wr (Q (mP rfl) <| Q (r_nilc rfl) <| Q (fA fa102_1 rfl) <| Q (r_ld (v := .int .i64 ((gt x.Maps k.toNat).Copies)) sca3 rfl ((hm32.rd).cell hx35 rfl)) <| Q (r_addW rfl rfl) <| Q (r_nilc rfl) <| Q (fA fa102_1 rfl) <| SR.storeO (o := 1) (vs := [.int .i64 (IntKind.i64.wrap (((gt x.Maps k.toNat).Copies) + 1))]) (x1 := { (gt x.Maps k.toNat) with Copies := IntKind.i64.wrap (((gt x.Maps k.toNat).Copies) + 1) }) sca3.2 rfl (add_add _ _ _) rfl rfl hm32 hx35 rfl ler rfl ?_))
   intro w77 hk78 hs79 hO80
   have hz81 := hk78.size
   have hx83 : (x.Maps.set k.toNat ({ (gt x.Maps k.toNat) with Copies := IntKind.i64.wrap (((gt x.Maps k.toNat).Copies) + 1) }))[k.toNat]? = some ({ (gt x.Maps k.toNat) with Copies := IntKind.i64.wrap (((gt x.Maps k.toNat).Copies) + 1) }) := List.getElem?_set_self (List.getElem?_eq_some_iff.1 hx35).1
   refine Qn (Ws ?_)
   have hm84 := (hb16.lo hk24).kp hk78 (fun e' => hd19 e')
   refine W.regA (Kp (KA Ax1) w77) (fun f' w' => At f' [(3, .pointer (pA g1)), (4, .pointer (pA g11)), (6, .pointer (pA g21)), (7, .bool false)] ∧ (Kp (KA Ax1) w77 w') ∧ (SlO w' Bx1 encLMap 3 102 Ax1 nx1 cx1 (x.Maps.set k.toNat ({ ({ (gt x.Maps k.toNat) with Copies := IntKind.i64.wrap (((gt x.Maps k.toNat).Copies) + 1) }) with Torn := IntKind.i64.wrap (((gt x.Maps k.toNat).Torn) + s.Value) }))) ∧ ((x.Maps.set k.toNat ({ ({ (gt x.Maps k.toNat) with Copies := IntKind.i64.wrap (((gt x.Maps k.toNat).Copies) + 1) }) with Torn := IntKind.i64.wrap (((gt x.Maps k.toNat).Torn) + s.Value) }))[k.toNat]? = some ({ ({ (gt x.Maps k.toNat) with Copies := IntKind.i64.wrap (((gt x.Maps k.toNat).Copies) + 1) }) with Torn := IntKind.i64.wrap (((gt x.Maps k.toNat).Torn) + s.Value) }))) mo ?_ ?_
   ·intro w111 hk112
    have hz113 := hk112.size
    refine Ak 0 rfl ((Kp.refl w77 : Kp (KA Ax1) w77 w77).lo hk112) (fun w' hw' => r_mv (v := .pointer (some _)) rfl) <| Ak 1 rfl ((Kp.refl w77 : Kp (KA Ax1) w77 w77).lo hk112) (fun w' hw' => r_nilc rfl) <| Ak 2 rfl ((Kp.refl w77 : Kp (KA Ax1) w77 w77).lo hk112) (fun w' hw' => fA fa102_2 rfl) <| Ak 4 rfl ((Kp.refl w77 : Kp (KA Ax1) w77 w77).lo hk112) (fun w' hw' => fA fa106_3 rfl) <| Ak 5 rfl ((Kp.refl w77 : Kp (KA Ax1) w77 w77).lo hk112) (fun w' hw' => r_ld (v := .int .i64 s.Value) sca3 rfl ((hm84.kp hw' (fun e' => hd19 e')).cell rfl)) <| Ab 3 rfl (Q (r_ld (v := .int .i64 ((gt x.Maps k.toNat).Torn)) sca3 rfl (((hO80.lo hk112).rd).cell hx83 rfl)) (Qn ⟨(Kp.refl w77 : Kp (KA Ax1) w77 w77).lo hk112, _, rfl, (Ak 6 rfl ((Kp.refl w77 : Kp (KA Ax1) w77 w77).lo hk112) (fun w' hw' => r_addW rfl rfl) <| Ak 7 rfl ((Kp.refl w77 : Kp (KA Ax1) w77 w77).lo hk112) (fun w' hw' => r_nilc rfl) <| Ak 8 rfl ((Kp.refl w77 : Kp (KA Ax1) w77 w77).lo hk112) (fun w' hw' => fA fa102_2 rfl) <| Ab 9 rfl (SR.storeO (o := 2) (vs := [.int .i64 (IntKind.i64.wrap (((gt x.Maps k.toNat).Torn) + s.Value))]) (x1 := { ({ (gt x.Maps k.toNat) with Copies := IntKind.i64.wrap (((gt x.Maps k.toNat).Copies) + 1) }) with Torn := IntKind.i64.wrap (((gt x.Maps k.toNat).Torn) + s.Value) }) sca3.2 rfl (add_add _ _ _) rfl rfl (hO80.lo hk112) hx83 rfl ler rfl ?_))⟩))
    intro w115 hk116 hs117 hO118
    have hz119 := hk116.size
    have hS121 := ((Kp.refl w77 : Kp (KA Ax1) w77 w77).lo hk112).step hk116 (fun _ _ e => e)
    rw [List.set_set] at hO118
    have hx122 : (x.Maps.set k.toNat ({ ({ (gt x.Maps k.toNat) with Copies := IntKind.i64.wrap (((gt x.Maps k.toNat).Copies) + 1) }) with Torn := IntKind.i64.wrap (((gt x.Maps k.toNat).Torn) + s.Value) }))[k.toNat]? = some ({ ({ (gt x.Maps k.toNat) with Copies := IntKind.i64.wrap (((gt x.Maps k.toNat).Copies) + 1) }) with Torn := IntKind.i64.wrap (((gt x.Maps k.toNat).Torn) + s.Value) }) := List.getElem?_set_self (List.getElem?_eq_some_iff.1 hx35).1
    refine Qn ⟨hS121, _, rfl, (AH.done (by kernel_rfl) (⟨(At.r rfl), hS121, hO118, hx122⟩))⟩
   rintro f123 w124 ⟨hat126, hR125, hm110, hx109⟩
   rw [← sets_of_at hat126]
   have hz127 := hR125.size
   refine Ws ?_
   have hm130 := (hm33.kp hk78 (fun b_ hb e' => hdx_Maps_x2 b_ e' hb)).kp hR125 (fun b_ hb e' => hdx_Maps_x2 b_ e' hb)
   have hm131 := (hb26.kp hk78 (fun e' => hd29 e')).kp hR125 (fun e' => hd29 e')
   refine Wr (Q (lG agg34 rfl ((hm31.kp hk78 (fun e' => hd9 e')).kp hR125 (fun e' => hd9 e')) rfl) <| Q (fA fa106_1 rfl) <| Q (lB sca3 rfl (hm84.kp hR125 (fun e' => hd19 e')) rfl) <| Q (fA fa106_2 rfl) <| Q (lB sca3 rfl (hm84.kp hR125 (fun e' => hd19 e')) rfl) <| SR.call ent184 (c__impl_Library__fetch w124 (⟨x.Maps.set k.toNat ({ ({ (gt x.Maps k.toNat) with Copies := IntKind.i64.wrap (((gt x.Maps k.toNat).Copies) + 1) }) with Torn := IntKind.i64.wrap (((gt x.Maps k.toNat).Torn) + s.Value) }), x.Away, x.Bought, x.Dropped, x.Mended⟩ : Library) hm110 hm130 s.Id s.Reader hdx_Maps_x2 (by omega) (by omega)) rfl ?_)
   rintro e w132 ⟨A134, n135, c136, A138, n139, c140, rfl, hO137, hO141, hd142, hN143, hN144, hk133⟩
   refine ⟨_, rfl, ?_⟩
   have hz145 := hk133.size
   have hB146 := ((hB28.step hk78 (fun i_ hi_ e' => by have := hm32.base_le e'; first | omega | exact e' | exact .inl e' | exact .inr e')).step hR125 (fun i_ hi_ e' => by have := hO80.base_le e'; first | omega | exact e' | exact .inl e' | exact .inr e')).step hk133 (fun i_ hi_ e' => e'.elim (fun e' => by have := hm110.base_le e'; first | omega | exact e' | exact .inl e' | exact .inr e') (fun e' => by have := hm130.base_le e'; first | omega | exact e' | exact .inl e' | exact .inr e'))
   have hd149 : ¬ A134 = some ⟨g21, 0, none⟩ := fun e' => (hN143 g21 e').elim (fun h => h.elim (fun h => hd29 h) (fun h => hd30 h)) (fun h => by have := hm131.lt; omega)
   have hd152 : ¬ A138 = some ⟨g21, 0, none⟩ := fun e' => (hN144 g21 e').elim (fun h => h.elim (fun h => hd29 h) (fun h => hd30 h)) (fun h => by have := hm131.lt; omega)
   have hl153 := hO137.len
   have hl154 := hO137.rd.bound
   have hq155 := fetch_lenMaps (⟨x.Maps.set k.toNat ({ ({ (gt x.Maps k.toNat) with Copies := IntKind.i64.wrap (((gt x.Maps k.toNat).Copies) + 1) }) with Torn := IntKind.i64.wrap (((gt x.Maps k.toNat).Torn) + s.Value) }), x.Away, x.Bought, x.Dropped, x.Mended⟩ : Library) s.Id s.Reader
   have hl156 := hO141.len
   have hl157 := hO141.rd.bound
   have hq158 := fetch_lenAway (⟨x.Maps.set k.toNat ({ ({ (gt x.Maps k.toNat) with Copies := IntKind.i64.wrap (((gt x.Maps k.toNat).Copies) + 1) }) with Torn := IntKind.i64.wrap (((gt x.Maps k.toNat).Torn) + s.Value) }), x.Away, x.Bought, x.Dropped, x.Mended⟩ : Library) s.Id s.Reader
   refine Q (xG rfl rfl) <| Q (xB rfl rfl) <| Qw (o := 0) (vs := [.slice A134 n135 c136, .slice A138 n139 c140, .int .i64 (((impl_Library_fetch (⟨x.Maps.set k.toNat ({ ({ (gt x.Maps k.toNat) with Copies := IntKind.i64.wrap (((gt x.Maps k.toNat).Copies) + 1) }) with Torn := IntKind.i64.wrap (((gt x.Maps k.toNat).Torn) + s.Value) }), x.Away, x.Bought, x.Dropped, x.Mended⟩ : Library) s.Id s.Reader).1).Bought), .int .i64 (((impl_Library_fetch (⟨x.Maps.set k.toNat ({ ({ (gt x.Maps k.toNat) with Copies := IntKind.i64.wrap (((gt x.Maps k.toNat).Copies) + 1) }) with Torn := IntKind.i64.wrap (((gt x.Maps k.toNat).Torn) + s.Value) }), x.Away, x.Bought, x.Dropped, x.Mended⟩ : Library) s.Id s.Reader).1).Dropped), .int .i64 (((impl_Library_fetch (⟨x.Maps.set k.toNat ({ ({ (gt x.Maps k.toNat) with Copies := IntKind.i64.wrap (((gt x.Maps k.toNat).Copies) + 1) }) with Torn := IntKind.i64.wrap (((gt x.Maps k.toNat).Torn) + s.Value) }), x.Away, x.Bought, x.Dropped, x.Mended⟩ : Library) s.Id s.Reader).1).Mended)]) agg34.2 rfl rfl rfl rfl (hm131.kp hk133 (fun e' => e'.elim (fun e' => hd29 e') (fun e' => hd30 e'))) ler rfl ?_
   intro w159 hk160 hs161 hb162
   refine Q (aB rfl) <| Qn (W.ret (retCT rfl rfl agg34 hb162 rfl (v := .bool _) rfl ?_))
   refine ⟨A134, n135, c136, A138, n139, c140, eR (eT2 (eA (eC rfl (eC rfl (eC (eI ?_) (eC (eI ?_) (eC (eI ?_) rfl)))))) (eB ?_)), (SlO.eqv (hO137.kd hk160 hd149) ?_), (SlO.eqv (hO141.kd hk160 hd152) ?_), hd142, (fun b_ h_ => (hN143 b_ h_).elim (fun h => h.elim (fun h => ((show ∀ b_, Ax1 = some ⟨b_, 0, none⟩ → (Ax1 = some ⟨b_, 0, none⟩ ∨ Ax2 = some ⟨b_, 0, none⟩) ∨ w.heap.size ≤ b_ from (fun b_ h_ => .inl (.inl h_))) b_ h)) (fun h => ((show ∀ b_, Ax2 = some ⟨b_, 0, none⟩ → (Ax1 = some ⟨b_, 0, none⟩ ∨ Ax2 = some ⟨b_, 0, none⟩) ∨ w.heap.size ≤ b_ from (fun b_ h_ => .inl (.inr h_))) b_ h))) (fun h => .inr (by omega))), (fun b_ h_ => (hN144 b_ h_).elim (fun h => h.elim (fun h => ((show ∀ b_, Ax1 = some ⟨b_, 0, none⟩ → (Ax1 = some ⟨b_, 0, none⟩ ∨ Ax2 = some ⟨b_, 0, none⟩) ∨ w.heap.size ≤ b_ from (fun b_ h_ => .inl (.inl h_))) b_ h)) (fun h => ((show ∀ b_, Ax2 = some ⟨b_, 0, none⟩ → (Ax1 = some ⟨b_, 0, none⟩ ∨ Ax2 = some ⟨b_, 0, none⟩) ∨ w.heap.size ≤ b_ from (fun b_ h_ => .inl (.inr h_))) b_ h))) (fun h => .inr (by omega))), (hB146.new hk160)⟩ <;> (subst hl153 hl156; unfold impl_Library_use; rw [if_neg h36, if_pos h76] <;> rfl)
  ·refine Ws (Wr (Q (r_eq rfl rfl) <| Q (aB rfl) <| Qn (W.cond_d rfl (fun h165 => ?_) (fun h165 => ?_))))
   ·refine Ws (Wr (Q (lG agg34 rfl hm31 rfl) <| Q (lG agg106 rfl (hb16.lo hk24) rfl) <| SR.call ent185 (c__impl_Library__hand w22 x hm32 hm33 s hdx_Maps_x2 (by omega) (by omega)) rfl ?_))
    rintro e w166 ⟨A168, n169, c170, A172, n173, c174, rfl, hO171, hO175, hd176, hN177, hN178, hk167⟩
    refine ⟨_, rfl, ?_⟩
    have hz179 := hk167.size
    have hd183 : ¬ A168 = some ⟨g21, 0, none⟩ := fun e' => (hN177 g21 e').elim (fun h => h.elim (fun h => hd29 h) (fun h => hd30 h)) (fun h => by have := hb26.lt; omega)
    have hd186 : ¬ A172 = some ⟨g21, 0, none⟩ := fun e' => (hN178 g21 e').elim (fun h => h.elim (fun h => hd29 h) (fun h => hd30 h)) (fun h => by have := hb26.lt; omega)
    have hl187 := hO171.len
    have hl188 := hO171.rd.bound
    have hl189 := hO175.len
    have hl190 := hO175.rd.bound
    refine Q (xG rfl rfl) <| Q (xB rfl rfl) <| Qw (o := 0) (vs := [.slice A168 n169 c170, .slice A172 n173 c174, .int .i64 (((impl_Library_hand x s).1).Bought), .int .i64 (((impl_Library_hand x s).1).Dropped), .int .i64 (((impl_Library_hand x s).1).Mended)]) agg34.2 rfl rfl rfl rfl (hb26.kp hk167 (fun e' => e'.elim (fun e' => hd29 e') (fun e' => hd30 e'))) ler rfl ?_
    intro w191 hk192 hs193 hb194
    refine Q (aB rfl) <| Qn (W.ret (retCT rfl rfl agg34 hb194 rfl (v := .bool _) rfl ?_))
    refine ⟨A168, n169, c170, A172, n173, c174, eR (eT2 (eA (eC rfl (eC rfl (eC (eI ?_) (eC (eI ?_) (eC (eI ?_) rfl)))))) (eB ?_)), (SlO.eqv (hO171.kd hk192 hd183) ?_), (SlO.eqv (hO175.kd hk192 hd186) ?_), hd176, (fun b_ h_ => (hN177 b_ h_).elim (fun h => h.elim (fun h => ((show ∀ b_, Ax1 = some ⟨b_, 0, none⟩ → (Ax1 = some ⟨b_, 0, none⟩ ∨ Ax2 = some ⟨b_, 0, none⟩) ∨ w.heap.size ≤ b_ from (fun b_ h_ => .inl (.inl h_))) b_ h)) (fun h => ((show ∀ b_, Ax2 = some ⟨b_, 0, none⟩ → (Ax1 = some ⟨b_, 0, none⟩ ∨ Ax2 = some ⟨b_, 0, none⟩) ∨ w.heap.size ≤ b_ from (fun b_ h_ => .inl (.inr h_))) b_ h))) (fun h => .inr (by omega))), (fun b_ h_ => (hN178 b_ h_).elim (fun h => h.elim (fun h => ((show ∀ b_, Ax1 = some ⟨b_, 0, none⟩ → (Ax1 = some ⟨b_, 0, none⟩ ∨ Ax2 = some ⟨b_, 0, none⟩) ∨ w.heap.size ≤ b_ from (fun b_ h_ => .inl (.inl h_))) b_ h)) (fun h => ((show ∀ b_, Ax2 = some ⟨b_, 0, none⟩ → (Ax1 = some ⟨b_, 0, none⟩ ∨ Ax2 = some ⟨b_, 0, none⟩) ∨ w.heap.size ≤ b_ from (fun b_ h_ => .inl (.inr h_))) b_ h))) (fun h => .inr (by omega))), ((hB28.step hk167 (fun i_ hi_ e' => e'.elim (fun e' => by have := hm32.base_le e'; first | omega | exact e' | exact .inl e' | exact .inr e') (fun e' => by have := hm33.base_le e'; first | omega | exact e' | exact .inl e' | exact .inr e'))).new hk192)⟩ <;> (subst hl187 hl189; unfold impl_Library_use; rw [if_neg h36, if_neg h76, if_pos h165] <;> rfl)
   ·refine Ws (Wr (Q (r_eq rfl rfl) <| Q (aB rfl) <| Qn (W.cond_d rfl (fun h197 => ?_) (fun h197 => ?_))))
    ·refine Ws (W.regA (Kp (KA Ax1) w22) (fun f' w' => At f' [(3, .pointer (pA g1)), (4, .pointer (pA g11)), (6, .pointer (pA g21)), (7, .bool false)] ∧ (Kp (KA Ax1) w22 w') ∧ (SlO w' Bx1 encLMap 3 102 Ax1 nx1 cx1 (x.Maps.set k.toNat ({ (gt x.Maps k.toNat) with Torn := IntKind.i64.wrap (((gt x.Maps k.toNat).Torn) - s.Value) }))) ∧ ((x.Maps.set k.toNat ({ (gt x.Maps k.toNat) with Torn := IntKind.i64.wrap (((gt x.Maps k.toNat).Torn) - s.Value) }))[k.toNat]? = some ({ (gt x.Maps k.toNat) with Torn := IntKind.i64.wrap (((gt x.Maps k.toNat).Torn) - s.Value) }))) mo ?_ ?_)
     ·intro w224 hk225
      have hz226 := hk225.size
      refine Ak 0 rfl ((Kp.refl w22 : Kp (KA Ax1) w22 w22).lo hk225) (fun w' hw' => r_mv (v := .pointer (some _)) rfl) <| Ak 1 rfl ((Kp.refl w22 : Kp (KA Ax1) w22 w22).lo hk225) (fun w' hw' => r_nilc rfl) <| Ak 2 rfl ((Kp.refl w22 : Kp (KA Ax1) w22 w22).lo hk225) (fun w' hw' => fA fa102_2 rfl) <| Ak 4 rfl ((Kp.refl w22 : Kp (KA Ax1) w22 w22).lo hk225) (fun w' hw' => fA fa106_3 rfl) <| Ak 5 rfl ((Kp.refl w22 : Kp (KA Ax1) w22 w22).lo hk225) (fun w' hw' => r_ld (v := .int .i64 s.Value) sca3 rfl (((hb16.lo hk24).kp hw' (fun e' => hd19 e')).cell rfl)) <| Ab 3 rfl (Q (r_ld (v := .int .i64 ((gt x.Maps k.toNat).Torn)) sca3 rfl (((hm32.lo hk225).rd).cell hx35 rfl)) (Qn ⟨(Kp.refl w22 : Kp (KA Ax1) w22 w22).lo hk225, _, rfl, (Ak 6 rfl ((Kp.refl w22 : Kp (KA Ax1) w22 w22).lo hk225) (fun w' hw' => r_subW rfl rfl) <| Ak 7 rfl ((Kp.refl w22 : Kp (KA Ax1) w22 w22).lo hk225) (fun w' hw' => r_nilc rfl) <| Ak 8 rfl ((Kp.refl w22 : Kp (KA Ax1) w22 w22).lo hk225) (fun w' hw' => fA fa102_2 rfl) <| Ab 9 rfl (SR.storeO (o := 2) (vs := [.int .i64 (IntKind.i64.wrap (((gt x.Maps k.toNat).Torn) - s.Value))]) (x1 := { (gt x.Maps k.toNat) with Torn := IntKind.i64.wrap (((gt x.Maps k.toNat).Torn) - s.Value) }) sca3.2 rfl (add_add _ _ _) rfl rfl (hm32.lo hk225) hx35 rfl ler rfl ?_))⟩))
      intro w228 hk229 hs230 hO231
      have hz232 := hk229.size
      have hS234 := ((Kp.refl w22 : Kp (KA Ax1) w22 w22).lo hk225).step hk229 (fun _ _ e => e)
      have hx235 : (x.Maps.set k.toNat ({ (gt x.Maps k.toNat) with Torn := IntKind.i64.wrap (((gt x.Maps k.toNat).Torn) - s.Value) }))[k.toNat]? = some ({ (gt x.Maps k.toNat) with Torn := IntKind.i64.wrap (((gt x.Maps k.toNat).Torn) - s.Value) }) := List.getElem?_set_self (List.getElem?_eq_some_iff.1 hx35).1
      refine Qn ⟨hS234, _, rfl, (AH.done (by kernel_rfl) (⟨(At.r rfl), hS234, hO231, hx235⟩))⟩
     rintro f236 w237 ⟨hat239, hR238, hm223, hx222⟩
     rw [← sets_of_at hat239]
     have hz240 := hR238.size
     refine Wr (Q (fA fa34_4 rfl) <| Q (lB sca3 rfl (hm31.kp hR238 (fun e' => hd9 e')) rfl) <| Q (fA fa106_3 rfl) <| Q (lB sca3 rfl ((hb16.lo hk24).kp hR238 (fun e' => hd19 e')) rfl) <| Q (r_addW rfl rfl) <| Q (fA fa34_4 rfl) <| Qw (o := 4) (vs := [.int .i64 (IntKind.i64.wrap (x.Mended + s.Value))]) sca3.2 rfl rfl rfl rfl (hm31.kp hR238 (fun e' => hd9 e')) ler rfl ?_)
     intro w243 hk244 hs245 hb246
     refine Qn (Ws (Wr (Q (lG agg34 rfl hb246 rfl) <| Qw (o := 0) (vs := [.slice Ax1 nx1 cx1, .slice Ax2 nx2 cx2, .int .i64 x.Bought, .int .i64 x.Dropped, .int .i64 (IntKind.i64.wrap (x.Mended + s.Value))]) agg34.2 rfl rfl rfl rfl ((hb26.kp hR238 (fun e' => hd29 e')).kn hk244) ler rfl ?_)))
     intro w251 hk252 hs253 hb254
     refine Q (aB rfl) <| Qn (W.ret (retCT rfl rfl agg34 hb254 rfl (v := .bool _) rfl ?_))
     refine ⟨Ax1, nx1, cx1, Ax2, nx2, cx2, eR (eT2 (eA (eC rfl (eC rfl (eC (eI ?_) (eC (eI ?_) (eC (eI ?_) rfl)))))) (eB ?_)), (SlO.eqv ((hm223.kd hk244 hd9).kd hk252 hd29) ?_), (SlO.eqv (((hm33.kp hR238 (fun b_ hb e' => hdx_Maps_x2 b_ e' hb)).kd hk244 hd10).kd hk252 hd30) ?_), hdx_Maps_x2, (fun b_ h_ => .inl (.inl h_)), (fun b_ h_ => .inl (.inr h_)), (((hB28.step hR238 (fun i_ hi_ e' => by have := hm32.base_le e'; first | omega | exact e' | exact .inl e' | exact .inr e')).new hk244).new hk252)⟩ <;> (subst hlex1 hlex2; unfold impl_Library_use; rw [if_neg h36, if_neg h76, if_neg h165, if_pos h197] <;> rfl)
    ·refine Ws (Wr (Q (r_eq rfl rfl) <| Q (aB rfl) <| Qn (W.cond_d rfl (fun h257 => ?_) (fun h257 => ?_))))
     ·refine Ws (W.regA (Kp (KA Ax1) w22) (fun f' w' => At f' [(3, .pointer (pA g1)), (4, .pointer (pA g11)), (6, .pointer (pA g21)), (7, .bool false), (8, .pointer (some ((adr Ax1).add (k.toNat * 3))))] ∧ (Kp (KA Ax1) w22 w') ∧ (SlO w' Bx1 encLMap 3 102 Ax1 nx1 cx1 (x.Maps.set k.toNat ({ (gt x.Maps k.toNat) with Torn := IntKind.i64.wrap (((gt x.Maps k.toNat).Torn) - s.Value) }))) ∧ ((x.Maps.set k.toNat ({ (gt x.Maps k.toNat) with Torn := IntKind.i64.wrap (((gt x.Maps k.toNat).Torn) - s.Value) }))[k.toNat]? = some ({ (gt x.Maps k.toNat) with Torn := IntKind.i64.wrap (((gt x.Maps k.toNat).Torn) - s.Value) }))) mo ?_ ?_)
      ·intro w284 hk285
       have hz286 := hk285.size
       refine Ak 0 rfl ((Kp.refl w22 : Kp (KA Ax1) w22 w22).lo hk285) (fun w' hw' => r_mv (v := .pointer (some _)) rfl) <| Ak 1 rfl ((Kp.refl w22 : Kp (KA Ax1) w22 w22).lo hk285) (fun w' hw' => r_nilc rfl) <| Ak 2 rfl ((Kp.refl w22 : Kp (KA Ax1) w22 w22).lo hk285) (fun w' hw' => fA fa102_2 rfl) <| Ak 4 rfl ((Kp.refl w22 : Kp (KA Ax1) w22 w22).lo hk285) (fun w' hw' => fA fa106_3 rfl) <| Ak 5 rfl ((Kp.refl w22 : Kp (KA Ax1) w22 w22).lo hk285) (fun w' hw' => r_ld (v := .int .i64 s.Value) sca3 rfl (((hb16.lo hk24).kp hw' (fun e' => hd19 e')).cell rfl)) <| Ab 3 rfl (Q (r_ld (v := .int .i64 ((gt x.Maps k.toNat).Torn)) sca3 rfl (((hm32.lo hk285).rd).cell hx35 rfl)) (Qn ⟨(Kp.refl w22 : Kp (KA Ax1) w22 w22).lo hk285, _, rfl, (Ak 6 rfl ((Kp.refl w22 : Kp (KA Ax1) w22 w22).lo hk285) (fun w' hw' => r_subW rfl rfl) <| Ak 7 rfl ((Kp.refl w22 : Kp (KA Ax1) w22 w22).lo hk285) (fun w' hw' => r_nilc rfl) <| Ak 8 rfl ((Kp.refl w22 : Kp (KA Ax1) w22 w22).lo hk285) (fun w' hw' => fA fa102_2 rfl) <| Ab 9 rfl (SR.storeO (o := 2) (vs := [.int .i64 (IntKind.i64.wrap (((gt x.Maps k.toNat).Torn) - s.Value))]) (x1 := { (gt x.Maps k.toNat) with Torn := IntKind.i64.wrap (((gt x.Maps k.toNat).Torn) - s.Value) }) sca3.2 rfl (add_add _ _ _) rfl rfl (hm32.lo hk285) hx35 rfl ler rfl ?_))⟩))
       intro w288 hk289 hs290 hO291
       have hz292 := hk289.size
       have hS294 := ((Kp.refl w22 : Kp (KA Ax1) w22 w22).lo hk285).step hk289 (fun _ _ e => e)
       have hx295 : (x.Maps.set k.toNat ({ (gt x.Maps k.toNat) with Torn := IntKind.i64.wrap (((gt x.Maps k.toNat).Torn) - s.Value) }))[k.toNat]? = some ({ (gt x.Maps k.toNat) with Torn := IntKind.i64.wrap (((gt x.Maps k.toNat).Torn) - s.Value) }) := List.getElem?_set_self (List.getElem?_eq_some_iff.1 hx35).1
       refine Qn ⟨hS294, _, rfl, (AH.done (by kernel_rfl) (⟨(At.r rfl), hS294, hO291, hx295⟩))⟩
      rintro f296 w297 ⟨hat299, hR298, hm283, hx282⟩
      rw [← sets_of_at hat299]
      have hz300 := hR298.size
      refine Ws ?_
      have hm302 := (hb16.lo hk24).kp hR298 (fun e' => hd19 e')
      refine W.regA (Kp (KA Ax1) w297) (fun f' w' => At f' [(3, .pointer (pA g1)), (4, .pointer (pA g11)), (6, .pointer (pA g21)), (7, .bool false)] ∧ (Kp (KA Ax1) w297 w') ∧ (SlO w' Bx1 encLMap 3 102 Ax1 nx1 cx1 ((x.Maps.set k.toNat ({ (gt x.Maps k.toNat) with Torn := IntKind.i64.wrap (((gt x.Maps k.toNat).Torn) - s.Value) })).set k.toNat ({ ({ (gt x.Maps k.toNat) with Torn := IntKind.i64.wrap (((gt x.Maps k.toNat).Torn) - s.Value) }) with Copies := IntKind.i64.wrap (((gt x.Maps k.toNat).Copies) - s.Value) }))) ∧ (((x.Maps.set k.toNat ({ (gt x.Maps k.toNat) with Torn := IntKind.i64.wrap (((gt x.Maps k.toNat).Torn) - s.Value) })).set k.toNat ({ ({ (gt x.Maps k.toNat) with Torn := IntKind.i64.wrap (((gt x.Maps k.toNat).Torn) - s.Value) }) with Copies := IntKind.i64.wrap (((gt x.Maps k.toNat).Copies) - s.Value) }))[k.toNat]? = some ({ ({ (gt x.Maps k.toNat) with Torn := IntKind.i64.wrap (((gt x.Maps k.toNat).Torn) - s.Value) }) with Copies := IntKind.i64.wrap (((gt x.Maps k.toNat).Copies) - s.Value) }))) mo ?_ ?_
      ·intro w329 hk330
       have hz331 := hk330.size
       refine Ak 0 rfl ((Kp.refl w297 : Kp (KA Ax1) w297 w297).lo hk330) (fun w' hw' => r_mv (v := .pointer (some _)) rfl) <| Ak 1 rfl ((Kp.refl w297 : Kp (KA Ax1) w297 w297).lo hk330) (fun w' hw' => r_nilc rfl) <| Ak 2 rfl ((Kp.refl w297 : Kp (KA Ax1) w297 w297).lo hk330) (fun w' hw' => fA fa102_1 rfl) <| Ak 4 rfl ((Kp.refl w297 : Kp (KA Ax1) w297 w297).lo hk330) (fun w' hw' => fA fa106_3 rfl) <| Ak 5 rfl ((Kp.refl w297 : Kp (KA Ax1) w297 w297).lo hk330) (fun w' hw' => r_ld (v := .int .i64 s.Value) sca3 rfl ((hm302.kp hw' (fun e' => hd19 e')).cell rfl)) <| Ab 3 rfl (Q (r_ld (v := .int .i64 ((gt x.Maps k.toNat).Copies)) sca3 rfl (((hm283.lo hk330).rd).cell hx282 rfl)) (Qn ⟨(Kp.refl w297 : Kp (KA Ax1) w297 w297).lo hk330, _, rfl, (Ak 6 rfl ((Kp.refl w297 : Kp (KA Ax1) w297 w297).lo hk330) (fun w' hw' => r_subW rfl rfl) <| Ak 7 rfl ((Kp.refl w297 : Kp (KA Ax1) w297 w297).lo hk330) (fun w' hw' => r_nilc rfl) <| Ak 8 rfl ((Kp.refl w297 : Kp (KA Ax1) w297 w297).lo hk330) (fun w' hw' => fA fa102_1 rfl) <| Ab 9 rfl (SR.storeO (o := 1) (vs := [.int .i64 (IntKind.i64.wrap (((gt x.Maps k.toNat).Copies) - s.Value))]) (x1 := { ({ (gt x.Maps k.toNat) with Torn := IntKind.i64.wrap (((gt x.Maps k.toNat).Torn) - s.Value) }) with Copies := IntKind.i64.wrap (((gt x.Maps k.toNat).Copies) - s.Value) }) sca3.2 rfl (add_add _ _ _) rfl rfl (hm283.lo hk330) hx282 rfl ler rfl ?_))⟩))
       intro w333 hk334 hs335 hO336
       have hz337 := hk334.size
       have hS339 := ((Kp.refl w297 : Kp (KA Ax1) w297 w297).lo hk330).step hk334 (fun _ _ e => e)
       have hx340 : ((x.Maps.set k.toNat ({ (gt x.Maps k.toNat) with Torn := IntKind.i64.wrap (((gt x.Maps k.toNat).Torn) - s.Value) })).set k.toNat ({ ({ (gt x.Maps k.toNat) with Torn := IntKind.i64.wrap (((gt x.Maps k.toNat).Torn) - s.Value) }) with Copies := IntKind.i64.wrap (((gt x.Maps k.toNat).Copies) - s.Value) }))[k.toNat]? = some ({ ({ (gt x.Maps k.toNat) with Torn := IntKind.i64.wrap (((gt x.Maps k.toNat).Torn) - s.Value) }) with Copies := IntKind.i64.wrap (((gt x.Maps k.toNat).Copies) - s.Value) }) := List.getElem?_set_self (List.getElem?_eq_some_iff.1 hx282).1
       refine Qn ⟨hS339, _, rfl, (AH.done (by kernel_rfl) (⟨(At.r rfl), hS339, hO336, hx340⟩))⟩
      rintro f341 w342 ⟨hat344, hR343, hm328, hx327⟩
      rw [← sets_of_at hat344]
      have hz345 := hR343.size
      have hm347 := (hm31.kp hR298 (fun e' => hd9 e')).kp hR343 (fun e' => hd9 e')
      refine Wr (Q (fA fa34_3 rfl) <| Q (lB sca3 rfl hm347 rfl) <| Q (fA fa106_3 rfl) <| Q (lB sca3 rfl (hm302.kp hR343 (fun e' => hd19 e')) rfl) <| Q (r_addW rfl rfl) <| Q (fA fa34_3 rfl) <| Qw (o := 3) (vs := [.int .i64 (IntKind.i64.wrap (x.Dropped + s.Value))]) sca3.2 rfl rfl rfl rfl hm347 ler rfl ?_)
      intro w350 hk351 hs352 hb353
      refine Qn (Ws (Wr (Q (lG agg34 rfl hb353 rfl) <| Qw (o := 0) (vs := [.slice Ax1 nx1 cx1, .slice Ax2 nx2 cx2, .int .i64 x.Bought, .int .i64 (IntKind.i64.wrap (x.Dropped + s.Value)), .int .i64 x.Mended]) agg34.2 rfl rfl rfl rfl (((hb26.kp hR298 (fun e' => hd29 e')).kp hR343 (fun e' => hd29 e')).kn hk351) ler rfl ?_)))
      intro w356 hk357 hs358 hb359
      refine Q (aB rfl) <| Qn (W.ret (retCT rfl rfl agg34 hb359 rfl (v := .bool _) rfl ?_))
      refine ⟨Ax1, nx1, cx1, Ax2, nx2, cx2, eR (eT2 (eA (eC rfl (eC rfl (eC (eI ?_) (eC (eI ?_) (eC (eI ?_) rfl)))))) (eB ?_)), (SlO.eqv ((hm328.kd hk351 hd9).kd hk357 hd29) ?_), (SlO.eqv ((((hm33.kp hR298 (fun b_ hb e' => hdx_Maps_x2 b_ e' hb)).kp hR343 (fun b_ hb e' => hdx_Maps_x2 b_ e' hb)).kd hk351 hd10).kd hk357 hd30) ?_), hdx_Maps_x2, (fun b_ h_ => .inl (.inl h_)), (fun b_ h_ => .inl (.inr h_)), ((((hB28.step hR298 (fun i_ hi_ e' => by have := hm32.base_le e'; first | omega | exact e' | exact .inl e' | exact .inr e')).step hR343 (fun i_ hi_ e' => by have := hm283.base_le e'; first | omega | exact e' | exact .inl e' | exact .inr e')).new hk351).new hk357)⟩ <;> (subst hlex1 hlex2; unfold impl_Library_use; rw [if_neg h36, if_neg h76, if_neg h165, if_neg h197, if_pos h257] <;> rfl)
     ·refine W.regA (Kp (KA Ax1) w22) (fun f' w' => At f' [(3, .pointer (pA g1)), (6, .pointer (pA g21)), (7, .bool false)] ∧ (Kp (KA Ax1) w22 w') ∧ (SlO w' Bx1 encLMap 3 102 Ax1 nx1 cx1 (x.Maps.set k.toNat ({ (gt x.Maps k.toNat) with Torn := IntKind.i64.wrap (((gt x.Maps k.toNat).Torn) + s.Value) }))) ∧ ((x.Maps.set k.toNat ({ (gt x.Maps k.toNat) with Torn := IntKind.i64.wrap (((gt x.Maps k.toNat).Torn) + s.Value) }))[k.toNat]? = some ({ (gt x.Maps k.toNat) with Torn := IntKind.i64.wrap (((gt x.Maps k.toNat).Torn) + s.Value) }))) mo ?_ ?_
      ·intro w388 hk389
       have hz390 := hk389.size
       refine Ak 0 rfl ((Kp.refl w22 : Kp (KA Ax1) w22 w22).lo hk389) (fun w' hw' => r_mv (v := .pointer (some _)) rfl) <| Ak 1 rfl ((Kp.refl w22 : Kp (KA Ax1) w22 w22).lo hk389) (fun w' hw' => r_nilc rfl) <| Ak 2 rfl ((Kp.refl w22 : Kp (KA Ax1) w22 w22).lo hk389) (fun w' hw' => fA fa102_2 rfl) <| Ak 4 rfl ((Kp.refl w22 : Kp (KA Ax1) w22 w22).lo hk389) (fun w' hw' => fA fa106_3 rfl) <| Ak 5 rfl ((Kp.refl w22 : Kp (KA Ax1) w22 w22).lo hk389) (fun w' hw' => r_ld (v := .int .i64 s.Value) sca3 rfl (((hb16.lo hk24).kp hw' (fun e' => hd19 e')).cell rfl)) <| Ab 3 rfl (Q (r_ld (v := .int .i64 ((gt x.Maps k.toNat).Torn)) sca3 rfl (((hm32.lo hk389).rd).cell hx35 rfl)) (Qn ⟨(Kp.refl w22 : Kp (KA Ax1) w22 w22).lo hk389, _, rfl, (Ak 6 rfl ((Kp.refl w22 : Kp (KA Ax1) w22 w22).lo hk389) (fun w' hw' => r_addW rfl rfl) <| Ak 7 rfl ((Kp.refl w22 : Kp (KA Ax1) w22 w22).lo hk389) (fun w' hw' => r_nilc rfl) <| Ak 8 rfl ((Kp.refl w22 : Kp (KA Ax1) w22 w22).lo hk389) (fun w' hw' => fA fa102_2 rfl) <| Ab 9 rfl (SR.storeO (o := 2) (vs := [.int .i64 (IntKind.i64.wrap (((gt x.Maps k.toNat).Torn) + s.Value))]) (x1 := { (gt x.Maps k.toNat) with Torn := IntKind.i64.wrap (((gt x.Maps k.toNat).Torn) + s.Value) }) sca3.2 rfl (add_add _ _ _) rfl rfl (hm32.lo hk389) hx35 rfl ler rfl ?_))⟩))
       intro w392 hk393 hs394 hO395
       have hz396 := hk393.size
       have hS398 := ((Kp.refl w22 : Kp (KA Ax1) w22 w22).lo hk389).step hk393 (fun _ _ e => e)
       have hx399 : (x.Maps.set k.toNat ({ (gt x.Maps k.toNat) with Torn := IntKind.i64.wrap (((gt x.Maps k.toNat).Torn) + s.Value) }))[k.toNat]? = some ({ (gt x.Maps k.toNat) with Torn := IntKind.i64.wrap (((gt x.Maps k.toNat).Torn) + s.Value) }) := List.getElem?_set_self (List.getElem?_eq_some_iff.1 hx35).1
       refine Qn ⟨hS398, _, rfl, (AH.done (by kernel_rfl) (⟨(At.r rfl), hS398, hO395, hx399⟩))⟩
      rintro f400 w401 ⟨hat403, hR402, hm387, hx386⟩
      rw [← sets_of_at hat403]
      have hz404 := hR402.size
      refine Ws (Wr (Q (lG agg34 rfl (hm31.kp hR402 (fun e' => hd9 e')) rfl) <| Qw (o := 0) (vs := (cLb Ax1 nx1 cx1 Ax2 nx2 cx2 x)) agg34.2 rfl rfl rfl rfl (hb26.kp hR402 (fun e' => hd29 e')) ler rfl ?_))
      intro w406 hk407 hs408 hb409
      refine Q (aB rfl) <| Qn (W.ret (retCT rfl rfl agg34 hb409 rfl (v := .bool _) rfl ?_))
      refine ⟨Ax1, nx1, cx1, Ax2, nx2, cx2, eR (eT2 (eA (eC rfl (eC rfl (eC (eI ?_) (eC (eI ?_) (eC (eI ?_) rfl)))))) (eB ?_)), (SlO.eqv (hm387.kd hk407 hd29) ?_), (SlO.eqv ((hm33.kp hR402 (fun b_ hb e' => hdx_Maps_x2 b_ e' hb)).kd hk407 hd30) ?_), hdx_Maps_x2, (fun b_ h_ => .inl (.inl h_)), (fun b_ h_ => .inl (.inr h_)), ((hB28.step hR402 (fun i_ hi_ e' => by have := hm32.base_le e'; first | omega | exact e' | exact .inl e' | exact .inr e')).new hk407)⟩ <;> (subst hlex1 hlex2; unfold impl_Library_use; rw [if_neg h36, if_neg h76, if_neg h165, if_neg h197, if_neg h257] <;> rfl)
end Go.Proofs.YtndcchndcghmoaaGreatDoor
namespace Go.Proofs.YtndcchndcghmoaaGreatDoor
open Go Go.RowKit Fw
section
variable (x : Library) (s : LibraryStep) (k : Int)
theorem hand_lenMaps : (((impl_Library_hand x s).1).Maps).length ≤ x.Maps.length := by
  unfold impl_Library_hand
  split
  · simp
  · split
    · simp
    · exact Nat.le_trans (give_lenMaps _ _ _) (fetch_lenMaps _ _ _)
theorem hand_lenAway : (((impl_Library_hand x s).1).Away).length ≤ x.Away.length + 1 := by
  unfold impl_Library_hand
  split
  · simp
  · split
    · simp
    · have h1 := give_lenAway ((impl_Library_fetch x s.Id s.Reader).1) s.Id s.Value
      have h2 := fetch_lenAway x s.Id s.Reader
      dsimp only; omega
theorem use_lenMaps : (((impl_Library_use x s k).1).Maps).length ≤ x.Maps.length := by
  unfold impl_Library_use
  repeat' split
  · exact Nat.le_trans (give_lenMaps _ _ _) (by simp)
  · exact Nat.le_trans (fetch_lenMaps _ _ _) (by simp)
  · exact hand_lenMaps x s
  all_goals simp
theorem use_lenAway : (((impl_Library_use x s k).1).Away).length ≤ x.Away.length + 1 := by
  unfold impl_Library_use
  repeat' split
  · exact give_lenAway _ _ _
  · exact Nat.le_trans (fetch_lenAway _ _ _) (by simp)
  · exact hand_lenAway x s
  all_goals simp
end
end Go.Proofs.YtndcchndcghmoaaGreatDoor
namespace Go.Proofs.YtndcchndcghmoaaGreatDoor
open Go Go.RowKit Fw
set_option maxRecDepth 10000
set_option maxHeartbeats 2000000
set_option linter.unusedVariables false
theorem ent150 : Ent Tryz.prog 150 := en Tryz.func150
theorem ent151 : Ent Tryz.prog 151 := en Tryz.func151
theorem ent152 : Ent Tryz.prog 152 := en Tryz.func152
theorem ent47 : Ent Tryz.prog 47 := en Tryz.func47
open Classical in
noncomputable def impl_Library_stepped (x : Library) (s : LibraryStep) : Library × Bool :=
 if (!(impl_isLibraryStep s)) = true then ((⟨([] : List LMap), ([] : List Away), 0, 0, 0⟩ : Library), false) else if s.Kind = 1 then (if LibOK (impl_Library_buy x s) then ((impl_Library_buy x s), true) else ((⟨([] : List LMap), ([] : List Away), 0, 0, 0⟩ : Library), false)) else if bsF cmpM s.Id x.Maps then (if ((!((impl_Library_use x s (bsP cmpM s.Id x.Maps : Int)).2)) = true) ∨ (¬ (LibOK ((impl_Library_use x s (bsP cmpM s.Id x.Maps : Int)).1))) then ((⟨([] : List LMap), ([] : List Away), 0, 0, 0⟩ : Library), false) else (((impl_Library_use x s (bsP cmpM s.Id x.Maps : Int)).1), true)) else ((⟨([] : List LMap), ([] : List Away), 0, 0, 0⟩ : Library), false)
theorem c__impl_Library__stepped (w : World) (x : Library) {Ax1 : Option Addr} {nx1 cx1 Bx1 : Nat} (hx1 : SlR w Bx1 encLMap 3 Ax1 nx1 cx1 x.Maps) {Ax2 : Option Addr} {nx2 cx2 Bx2 : Nat} (hx2 : SlR w Bx2 encAway 2 Ax2 nx2 cx2 x.Away) (s : LibraryStep) (hp0 : (nx1 : Int) ≤ 50) (hp1 : (nx2 : Int) ≤ 50) : Calls Tryz.prog 97 #[.agg (List.toArray (cLb Ax1 nx1 cx1 Ax2 nx2 cx2 x)), .agg (List.toArray (encLibraryStep s))] w fun e w' => ∃ (A1' : Option Addr) (n1' c1' : Nat) (A2' : Option Addr) (n2' c2' : Nat), e = .returned (.tuple (List.toArray [.agg (List.toArray [.slice A1' n1' c1', .slice A2' n2' c2', .int .i64 (((impl_Library_stepped x s).1).Bought), .int .i64 (((impl_Library_stepped x s).1).Dropped), .int .i64 (((impl_Library_stepped x s).1).Mended)]), .bool ((impl_Library_stepped x s).2)])) ∧ SlO w' w.heap.size encLMap 3 102 A1' n1' c1' (((impl_Library_stepped x s).1).Maps) ∧ SlO w' w.heap.size encAway 2 129 A2' n2' c2' (((impl_Library_stepped x s).1).Away) ∧ Dj A1' A2' ∧ Lo w w' := by
 refine calls_W 48 Tryz.func97 rfl rfl rfl ?_
 have hbdx1 := hx1.bound
 have hlex1 := hx1.len
 have hBbx1 := hx1.bd
 have hbdx2 := hx2.bound
 have hlex2 := hx2.len
 have hBbx2 := hx2.bd
 refine Ws (Wr (SR.box (v := .agg (List.toArray _)) (l := (cLb Ax1 nx1 cx1 Ax2 nx2 cx2 x)) rfl rfl ?_))
 intro g1 w2 hg3 hk4 hs5 hb6
 refine SR.box (v := .agg (List.toArray _)) (l := [.int .i64 s.Kind, .int .i64 s.Id, .int .i64 s.Reader, .int .i64 s.Value]) rfl rfl ?_
 intro g9 w10 hg11 hk12 hs13 hb14
 refine SR.alloc (l := [.slice none 0 0, .slice none 0 0, .int .i64 0, .int .i64 0, .int .i64 0]) tz34 rfl ?_
 intro g17 w18 hg19 hk20 hs21 hb22
 refine Q (aB rfl) <| Qn (Ws (Ws (Wr (Q (lG agg106 rfl (hb14.lo hk20) rfl) <| Qv ent150 (c_impl_isLibraryStep w18 s) rfl fun w28 hk29 hz30 => ?_))))
 have hB31 := ((((Lo.refl w).lo hk4).lo hk12).lo hk20).lo hk29
 refine Q (r_not rfl) <| Qn (W.cond_b rfl (fun h32 => ?_) (fun h32 => ?_))
 ·have hq33 := bnot_t h32
  refine Ws (Wr (Q (r_build (vs := []) rfl bld34_) <| Qw (o := 0) (vs := [.slice none 0 0, .slice none 0 0, .int .i64 0, .int .i64 0, .int .i64 0]) agg34.2 rfl rfl rfl rfl (hb22.lo hk29) ler rfl ?_))
  intro w35 hk36 hs37 hb38
  refine Q (aB rfl) <| Qn (W.ret (retCT rfl rfl agg34 hb38 rfl (v := .bool _) rfl ?_))
  refine ⟨none, 0, 0, none, 0, 0, eR (eT2 (eA (eC rfl (eC rfl (eC (eI ?_) (eC (eI ?_) (eC (eI ?_) rfl)))))) (eB ?_)), (SlO.eqv (SlO.nil (e := 102) (enc := encLMap) (fun _ => rfl) (by omega)) ?_), (SlO.eqv (SlO.nil (e := 129) (enc := encAway) (fun _ => rfl) (by omega)) ?_), (fun b_ h => by cases h), (hB31.new hk36)⟩ <;> (unfold impl_Library_stepped; rw [if_pos h32] <;> rfl)
 ·have hq41 := bnot_f h32
  refine W.skip (Ws (Wr (Q (lG agg34 rfl (((hb6.lo hk12).lo hk20).lo hk29) rfl) <| SR.call ent47 (c__impl_Library__own w28 x ((((hx1.lo hk4).lo hk12).lo hk20).lo hk29) ((((hx2.lo hk4).lo hk12).lo hk20).lo hk29) (by omega) (by omega)) rfl ?_)))
  rintro e w43 ⟨A45, n46, c47, A49, n50, c51, rfl, hO48, hO52, hd53, hk44⟩
  refine ⟨_, rfl, ?_⟩
  have hz54 := hk44.size
  have hl56 := hO48.len
  have hl57 := hO48.rd.bound
  have hl58 := hO52.len
  have hl59 := hO52.rd.bound
  refine SR.alloc (l := [.slice none 0 0, .slice none 0 0, .int .i64 0, .int .i64 0, .int .i64 0]) tz34 rfl ?_
  intro g60 w61 hg62 hk63 hs64 hb65
  have hd68 := SlO.ne (g := g60) hO48
  have hd69 := SlO.ne (g := g60) hO52
  refine Qw (o := 0) (vs := (cLb A45 n46 c47 A49 n50 c51 x)) agg34.2 rfl rfl rfl rfl hb65 ler rfl ?_
  intro w70 hk71 hs72 hb73
  have hB75 := ((hB31.lo hk44).lo hk63).new hk71
  refine Q (aB rfl) <| Qn (Ws (Ws ?_))
  have hm76 := ((((hb14.lo hk20).lo hk29).lo hk44).lo hk63).kn hk71
  have hm77 := (((hb22.lo hk29).lo hk44).lo hk63).kn hk71
  have hm78 := (hO48.lo hk63).kd hk71 hd68
  have hm79 := (hO52.lo hk63).kd hk71 hd69
  refine Wr (Q (fA fa106_0 rfl) <| Q (lB sca3 rfl hm76 rfl) <| Q (r_eq rfl rfl) <| Qn (W.cond_d rfl (fun h80 => ?_) (fun h80 => ?_)))
  ·refine Wr (Q (lG agg34 rfl hb73 rfl) <| Q (lG agg106 rfl hm76 rfl) <| SR.call ent151 (c__impl_Library__buy w70 x hm78 hm79 s hd53 (by omega) (by omega)) rfl ?_)
   rintro e w81 ⟨A83, n84, c85, A87, n88, c89, rfl, hO86, hO90, hd91, hN92, hN93, hk82⟩
   refine ⟨_, rfl, ?_⟩
   have hz94 := hk82.size
   have hd98 : ¬ A83 = some ⟨g17, 0, none⟩ := fun e' => (hN92 g17 e').elim (fun h => h.elim (fun h => (by have := hm78.base_le h; omega)) (fun h => (by have := hm79.base_le h; omega))) (fun h => by have := hm77.lt; omega)
   have hd99 : ¬ A83 = some ⟨g60, 0, none⟩ := fun e' => (hN92 g60 e').elim (fun h => h.elim (fun h => hd68 h) (fun h => hd69 h)) (fun h => by have := hb73.lt; omega)
   have hd102 : ¬ A87 = some ⟨g17, 0, none⟩ := fun e' => (hN93 g17 e').elim (fun h => h.elim (fun h => (by have := hm78.base_le h; omega)) (fun h => (by have := hm79.base_le h; omega))) (fun h => by have := hm77.lt; omega)
   have hd103 : ¬ A87 = some ⟨g60, 0, none⟩ := fun e' => (hN93 g60 e').elim (fun h => h.elim (fun h => hd68 h) (fun h => hd69 h)) (fun h => by have := hb73.lt; omega)
   have hl104 := hO86.len
   have hl105 := hO86.rd.bound
   have hq106 := buy_lenMaps x s
   have hl107 := hO90.len
   have hl108 := hO90.rd.bound
   have hq109 := buy_lenAway x s
   refine Qw (o := 0) (vs := [.slice A83 n84 c85, .slice A87 n88 c89, .int .i64 ((impl_Library_buy x s).Bought), .int .i64 ((impl_Library_buy x s).Dropped), .int .i64 ((impl_Library_buy x s).Mended)]) agg34.2 rfl rfl rfl rfl (hb73.kp hk82 (fun e' => e'.elim (fun e' => hd68 e') (fun e' => hd69 e'))) ler rfl ?_
   intro w110 hk111 hs112 hb113
   refine Qn (Ws (Ws ?_))
   have hm116 := (hm77.kp hk82 (fun e' => e'.elim (fun e' => by have := hm78.base_le e'; omega) (fun e' => by have := hm79.base_le e'; omega))).kn hk111
   refine Wr (Q (mB rfl) <| Q (r_not rfl) <| Q (mB rfl) <| Qg rfl (lG agg34 rfl hb113 rfl) <| SR.gcall rfl ent72 (c_impl_IsLibrary w110 (impl_Library_buy x s) ((hO86.kd hk111 hd99).rd) ((hO90.kd hk111 hd103).rd) (by omega)) rfl ?_)
   rintro e w117 ⟨rfl, hk118⟩
   refine ⟨_, rfl, ?_⟩
   have hz119 := hk118.size
   have hB120 := ((hB75.step hk82 (fun i_ hi_ e' => e'.elim (fun e' => by have := hm78.base_le e'; first | omega | exact e' | exact .inl e' | exact .inr e') (fun e' => by have := hm79.base_le e'; first | omega | exact e' | exact .inl e' | exact .inr e'))).new hk111).lo hk118
   refine Qg rfl (r_not rfl) <| Q (r_pick false rfl (v := .bool _) rfl) <| Qn (W.cond_n rfl (fun h121 => ?_) (fun h121 => ?_))
   ·refine Ws (Wr (Q (r_build (vs := []) rfl bld34_) <| Qw (o := 0) (vs := [.slice none 0 0, .slice none 0 0, .int .i64 0, .int .i64 0, .int .i64 0]) agg34.2 rfl rfl rfl rfl (hm116.lo hk118) ler rfl ?_))
    intro w124 hk125 hs126 hb127
    refine Q (aB rfl) <| Qn (W.ret (retCT rfl rfl agg34 hb127 rfl (v := .bool _) rfl ?_))
    refine ⟨none, 0, 0, none, 0, 0, eR (eT2 (eA (eC rfl (eC rfl (eC (eI ?_) (eC (eI ?_) (eC (eI ?_) rfl)))))) (eB ?_)), (SlO.eqv (SlO.nil (e := 102) (enc := encLMap) (fun _ => rfl) (by omega)) ?_), (SlO.eqv (SlO.nil (e := 129) (enc := encAway) (fun _ => rfl) (by omega)) ?_), (fun b_ h => by cases h), (hB120.new hk125)⟩ <;> (unfold impl_Library_stepped; rw [if_neg (ne_true_of_eq_false h32), if_pos h80, if_neg h121] <;> rfl)
   ·refine W.skip (Ws (Wr (Q (lG agg34 rfl (hb113.lo hk118) rfl) <| Qw (o := 0) (vs := [.slice A83 n84 c85, .slice A87 n88 c89, .int .i64 ((impl_Library_buy x s).Bought), .int .i64 ((impl_Library_buy x s).Dropped), .int .i64 ((impl_Library_buy x s).Mended)]) agg34.2 rfl rfl rfl rfl (hm116.lo hk118) ler rfl ?_)))
    intro w132 hk133 hs134 hb135
    refine Q (aB rfl) <| Qn (W.ret (retCT rfl rfl agg34 hb135 rfl (v := .bool _) rfl ?_))
    refine ⟨A83, n84, c85, A87, n88, c89, eR (eT2 (eA (eC rfl (eC rfl (eC (eI ?_) (eC (eI ?_) (eC (eI ?_) rfl)))))) (eB ?_)), (SlO.eqv ((((hO86.kd hk111 hd99).lo hk118).kd hk133 hd98).down) ?_), (SlO.eqv ((((hO90.kd hk111 hd103).lo hk118).kd hk133 hd102).down) ?_), hd91, (hB120.new hk133)⟩ <;> (subst hl104 hl107; unfold impl_Library_stepped; rw [if_neg (ne_true_of_eq_false h32), if_pos h80, if_pos h121] <;> rfl)
  ·refine Ws (Wr (Q (lG agg34 rfl hb73 rfl) <| Q (fA fa106_1 rfl) <| Q (lB sca3 rfl hm76 rfl) <| Qv ent121 (c__impl_Library__mapAt w70 x (hm78.rd) (hm79.rd) s.Id (by omega)) rfl fun w138 hk139 hz140 => ?_))
   have hB141 := hB75.lo hk139
   have hq142 : bsP cmpM s.Id x.Maps ≤ x.Maps.length := bsP_le
   refine Q (mT rfl) <| Q (xI rfl rfl) <| Q (xB rfl rfl) <| Q (aI rfl) <| Q (aB rfl) <| Qn (Ws (Ws (Wr (Q (mB rfl) <| Q (r_not rfl) <| Qn (W.cond_n rfl (fun h143 => ?_) (fun h143 => ?_))))))
   ·refine Ws (Wr (Q (r_build (vs := []) rfl bld34_) <| Qw (o := 0) (vs := [.slice none 0 0, .slice none 0 0, .int .i64 0, .int .i64 0, .int .i64 0]) agg34.2 rfl rfl rfl rfl (hm77.lo hk139) ler rfl ?_))
    intro w144 hk145 hs146 hb147
    refine Q (aB rfl) <| Qn (W.ret (retCT rfl rfl agg34 hb147 rfl (v := .bool _) rfl ?_))
    refine ⟨none, 0, 0, none, 0, 0, eR (eT2 (eA (eC rfl (eC rfl (eC (eI ?_) (eC (eI ?_) (eC (eI ?_) rfl)))))) (eB ?_)), (SlO.eqv (SlO.nil (e := 102) (enc := encLMap) (fun _ => rfl) (by omega)) ?_), (SlO.eqv (SlO.nil (e := 129) (enc := encAway) (fun _ => rfl) (by omega)) ?_), (fun b_ h => by cases h), (hB141.new hk145)⟩ <;> (unfold impl_Library_stepped; rw [if_neg (ne_true_of_eq_false h32), if_neg h80, if_neg h143] <;> rfl)
   ·have hq150 := And.left h143
    have hq151 := And.left h143
    refine W.skip (Wr (Q (lG agg34 rfl (hb73.lo hk139) rfl) <| Q (lG agg106 rfl (hm76.lo hk139) rfl) <| Q (mI rfl) <| SR.call ent152 (c__impl_Library__use w138 x (hm78.lo hk139) (hm79.lo hk139) s (bsP cmpM s.Id x.Maps : Int) hd53 (by omega) (by omega) (by omega)) rfl ?_))
    rintro e w152 ⟨A154, n155, c156, A158, n159, c160, rfl, hO157, hO161, hd162, hN163, hN164, hk153⟩
    refine ⟨_, rfl, ?_⟩
    have hz165 := hk153.size
    have hd169 : ¬ A154 = some ⟨g17, 0, none⟩ := fun e' => (hN163 g17 e').elim (fun h => h.elim (fun h => (by have := (hm78.lo hk139).base_le h; omega)) (fun h => (by have := (hm79.lo hk139).base_le h; omega))) (fun h => by have := (hm77.lo hk139).lt; omega)
    have hd170 : ¬ A154 = some ⟨g60, 0, none⟩ := fun e' => (hN163 g60 e').elim (fun h => h.elim (fun h => hd68 h) (fun h => hd69 h)) (fun h => by have := (hb73.lo hk139).lt; omega)
    have hd173 : ¬ A158 = some ⟨g17, 0, none⟩ := fun e' => (hN164 g17 e').elim (fun h => h.elim (fun h => (by have := (hm78.lo hk139).base_le h; omega)) (fun h => (by have := (hm79.lo hk139).base_le h; omega))) (fun h => by have := (hm77.lo hk139).lt; omega)
    have hd174 : ¬ A158 = some ⟨g60, 0, none⟩ := fun e' => (hN164 g60 e').elim (fun h => h.elim (fun h => hd68 h) (fun h => hd69 h)) (fun h => by have := (hb73.lo hk139).lt; omega)
    have hl175 := hO157.len
    have hl176 := hO157.rd.bound
    have hq177 := use_lenMaps x s (bsP cmpM s.Id x.Maps : Int)
    have hl178 := hO161.len
    have hl179 := hO161.rd.bound
    have hq180 := use_lenAway x s (bsP cmpM s.Id x.Maps : Int)
    refine Q (mT rfl) <| Q (xG rfl rfl) <| Q (xB rfl rfl) <| Qw (o := 0) (vs := [.slice A154 n155 c156, .slice A158 n159 c160, .int .i64 (((impl_Library_use x s (bsP cmpM s.Id x.Maps : Int)).1).Bought), .int .i64 (((impl_Library_use x s (bsP cmpM s.Id x.Maps : Int)).1).Dropped), .int .i64 (((impl_Library_use x s (bsP cmpM s.Id x.Maps : Int)).1).Mended)]) agg34.2 rfl rfl rfl rfl ((hb73.lo hk139).kp hk153 (fun e' => e'.elim (fun e' => hd68 e') (fun e' => hd69 e'))) ler rfl ?_
    intro w181 hk182 hs183 hb184
    refine Q (aB rfl) <| Qn (Ws (Ws ?_))
    have hm187 := ((hm77.lo hk139).kp hk153 (fun e' => e'.elim (fun e' => by have := (hm78.lo hk139).base_le e'; omega) (fun e' => by have := (hm79.lo hk139).base_le e'; omega))).kn hk182
    refine W.regJS (fun f' w' => At f' [(4, .pointer (pA g17)), (5, .bool false), (6, .pointer (pA g60)), (45, .bool (decide (((!((impl_Library_use x s (bsP cmpM s.Id x.Maps : Int)).2)) = true) ∨ (¬ (LibOK ((impl_Library_use x s (bsP cmpM s.Id x.Maps : Int)).1))))))] ∧ Lo w181 w') ?_ ?_
    ·refine Q (mB rfl) <| Q (r_not rfl) <| Q (mB rfl) <| SR.split (fun h188 => ?_) (fun h188 => ?_)
     ·have hq189 := bnot_t h188
      refine Qs rfl <| Qs rfl <| Qs rfl <| Q (r_pick true rfl (v := .bool true) rfl) <| Qn (⟨_, rfl, ⟨⟨rfl, rfl, rfl, (eDT ((jot h188).1 trivial)), trivial⟩, (Lo.refl _)⟩⟩)
     ·have hq190 := bnot_f h188
      refine Qg rfl (lG agg34 rfl hb184 rfl) <| SR.gcall rfl ent72 (c_impl_IsLibrary w181 ((impl_Library_use x s (bsP cmpM s.Id x.Maps : Int)).1) ((hO157.kd hk182 hd170).rd) ((hO161.kd hk182 hd174).rd) (by omega)) rfl ?_
      rintro e w191 ⟨rfl, hk192⟩
      refine ⟨_, rfl, ?_⟩
      have hz193 := hk192.size
      refine Qg rfl (r_not rfl) <| Q (r_pick false rfl (v := .bool _) rfl) <| Qn (⟨_, rfl, ⟨⟨rfl, rfl, rfl, (eND (jof (ne_true_of_eq_false h188))), trivial⟩, hk192⟩⟩)
    rintro f195 w196 ⟨hat197, hk198⟩
    rw [← sets_of_at hat197]
    have hz199 := hk198.size
    have hB200 := ((hB141.step hk153 (fun i_ hi_ e' => e'.elim (fun e' => by have := (hm78.lo hk139).base_le e'; first | omega | exact e' | exact .inl e' | exact .inr e') (fun e' => by have := (hm79.lo hk139).base_le e'; first | omega | exact e' | exact .inl e' | exact .inr e'))).new hk182).lo hk198
    refine W.cond_d rfl (fun h201 => ?_) (fun h201 => ?_)
    ·refine Ws (Wr (Q (r_build (vs := []) rfl bld34_) <| Qw (o := 0) (vs := [.slice none 0 0, .slice none 0 0, .int .i64 0, .int .i64 0, .int .i64 0]) agg34.2 rfl rfl rfl rfl (hm187.lo hk198) ler rfl ?_))
     intro w204 hk205 hs206 hb207
     refine Q (aB rfl) <| Qn (W.ret (retCT rfl rfl agg34 hb207 rfl (v := .bool _) rfl ?_))
     refine ⟨none, 0, 0, none, 0, 0, eR (eT2 (eA (eC rfl (eC rfl (eC (eI ?_) (eC (eI ?_) (eC (eI ?_) rfl)))))) (eB ?_)), (SlO.eqv (SlO.nil (e := 102) (enc := encLMap) (fun _ => rfl) (by omega)) ?_), (SlO.eqv (SlO.nil (e := 129) (enc := encAway) (fun _ => rfl) (by omega)) ?_), (fun b_ h => by cases h), (hB200.new hk205)⟩ <;> (unfold impl_Library_stepped; rw [if_neg (ne_true_of_eq_false h32), if_neg h80, if_pos h143, if_pos h201] <;> rfl)
    ·have hq210 : ¬ ((!((impl_Library_use x s (bsP cmpM s.Id x.Maps : Int)).2)) = true) := (not_or.1 h201).1
     have hq211 : LibOK ((impl_Library_use x s (bsP cmpM s.Id x.Maps : Int)).1) := (Classical.not_not.1 (not_or.1 h201).2)
     refine W.skip (Ws (Wr (Q (lG agg34 rfl (hb184.lo hk198) rfl) <| Qw (o := 0) (vs := [.slice A154 n155 c156, .slice A158 n159 c160, .int .i64 (((impl_Library_use x s (bsP cmpM s.Id x.Maps : Int)).1).Bought), .int .i64 (((impl_Library_use x s (bsP cmpM s.Id x.Maps : Int)).1).Dropped), .int .i64 (((impl_Library_use x s (bsP cmpM s.Id x.Maps : Int)).1).Mended)]) agg34.2 rfl rfl rfl rfl (hm187.lo hk198) ler rfl ?_)))
     intro w214 hk215 hs216 hb217
     refine Q (aB rfl) <| Qn (W.ret (retCT rfl rfl agg34 hb217 rfl (v := .bool _) rfl ?_))
     refine ⟨A154, n155, c156, A158, n159, c160, eR (eT2 (eA (eC rfl (eC rfl (eC (eI ?_) (eC (eI ?_) (eC (eI ?_) rfl)))))) (eB ?_)), (SlO.eqv ((((hO157.kd hk182 hd170).lo hk198).kd hk215 hd169).down) ?_), (SlO.eqv ((((hO161.kd hk182 hd174).lo hk198).kd hk215 hd173).down) ?_), hd162, (hB200.new hk215)⟩ <;> (subst hl175 hl178; unfold impl_Library_stepped; rw [if_neg (ne_true_of_eq_false h32), if_neg h80, if_pos h143, if_neg h201] <;> rfl)
end Go.Proofs.YtndcchndcghmoaaGreatDoor
namespace Go.Proofs.YtndcchndcghmoaaGreatDoor
open Go Go.RowKit Fw
set_option maxRecDepth 10000
set_option maxHeartbeats 2000000
set_option linter.unusedVariables false
theorem c_spec_l32Away (w : World) (x : Library) {Ax1 : Option Addr} {nx1 cx1 Bx1 : Nat} (hx1 : SlR w Bx1 encLMap 3 Ax1 nx1 cx1 x.Maps) {Ax2 : Option Addr} {nx2 cx2 Bx2 : Nat} (hx2 : SlR w Bx2 encAway 2 Ax2 nx2 cx2 x.Away) (id : Int) (r : Int) : Calls Tryz.prog 192 #[.agg (List.toArray (cLb Ax1 nx1 cx1 Ax2 nx2 cx2 x)), .int .i64 id, .int .i64 r] w fun e w' => e = .returned (.int .i64 (idxF (isA id r) x.Away)) ∧ Lo w w' := by
 refine calls_W 34 Tryz.func192 rfl rfl rfl ?_
 have hbdx1 := hx1.bound
 have hlex1 := hx1.len
 have hBbx1 := hx1.bd
 have hbdx2 := hx2.bound
 have hlex2 := hx2.len
 have hBbx2 := hx2.bd
 refine Ws (Wr (SR.box (v := .agg (List.toArray _)) (l := (cLb Ax1 nx1 cx1 Ax2 nx2 cx2 x)) rfl rfl ?_))
 intro g1 w2 hg3 hk4 hs5 hb6
 refine Q (aI rfl) <| Qn (Ws (Ws (Wr (Q (aI rfl) <| Qn (W.block (W.loop (σ := Nat) (fun g => [(1, .int .i64 id), (2, .int .i64 r), (3, .pointer (pA g1)), (7, .int .i64 (g : Int))]) (fun g w' => (Lo w w') ∧ (Blk w' g1 34 (cLb Ax1 nx1 cx1 Ax2 nx2 cx2 x)) ∧ (SlR w' Bx1 encLMap 3 Ax1 nx1 cx1 x.Maps) ∧ (SlR w' Bx2 encAway 2 Ax2 nx2 cx2 x.Away) ∧ (g ≤ nx2 ∧ NoneTo (isA id r) x.Away g)) (fun g => nx2 - g) 0 ?_ ?_ ?_))))))
 ·exact (At.r rfl)
 ·exact ⟨((Lo.refl w).lo hk4), hb6, hx1.lo hk4, hx2.lo hk4, (by exact ⟨Nat.zero_le _, NoneTo.zero⟩)⟩
 ·rintro k f9 w10 hP12
  obtain ⟨hB11, hm13, hm14, hm15, hi16⟩ : (Lo w w10) ∧ (Blk w10 g1 34 (cLb Ax1 nx1 cx1 Ax2 nx2 cx2 x)) ∧ (SlR w10 Bx1 encLMap 3 Ax1 nx1 cx1 x.Maps) ∧ (SlR w10 Bx2 encAway 2 Ax2 nx2 cx2 x.Away) ∧ (k ≤ nx2 ∧ NoneTo (isA id r) x.Away k) := hP12
  refine (?_ : W _ _ _ _ _ (act _ (sets f9 [(1, .int .i64 id), (2, .int .i64 r), (3, .pointer (pA g1)), (7, .int .i64 (k : Int))])) _)
  have hzw10 := hB11.size
  have hl17 := hm13.lt
  refine Ws (Ws (Wr (Q (mI rfl) <| Q (fA fa34_1 rfl) <| Q (lB sca32 rfl hm13 rfl) <| Q (r_len und32 rfl) <| Q (r_lt rfl rfl) <| Qn (W.cond_d rfl (fun h18 => ?_) (fun h18 => ?_)))))
  ·refine W.skip (Ws (W.block (Ws (W.regJS (fun f' w' => At f' [(1, .int .i64 id), (2, .int .i64 r), (3, .pointer (pA g1)), (7, .int .i64 (k : Int)), (32, .bool (decide ((((gt x.Away k).Map) = id) ∧ (((gt x.Away k).Reader) = r))))] ∧ Lo w10 w' ∧ (x.Away[k]? = some (gt x.Away k))) ?_ ?_))))
   ·refine Q (fA fa34_1 rfl) <| Q (lB sca32 rfl hm13 rfl) <| Q (mI rfl) <| ?_
    have hx20 := hm15.elem (i := k) (by omega)
    refine Q (r_ixR tsl32 hm15 rfl rfl (by omega)) <| Q (fA fa129_0 rfl) <| Q (r_ld (v := .int .i64 ((gt x.Away k).Map)) sca3 rfl (hm15.cell hx20 rfl)) <| Q (mI rfl) <| Q (r_eq rfl rfl) <| Q (mB rfl) <| SR.splitD (fun h21 => ?_) (fun h21 => ?_)
    ·refine Qg rfl (fA fa34_1 rfl) <| Qg rfl (lB sca32 rfl hm13 rfl) <| Qg rfl (mI rfl) <| Qg rfl (r_ixR tsl32 hm15 rfl rfl (by omega)) <| Qg rfl (fA fa129_1 rfl) <| Qg rfl (r_ld (v := .int .i64 ((gt x.Away k).Reader)) sca3 rfl (hm15.cell hx20 rfl)) <| Qg rfl (mI rfl) <| Qg rfl (r_eq rfl rfl) <| Q (r_pick true rfl (v := .bool _) rfl) <| Qn (⟨_, rfl, ⟨⟨rfl, rfl, rfl, rfl, (eDD (jat h21)), trivial⟩, (Lo.refl _), hx20⟩⟩)
    ·refine Qs rfl <| Qs rfl <| Qs rfl <| Qs rfl <| Qs rfl <| Qs rfl <| Qs rfl <| Qs rfl <| Q (r_pick false rfl (v := .bool false) rfl) <| Qn (⟨_, rfl, ⟨⟨rfl, rfl, rfl, rfl, (eDF (jaf h21).2), trivial⟩, (Lo.refl _), hx20⟩⟩)
   rintro f22 w23 ⟨hat24, hk25, hq26⟩
   rw [← sets_of_at hat24]
   have hz27 := hk25.size
   have hB28 := hB11.lo hk25
   refine W.cond_d rfl (fun h29 => ?_) (fun h29 => ?_)
   ·have hq30 : ((gt x.Away k).Map) = id := h29.1
    have hq31 : ((gt x.Away k).Reader) = r := h29.2
    refine Ws (Wr (Q (mI rfl) <| Q (aI rfl) <| Qn (W.ret (ret1 rfl (v := .int .i64 _) rfl (⟨eR (eI (by first | exact idx_at (And.right ‹_ ∧ NoneTo _ _ _›) ‹x.Away[k]? = some _› (by unfold isA; exact decide_eq_true ‹_›) | exact idx_no (And.right ‹_ ∧ NoneTo _ _ _›) hlex2 ‹_›)), hB28⟩)))))
   ·refine W.skip (Wr (Q (mI rfl) <| Q (r_add rfl rfl (by omega)) <| Q (aI rfl) <| Qn (⟨k + 1, _, rfl, (At.r rfl), ⟨hB28, hm13.lo hk25, hm14.lo hk25, hm15.lo hk25, ?_⟩, ?_⟩)))
    ·exact (by exact ⟨by omega, NoneTo.next (And.right ‹_ ∧ NoneTo _ _ _›) ‹x.Away[k]? = some _› (by unfold isA; exact decide_eq_false ‹_›)⟩)
    ·exact (by omega)
  ·refine W.exit (xin_here (Ws (Wr (Q (r_as (v := .int .i64 (-1)) rfl) <| Qn (W.ret (ret1 rfl (v := .int .i64 _) rfl (⟨eR (eI (by first | exact idx_at (And.right ‹_ ∧ NoneTo _ _ _›) ‹x.Away[k]? = some _› (by unfold isA; exact decide_eq_true ‹_›) | exact idx_no (And.right ‹_ ∧ NoneTo _ _ _›) hlex2 ‹_›)), hB11⟩)))))))
open Classical in
noncomputable def spec_l32Step (x : Library) (s : LibraryStep) : Bool :=
 if s.Kind = 1 then decide ((1 ≤ s.Id ∧ s.Id ≤ 99) ∧ ((s.Reader = 0) ∧ (1 ≤ s.Value ∧ s.Value ≤ 50))) else if s.Kind = 2 then decide ((0 ≤ (idxF (hasId s.Id) x.Maps)) ∧ ((1 ≤ s.Reader ∧ s.Reader ≤ 999) ∧ (s.Value = 0))) else if s.Kind = 3 then decide ((0 ≤ (idxF (hasId s.Id) x.Maps)) ∧ ((1 ≤ s.Reader ∧ s.Reader ≤ 999) ∧ (0 ≤ s.Value ∧ s.Value ≤ 1))) else if s.Kind = 5 then decide ((0 ≤ (idxF (hasId s.Id) x.Maps)) ∧ ((1 ≤ s.Reader ∧ s.Reader ≤ 999) ∧ (1 ≤ s.Value ∧ s.Value ≤ 999))) else decide (((s.Kind = 4) ∧ ((0 ≤ (idxF (hasId s.Id) x.Maps)) ∧ ((s.Reader = 0) ∧ (1 ≤ s.Value)))) ∨ ((¬ (s.Kind = 4)) ∧ (((s.Kind = 6) ∧ ((0 ≤ (idxF (hasId s.Id) x.Maps)) ∧ ((s.Reader = 0) ∧ (1 ≤ s.Value)))) ∨ ((¬ (s.Kind = 6)) ∧ ((s.Kind = 7) ∧ ((0 ≤ (idxF (hasId s.Id) x.Maps)) ∧ ((s.Reader = 0) ∧ (1 ≤ s.Value))))))))
theorem c_spec_l32Step (w : World) (x : Library) {Ax1 : Option Addr} {nx1 cx1 Bx1 : Nat} (hx1 : SlR w Bx1 encLMap 3 Ax1 nx1 cx1 x.Maps) {Ax2 : Option Addr} {nx2 cx2 Bx2 : Nat} (hx2 : SlR w Bx2 encAway 2 Ax2 nx2 cx2 x.Away) (s : LibraryStep) : Calls Tryz.prog 114 #[.agg (List.toArray (cLb Ax1 nx1 cx1 Ax2 nx2 cx2 x)), .agg (List.toArray (encLibraryStep s))] w fun e w' => e = .returned (.bool (spec_l32Step x s)) ∧ Lo w w' := by
 refine calls_W 91 Tryz.func114 rfl rfl rfl ?_
 have hbdx1 := hx1.bound
 have hlex1 := hx1.len
 have hBbx1 := hx1.bd
 have hbdx2 := hx2.bound
 have hlex2 := hx2.len
 have hBbx2 := hx2.bd
 refine Ws (Wr (SR.box (v := .agg (List.toArray _)) (l := (cLb Ax1 nx1 cx1 Ax2 nx2 cx2 x)) rfl rfl ?_))
 intro g1 w2 hg3 hk4 hs5 hb6
 refine SR.box (v := .agg (List.toArray _)) (l := [.int .i64 s.Kind, .int .i64 s.Id, .int .i64 s.Reader, .int .i64 s.Value]) rfl rfl ?_
 intro g9 w10 hg11 hk12 hs13 hb14
 refine Q (aB rfl) <| Qn (Ws (W.regD mo (by kernel_rfl) (QR.q' (fun w' hw' => r_lda (l := (cLb Ax1 nx1 cx1 Ax2 nx2 cx2 x)) agg34 rfl (fun _ _ hu => ((hb6.lo hk12).lo hw').cell hu) rfl) <| QR.q' (fun w' hw' => fA fa106_1 rfl) <| QR.q' (fun w' hw' => r_ld (v := .int .i64 s.Id) sca3 rfl ((hb14.lo hw').cell rfl)) <| QR.call ent165 (fun w' hw' => (c_spec_l32Map w' x (((hx1.lo hk4).lo hk12).lo hw') (((hx2.lo hk4).lo hk12).lo hw') s.Id).mono fun _ _ h => ⟨h.1, hw'.trans h.2⟩) rfl <| ?_)))
 have hq19 : idxF (hasId s.Id) x.Maps < (x.Maps.length : Int) ∧ -1 ≤ idxF (hasId s.Id) x.Maps := idx_lt
 refine QR.q' (fun w' hw' => r_ge rfl rfl) <| QR.q' (fun w' hw' => fA fa106_2 rfl) <| QR.q' (fun w' hw' => r_ld (v := .int .i64 s.Reader) sca3 rfl ((hb14.lo hw').cell rfl)) <| QR.call ent133 (fun w' hw' => (c_spec_l1In w' s.Reader 1 999).mono fun _ _ h => ⟨h.1, hw'.trans h.2⟩) rfl <| QR.q' (fun w' hw' => r_as (v := .bool _) rfl) <| QR.q' (fun w' hw' => r_as (v := .bool _) rfl) <| QR.nil ?_
 intro w20 hk21
 have hz22 := hk21.size
 have hB23 := (((Lo.refl w).lo hk4).lo hk12).lo hk21
 refine Ws (Ws (Wr (Q (fA fa106_0 rfl) <| Q (lB sca3 rfl (hb14.lo hk21) rfl) <| Qn (W.block (Ws (Wr (Q (r_eq rfl rfl) <| Q (aB rfl) <| Qn (W.cond_d rfl (fun h24 => ?_) (fun h24 => ?_)))))))))
 ·refine Ws (W.regJS (fun f' w' => At f' [(3, .pointer (pA g9)), (4, .bool (decide ((1 ≤ s.Id ∧ s.Id ≤ 99) ∧ ((s.Reader = 0) ∧ (1 ≤ s.Value ∧ s.Value ≤ 50))))), (5, .bool (decide (0 ≤ (idxF (hasId s.Id) x.Maps))))] ∧ Lo w20 w') ?_ ?_)
  ·refine Q (fA fa106_1 rfl) <| Q (lB sca3 rfl (hb14.lo hk21) rfl) <| Qv ent133 (c_spec_l1In w20 s.Id 1 99) rfl fun w25 hk26 hz27 => (Q (mB rfl) <| SR.splitD (fun h29 => ?_) (fun h29 => ?_))
   ·refine Qg rfl (fA fa106_2 rfl) <| Qg rfl (lB sca3 rfl ((hb14.lo hk21).lo hk26) rfl) <| Qg rfl (r_eq rfl rfl) <| Q (r_pick true rfl (v := .bool _) rfl) <| Q (mB rfl) <| SR.splitD (fun h30 => ?_) (fun h30 => ?_)
    ·refine Qg rfl (fA fa106_3 rfl) <| Qg rfl (lB sca3 rfl ((hb14.lo hk21).lo hk26) rfl) <| SR.gcall rfl ent133 (c_spec_l1In w25 s.Value 1 50) rfl ?_
     rintro e w31 ⟨rfl, hk32⟩
     refine ⟨_, rfl, ?_⟩
     have hz33 := hk32.size
     refine Q (r_pick true rfl (v := .bool _) rfl) <| Q (aB rfl) <| Qn (⟨_, rfl, ⟨⟨rfl, (eDD ((jat h30).trans (jat h29))), rfl, trivial⟩, (hk26.trans hk32)⟩⟩)
    ·refine Qs rfl <| Qs rfl <| Qs rfl <| Q (r_pick false rfl (v := .bool false) rfl) <| Q (aB rfl) <| Qn (⟨_, rfl, ⟨⟨rfl, (eDF ((jaf h30).trans (jat h29)).2), rfl, trivial⟩, hk26⟩⟩)
   ·refine Qs rfl <| Qs rfl <| Qs rfl <| Q (r_pick false rfl (v := .bool false) rfl) <| Q (mB rfl) <| Qs rfl <| Qs rfl <| Qs rfl <| Q (r_pick false rfl (v := .bool false) rfl) <| Q (aB rfl) <| Qn (⟨_, rfl, ⟨⟨rfl, (eDF (jaf h29).2), rfl, trivial⟩, hk26⟩⟩)
  rintro f35 w36 ⟨hat37, hk38⟩
  rw [← sets_of_at hat37]
  have hz39 := hk38.size
  refine W.ret (ret1 rfl (v := .bool _) rfl ?_)
  exact ⟨eR (eB (by unfold spec_l32Step; rw [if_pos h24] <;> rfl)), (hB23.lo hk38)⟩
 ·refine Ws (Wr (Q (r_eq rfl rfl) <| Q (aB rfl) <| Qn (W.cond_d rfl (fun h41 => ?_) (fun h41 => ?_))))
  ·refine Ws (W.regJS (fun f' w' => At f' [(3, .pointer (pA g9)), (4, .bool (decide ((0 ≤ (idxF (hasId s.Id) x.Maps)) ∧ ((1 ≤ s.Reader ∧ s.Reader ≤ 999) ∧ (s.Value = 0))))), (5, .bool (decide (0 ≤ (idxF (hasId s.Id) x.Maps))))] ∧ Lo w20 w') ?_ ?_)
   ·refine Q (mB rfl) <| Q (mB rfl) <| SR.splitD (fun h42 => ?_) (fun h42 => ?_)
    ·refine Qg rfl (mB rfl) <| Q (r_pick true rfl (v := .bool _) rfl) <| Q (mB rfl) <| SR.splitD (fun h43 => ?_) (fun h43 => ?_)
     ·refine Qg rfl (fA fa106_3 rfl) <| Qg rfl (lB sca3 rfl (hb14.lo hk21) rfl) <| Qg rfl (r_eq rfl rfl) <| Q (r_pick true rfl (v := .bool _) rfl) <| Q (aB rfl) <| Qn (⟨_, rfl, ⟨⟨rfl, (eDD ((jat h43).trans (jat h42))), rfl, trivial⟩, (Lo.refl _)⟩⟩)
     ·refine Qs rfl <| Qs rfl <| Qs rfl <| Q (r_pick false rfl (v := .bool false) rfl) <| Q (aB rfl) <| Qn (⟨_, rfl, ⟨⟨rfl, (eDF ((jaf h43).trans (jat h42)).2), rfl, trivial⟩, (Lo.refl _)⟩⟩)
    ·refine Qs rfl <| Q (r_pick false rfl (v := .bool false) rfl) <| Q (mB rfl) <| Qs rfl <| Qs rfl <| Qs rfl <| Q (r_pick false rfl (v := .bool false) rfl) <| Q (aB rfl) <| Qn (⟨_, rfl, ⟨⟨rfl, (eDF (jaf h42).2), rfl, trivial⟩, (Lo.refl _)⟩⟩)
   rintro f44 w45 ⟨hat46, hk47⟩
   rw [← sets_of_at hat46]
   have hz48 := hk47.size
   refine W.ret (ret1 rfl (v := .bool _) rfl ?_)
   exact ⟨eR (eB (by unfold spec_l32Step; rw [if_neg h24, if_pos h41] <;> rfl)), (hB23.lo hk47)⟩
  ·refine Ws (Wr (Q (r_eq rfl rfl) <| Q (aB rfl) <| Qn (W.cond_d rfl (fun h50 => ?_) (fun h50 => ?_))))
   ·refine Ws (W.regJS (fun f' w' => At f' [(3, .pointer (pA g9)), (4, .bool (decide ((0 ≤ (idxF (hasId s.Id) x.Maps)) ∧ ((1 ≤ s.Reader ∧ s.Reader ≤ 999) ∧ (0 ≤ s.Value ∧ s.Value ≤ 1))))), (5, .bool (decide (0 ≤ (idxF (hasId s.Id) x.Maps))))] ∧ Lo w20 w') ?_ ?_)
    ·refine Q (mB rfl) <| Q (mB rfl) <| SR.splitD (fun h51 => ?_) (fun h51 => ?_)
     ·refine Qg rfl (mB rfl) <| Q (r_pick true rfl (v := .bool _) rfl) <| Q (mB rfl) <| SR.splitD (fun h52 => ?_) (fun h52 => ?_)
      ·refine Qg rfl (fA fa106_3 rfl) <| Qg rfl (lB sca3 rfl (hb14.lo hk21) rfl) <| SR.gcall rfl ent133 (c_spec_l1In w20 s.Value 0 1) rfl ?_
       rintro e w53 ⟨rfl, hk54⟩
       refine ⟨_, rfl, ?_⟩
       have hz55 := hk54.size
       refine Q (r_pick true rfl (v := .bool _) rfl) <| Q (aB rfl) <| Qn (⟨_, rfl, ⟨⟨rfl, (eDD ((jat h52).trans (jat h51))), rfl, trivial⟩, hk54⟩⟩)
      ·refine Qs rfl <| Qs rfl <| Qs rfl <| Q (r_pick false rfl (v := .bool false) rfl) <| Q (aB rfl) <| Qn (⟨_, rfl, ⟨⟨rfl, (eDF ((jaf h52).trans (jat h51)).2), rfl, trivial⟩, (Lo.refl _)⟩⟩)
     ·refine Qs rfl <| Q (r_pick false rfl (v := .bool false) rfl) <| Q (mB rfl) <| Qs rfl <| Qs rfl <| Qs rfl <| Q (r_pick false rfl (v := .bool false) rfl) <| Q (aB rfl) <| Qn (⟨_, rfl, ⟨⟨rfl, (eDF (jaf h51).2), rfl, trivial⟩, (Lo.refl _)⟩⟩)
    rintro f57 w58 ⟨hat59, hk60⟩
    rw [← sets_of_at hat59]
    have hz61 := hk60.size
    refine W.ret (ret1 rfl (v := .bool _) rfl ?_)
    exact ⟨eR (eB (by unfold spec_l32Step; rw [if_neg h24, if_neg h41, if_pos h50] <;> rfl)), (hB23.lo hk60)⟩
   ·refine Ws (Wr (Q (r_eq rfl rfl) <| Q (aB rfl) <| Qn (W.cond_d rfl (fun h63 => ?_) (fun h63 => ?_))))
    ·refine Ws (W.regJS (fun f' w' => At f' [(3, .pointer (pA g9)), (4, .bool (decide ((0 ≤ (idxF (hasId s.Id) x.Maps)) ∧ ((1 ≤ s.Reader ∧ s.Reader ≤ 999) ∧ (1 ≤ s.Value ∧ s.Value ≤ 999))))), (5, .bool (decide (0 ≤ (idxF (hasId s.Id) x.Maps))))] ∧ Lo w20 w') ?_ ?_)
     ·refine Q (mB rfl) <| Q (mB rfl) <| SR.splitD (fun h64 => ?_) (fun h64 => ?_)
      ·refine Qg rfl (mB rfl) <| Q (r_pick true rfl (v := .bool _) rfl) <| Q (mB rfl) <| SR.splitD (fun h65 => ?_) (fun h65 => ?_)
       ·refine Qg rfl (fA fa106_3 rfl) <| Qg rfl (lB sca3 rfl (hb14.lo hk21) rfl) <| SR.gcall rfl ent133 (c_spec_l1In w20 s.Value 1 999) rfl ?_
        rintro e w66 ⟨rfl, hk67⟩
        refine ⟨_, rfl, ?_⟩
        have hz68 := hk67.size
        refine Q (r_pick true rfl (v := .bool _) rfl) <| Q (aB rfl) <| Qn (⟨_, rfl, ⟨⟨rfl, (eDD ((jat h65).trans (jat h64))), rfl, trivial⟩, hk67⟩⟩)
       ·refine Qs rfl <| Qs rfl <| Qs rfl <| Q (r_pick false rfl (v := .bool false) rfl) <| Q (aB rfl) <| Qn (⟨_, rfl, ⟨⟨rfl, (eDF ((jaf h65).trans (jat h64)).2), rfl, trivial⟩, (Lo.refl _)⟩⟩)
      ·refine Qs rfl <| Q (r_pick false rfl (v := .bool false) rfl) <| Q (mB rfl) <| Qs rfl <| Qs rfl <| Qs rfl <| Q (r_pick false rfl (v := .bool false) rfl) <| Q (aB rfl) <| Qn (⟨_, rfl, ⟨⟨rfl, (eDF (jaf h64).2), rfl, trivial⟩, (Lo.refl _)⟩⟩)
     rintro f70 w71 ⟨hat72, hk73⟩
     rw [← sets_of_at hat72]
     have hz74 := hk73.size
     refine W.ret (ret1 rfl (v := .bool _) rfl ?_)
     exact ⟨eR (eB (by unfold spec_l32Step; rw [if_neg h24, if_neg h41, if_neg h50, if_pos h63] <;> rfl)), (hB23.lo hk73)⟩
    ·refine W.skip (Ws (W.regJS (fun f' w' => At f' [(4, .bool (decide (((s.Kind = 4) ∧ ((0 ≤ (idxF (hasId s.Id) x.Maps)) ∧ ((s.Reader = 0) ∧ (1 ≤ s.Value)))) ∨ ((¬ (s.Kind = 4)) ∧ (((s.Kind = 6) ∧ ((0 ≤ (idxF (hasId s.Id) x.Maps)) ∧ ((s.Reader = 0) ∧ (1 ≤ s.Value)))) ∨ ((¬ (s.Kind = 6)) ∧ ((s.Kind = 7) ∧ ((0 ≤ (idxF (hasId s.Id) x.Maps)) ∧ ((s.Reader = 0) ∧ (1 ≤ s.Value))))))))))] ∧ Lo w20 w') ?_ ?_))
     ·refine Q (fA fa106_0 rfl) <| Q (lB sca3 rfl (hb14.lo hk21) rfl) <| Q (r_eq rfl rfl) <| Q (mB rfl) <| SR.splitD (fun h76 => ?_) (fun h76 => ?_)
      ·refine Qs rfl <| Qs rfl <| Qs rfl <| Q (r_pick true rfl (v := .bool true) rfl) <| Q (mB rfl) <| Qs rfl <| Qs rfl <| Qs rfl <| Q (r_pick true rfl (v := .bool true) rfl) <| Q (mB rfl) <| Qg rfl (mB rfl) <| Q (r_pick true rfl (v := .bool _) rfl) <| Q (mB rfl) <| SR.splitD (fun h77 => ?_) (fun h77 => ?_)
       ·refine Qg rfl (fA fa106_2 rfl) <| Qg rfl (lB sca3 rfl (hb14.lo hk21) rfl) <| Qg rfl (r_eq rfl rfl) <| Q (r_pick true rfl (v := .bool _) rfl) <| Q (mB rfl) <| SR.splitD (fun h78 => ?_) (fun h78 => ?_)
        ·refine Qg rfl (fA fa106_3 rfl) <| Qg rfl (lB sca3 rfl (hb14.lo hk21) rfl) <| Qg rfl (r_ge rfl rfl) <| Q (r_pick true rfl (v := .bool _) rfl) <| Q (aB rfl) <| Qn (⟨_, rfl, ⟨⟨(eDD (((jat h78).trans (jat h77)).trans (jgt h76))), trivial⟩, (Lo.refl _)⟩⟩)
        ·refine Qs rfl <| Qs rfl <| Qs rfl <| Q (r_pick false rfl (v := .bool false) rfl) <| Q (aB rfl) <| Qn (⟨_, rfl, ⟨⟨(eDF (((jaf h78).trans (jat h77)).trans (jgt h76)).2), trivial⟩, (Lo.refl _)⟩⟩)
       ·refine Qs rfl <| Qs rfl <| Qs rfl <| Q (r_pick false rfl (v := .bool false) rfl) <| Q (mB rfl) <| Qs rfl <| Qs rfl <| Qs rfl <| Q (r_pick false rfl (v := .bool false) rfl) <| Q (aB rfl) <| Qn (⟨_, rfl, ⟨⟨(eDF ((jaf h77).trans (jgt h76)).2), trivial⟩, (Lo.refl _)⟩⟩)
      ·refine Qg rfl (fA fa106_0 rfl) <| Qg rfl (lB sca3 rfl (hb14.lo hk21) rfl) <| Qg rfl (r_eq rfl rfl) <| Q (r_pick false rfl (v := .bool _) rfl) <| Q (mB rfl) <| SR.splitD (fun h79 => ?_) (fun h79 => ?_)
       ·refine Qs rfl <| Qs rfl <| Qs rfl <| Q (r_pick true rfl (v := .bool true) rfl) <| Q (mB rfl) <| Qg rfl (mB rfl) <| Q (r_pick true rfl (v := .bool _) rfl) <| Q (mB rfl) <| SR.splitD (fun h80 => ?_) (fun h80 => ?_)
        ·refine Qg rfl (fA fa106_2 rfl) <| Qg rfl (lB sca3 rfl (hb14.lo hk21) rfl) <| Qg rfl (r_eq rfl rfl) <| Q (r_pick true rfl (v := .bool _) rfl) <| Q (mB rfl) <| SR.splitD (fun h81 => ?_) (fun h81 => ?_)
         ·refine Qg rfl (fA fa106_3 rfl) <| Qg rfl (lB sca3 rfl (hb14.lo hk21) rfl) <| Qg rfl (r_ge rfl rfl) <| Q (r_pick true rfl (v := .bool _) rfl) <| Q (aB rfl) <| Qn (⟨_, rfl, ⟨⟨(eDD ((((jat h81).trans (jat h80)).trans (jgt h79)).trans (jgf h76))), trivial⟩, (Lo.refl _)⟩⟩)
         ·refine Qs rfl <| Qs rfl <| Qs rfl <| Q (r_pick false rfl (v := .bool false) rfl) <| Q (aB rfl) <| Qn (⟨_, rfl, ⟨⟨(eDF ((((jaf h81).trans (jat h80)).trans (jgt h79)).trans (jgf h76)).2), trivial⟩, (Lo.refl _)⟩⟩)
        ·refine Qs rfl <| Qs rfl <| Qs rfl <| Q (r_pick false rfl (v := .bool false) rfl) <| Q (mB rfl) <| Qs rfl <| Qs rfl <| Qs rfl <| Q (r_pick false rfl (v := .bool false) rfl) <| Q (aB rfl) <| Qn (⟨_, rfl, ⟨⟨(eDF (((jaf h80).trans (jgt h79)).trans (jgf h76)).2), trivial⟩, (Lo.refl _)⟩⟩)
       ·refine Qg rfl (fA fa106_0 rfl) <| Qg rfl (lB sca3 rfl (hb14.lo hk21) rfl) <| Qg rfl (r_eq rfl rfl) <| Q (r_pick false rfl (v := .bool _) rfl) <| Q (mB rfl) <| SR.splitD (fun h82 => ?_) (fun h82 => ?_)
        ·refine Qg rfl (mB rfl) <| Q (r_pick true rfl (v := .bool _) rfl) <| Q (mB rfl) <| SR.splitD (fun h83 => ?_) (fun h83 => ?_)
         ·refine Qg rfl (fA fa106_2 rfl) <| Qg rfl (lB sca3 rfl (hb14.lo hk21) rfl) <| Qg rfl (r_eq rfl rfl) <| Q (r_pick true rfl (v := .bool _) rfl) <| Q (mB rfl) <| SR.splitD (fun h84 => ?_) (fun h84 => ?_)
          ·refine Qg rfl (fA fa106_3 rfl) <| Qg rfl (lB sca3 rfl (hb14.lo hk21) rfl) <| Qg rfl (r_ge rfl rfl) <| Q (r_pick true rfl (v := .bool _) rfl) <| Q (aB rfl) <| Qn (⟨_, rfl, ⟨⟨(eDD (((((jat h84).trans (jat h83)).trans (jat h82)).trans (jgf h79)).trans (jgf h76))), trivial⟩, (Lo.refl _)⟩⟩)
          ·refine Qs rfl <| Qs rfl <| Qs rfl <| Q (r_pick false rfl (v := .bool false) rfl) <| Q (aB rfl) <| Qn (⟨_, rfl, ⟨⟨(eDF (((((jaf h84).trans (jat h83)).trans (jat h82)).trans (jgf h79)).trans (jgf h76)).2), trivial⟩, (Lo.refl _)⟩⟩)
         ·refine Qs rfl <| Qs rfl <| Qs rfl <| Q (r_pick false rfl (v := .bool false) rfl) <| Q (mB rfl) <| Qs rfl <| Qs rfl <| Qs rfl <| Q (r_pick false rfl (v := .bool false) rfl) <| Q (aB rfl) <| Qn (⟨_, rfl, ⟨⟨(eDF ((((jaf h83).trans (jat h82)).trans (jgf h79)).trans (jgf h76)).2), trivial⟩, (Lo.refl _)⟩⟩)
        ·refine Qs rfl <| Q (r_pick false rfl (v := .bool false) rfl) <| Q (mB rfl) <| Qs rfl <| Qs rfl <| Qs rfl <| Q (r_pick false rfl (v := .bool false) rfl) <| Q (mB rfl) <| Qs rfl <| Qs rfl <| Qs rfl <| Q (r_pick false rfl (v := .bool false) rfl) <| Q (aB rfl) <| Qn (⟨_, rfl, ⟨⟨(eDF (((jaf h82).trans (jgf h79)).trans (jgf h76)).2), trivial⟩, (Lo.refl _)⟩⟩)
     rintro f85 w86 ⟨hat87, hk88⟩
     rw [← sets_of_at hat87]
     have hz89 := hk88.size
     refine W.ret (ret1 rfl (v := .bool _) rfl ?_)
     exact ⟨eR (eB (by unfold spec_l32Step; rw [if_neg h24, if_neg h41, if_neg h50, if_neg h63] <;> rfl)), (hB23.lo hk88)⟩
end Go.Proofs.YtndcchndcghmoaaGreatDoor
namespace Go.Proofs.YtndcchndcghmoaaGreatDoor
open Go Go.RowKit Fw
section
variable {x : Library} {s : LibraryStep} {id n r a : Int}
theorem bought_yes (h : 0 ≤ idxF (hasId id) x.Maps) : boughtN x id n = { x with Maps := x.Maps.set (idxF (hasId id) x.Maps).toNat (moreM (gt x.Maps (idxF (hasId id) x.Maps).toNat) n), Bought := x.Bought + n } := if_pos h
theorem bought_no (h : ¬ 0 ≤ idxF (hasId id) x.Maps) : boughtN x id n = { x with Maps := x.Maps.take (bdM id x.Maps) ++ [⟨id, n, 0⟩] ++ x.Maps.drop (bdM id x.Maps), Bought := x.Bought + n } := if_neg h
theorem stepL_rng (h : spec_l32Step x s = true) : (s.Kind = 1 → (1 ≤ s.Id ∧ s.Id ≤ 99) ∧ (1 ≤ s.Value ∧ s.Value ≤ 50)) ∧ (¬ s.Kind = 1 → 0 ≤ idxF (hasId s.Id) x.Maps) ∧ 0 ≤ s.Value ∧ (¬ s.Kind = 4 ∧ ¬ s.Kind = 6 ∧ ¬ s.Kind = 7 → s.Value ≤ 999) := by
  unfold spec_l32Step at h
  split at h
  · have := of_decide_eq_true h; omega
  · split at h
    · have := of_decide_eq_true h; omega
    · split at h
      · have := of_decide_eq_true h; omega
      · split at h
        · have := of_decide_eq_true h; omega
        · have := of_decide_eq_true h; omega
theorem gone_lenMaps (x : Library) (i r : Int) : ((goneN x i r).Maps).length = x.Maps.length := rfl
theorem gone_lenAway (x : Library) (i r : Int) : ((goneN x i r).Away).length = x.Away.length + 1 := ins_len (bdA_le _ _)
theorem back_lenMaps (x : Library) (a : Int) : ((backN x a).Maps).length = x.Maps.length := rfl
theorem back_lenAway (x : Library) (a : Int) : ((backN x a).Away).length ≤ x.Away.length := del_lenT _ (by omega)
theorem bought_lenMaps (x : Library) (i n : Int) : ((boughtN x i n).Maps).length ≤ x.Maps.length + 1 := by
  unfold boughtN; split
  · simp
  · exact Nat.le_of_eq (ins_len (bdM_le _ _))
theorem bought_lenAway (x : Library) (i n : Int) : ((boughtN x i n).Away).length = x.Away.length := by unfold boughtN; split <;> rfl
end
end Go.Proofs.YtndcchndcghmoaaGreatDoor
