/- Words and walks of this claim. -/
import Derived.Test.YtndcchndcghmoaaGreatDoorChecked
import Derived.Test.YtndcchndcghmoaaGreatDoorMExactRunScriptd
set_option linter.unusedVariables false
namespace Go.Proofs.YtndcchndcghmoaaGreatDoor
open Go Go.RowKit Fw
set_option maxRecDepth 10000
set_option maxHeartbeats 2000000
set_option linter.unusedVariables false
theorem ent134 : Ent Tryz.prog 134 := en Tryz.func134
theorem ent149 : Ent Tryz.prog 149 := en Tryz.func149
theorem c_impl_ParseInt (w : World) (s : List UInt8) (hp0 : (s.length : Int) ≤ 281474976710656) (hE : EnvW w) : Calls Tryz.prog 95 #[str s] w fun e w' => e = .returned (.tuple (List.toArray [.int .i64 ((readN s).1), .bool ((readN s).2)])) ∧ Lo w w' := by
 refine calls_W 25 Tryz.func95 rfl rfl rfl (Ws (Wr (Q (aI rfl) <| Q (aB rfl) <| Qn (Ws (Wr (Q (mS rfl) <| SR.call ent149 (c_strconv_Atoi w s (by omega) (hE.lo (Lo.refl w))) rfl ?_))))))
 rintro e w1 ⟨v3, v4, rfl, hq5, hq6, hk2⟩
 refine ⟨_, rfl, ?_⟩
 have hq7 := And.left hq5
 have hz8 := hk2.size
 have hB9 := (Lo.refl w).lo hk2
 refine Q (mT rfl) <| Q (xI rfl rfl) <| Q (r_ext (v := _) rfl rfl) <| Q (aI rfl) <| Q (r_as (v := _) rfl) <| Qn (Ws (Ws (W.regJS (fun f' w' => At f' [(2, .int .i64 0), (3, .bool false), (4, .int .i64 v3), (23, .bool (decide ((¬ (atB s = true)) ∨ ((¬ ((-999999) ≤ v3 ∧ v3 ≤ 999999)) ∨ (¬ ((Lib.itoa v3) = s))))))] ∧ Lo w1 w') ?_ ?_)))
 ·refine Q (r_mv (v := _) rfl) <| Q (r_neqErr (p := atB s = true) (by kernel_rfl) rfl ‹ErrIs v4 _›) <| Q (mB rfl) <| SR.splitN (fun h10 => ?_) (fun h10 => ?_)
  ·refine Qs rfl <| Qs rfl <| Qs rfl <| Q (r_pick true rfl (v := .bool true) rfl) <| Q (mB rfl) <| Qs rfl <| Qs rfl <| Qs rfl <| Qs rfl <| Q (r_pick true rfl (v := .bool true) rfl) <| Qn (⟨_, rfl, ⟨⟨rfl, rfl, rfl, (eDT ((jmf h10).1 trivial)), trivial⟩, (Lo.refl _)⟩⟩)
  ·refine Qg rfl (mI rfl) <| SR.gcall rfl ent66 (c_impl_within w1 v3 (-999999) 999999) rfl ?_
   rintro e w11 ⟨rfl, hk12⟩
   refine ⟨_, rfl, ?_⟩
   have hz13 := hk12.size
   refine Qg rfl (r_not rfl) <| Q (r_pick false rfl (v := .bool _) rfl) <| Q (mB rfl) <| SR.splitN (fun h15 => ?_) (fun h15 => ?_)
   ·refine Qs rfl <| Qs rfl <| Qs rfl <| Qs rfl <| Q (r_pick true rfl (v := .bool true) rfl) <| Qn (⟨_, rfl, ⟨⟨rfl, rfl, rfl, (eDT (((jmf h15).trans (jmt h10)).1 trivial)), trivial⟩, hk12⟩⟩)
   ·refine Qg rfl (mI rfl) <| SR.gcall rfl ent74 (c_impl_text w11 v3 (by omega) (hE.lo (hB9.lo hk12))) rfl ?_
    rintro e w16 ⟨rfl, hk17⟩
    refine ⟨_, rfl, ?_⟩
    have hz18 := hk17.size
    have hq20 : (Lib.itoa v3).length ≤ 21 := itoa_len (n := v3) (by omega) (by omega)
    refine Qg rfl (mS rfl) <| Qg rfl (r_nes (s := Lib.itoa v3) (r := s) rfl rfl) <| Q (r_pick false rfl (v := .bool _) rfl) <| Qn (⟨_, rfl, ⟨⟨rfl, rfl, rfl, (eND ((jmt h15).trans (jmt h10))), trivial⟩, (hk12.trans hk17)⟩⟩)
 rintro f21 w22 ⟨hat23, hk24⟩
 rw [← sets_of_at hat23]
 have hz25 := hk24.size
 have hB26 := hB9.lo hk24
 refine W.cond_d rfl (fun h27 => ?_) (fun h27 => ?_)
 ·refine Ws (Wr (Q (aI rfl) <| Q (aB rfl) <| Qn (W.ret (ret2 rfl (v := .int .i64 _) (v' := .bool _) rfl rfl ?_))))
  refine ⟨eR (eT2 (eI ?_) (eB ?_)), hB26⟩ <;> (first | (rw [par_not ‹AtIs _ _› ‹_ ∨ _›]; done) | (rw [par_ok ‹AtIs _ _› ‹¬ (_ ∨ _)›]; done))
 ·have hq28 : atB s = true := (Classical.not_not.1 (not_or.1 h27).1)
  have hq29 : (-999999) ≤ v3 ∧ v3 ≤ 999999 := (Classical.not_not.1 (not_or.1 (not_or.1 h27).2).1)
  have hq30 : (Lib.itoa v3) = s := (Classical.not_not.1 (not_or.1 (not_or.1 h27).2).2)
  refine W.skip (Ws (Wr (Q (mI rfl) <| Q (aI rfl) <| Q (aB rfl) <| Qn (W.ret (ret2 rfl (v := .int .i64 _) (v' := .bool _) rfl rfl ?_)))))
  refine ⟨eR (eT2 (eI ?_) (eB ?_)), hB26⟩ <;> (first | (rw [par_not ‹AtIs _ _› ‹_ ∨ _›]; done) | (rw [par_ok ‹AtIs _ _› ‹¬ (_ ∨ _)›]; done))
theorem c_spec_l1Read (w : World) (s : List UInt8) : Calls Tryz.prog 134 #[str s] w fun e w' => e = .returned (.tuple (List.toArray [.int .i64 ((readN s).1), .bool ((readN s).2)])) ∧ Lo w w' := by
 refine calls_W 58 Tryz.func134 rfl rfl rfl (Ws (Wr (Q (aI rfl) <| Q (aB rfl) <| Qn (Ws (Wr (Q (mS rfl) <| Q (aS rfl) <| Qn (Ws (Ws (W.regJS (fun f' w' => At f' [(0, str s), (2, .int .i64 0), (3, .bool false), (4, str s), (15, .bool (decide ((1 < (s.length : Int)) ∧ (((gt s 0).toNat : Int) = 45))))] ∧ Lo w w') ?_ ?_)))))))))
 ·refine Q (mS rfl) <| Q (r_len_s und9 rfl) <| Q (r_gt rfl rfl) <| Q (mB rfl) <| SR.splitD (fun h1 => ?_) (fun h1 => ?_)
  ·refine Qg rfl (mS rfl) <| ?_
   have hq2 := u8_le (gt s 0)
   refine Qg rfl (r_idxS (i := 0) und9 rfl rfl rfl (by first | omega | (simp only [List.length_append, List.length_cons, List.length_nil, List.length_take, List.length_drop]; omega) | (simp only [List.length_append, List.length_cons, List.length_nil, List.length_take, List.length_drop] at *; omega))) <| Qg rfl (r_eq rfl rfl) <| Q (r_pick true rfl (v := .bool _) rfl) <| Qn (⟨_, rfl, ⟨⟨rfl, rfl, rfl, rfl, (eDD (jat h1)), trivial⟩, (Lo.refl _)⟩⟩)
  ·refine Qs rfl <| Qs rfl <| Qs rfl <| Q (r_pick false rfl (v := .bool false) rfl) <| Qn (⟨_, rfl, ⟨⟨rfl, rfl, rfl, rfl, (eDF (jaf h1).2), trivial⟩, (Lo.refl _)⟩⟩)
 rintro f3 w4 ⟨hat5, hk6⟩
 rw [← sets_of_at hat5]
 have hz7 := hk6.size
 have hB8 := (Lo.refl w).lo hk6
 refine W.cond_d rfl (fun h9 => ?_) (fun h9 => ?_)
 ·have hq10 : 1 < (s.length : Int) := h9.1
  have hq11 : ((gt s 0).toNat : Int) = 45 := h9.2
  refine Wr (Q (mS rfl) <| Q (r_cutlS (l := 1) und9 rfl rfl rfl (by first | omega | (simp only [List.length_append, List.length_cons, List.length_nil, List.length_take, List.length_drop]; omega) | (simp only [List.length_append, List.length_cons, List.length_nil, List.length_take, List.length_drop] at *; omega))) <| Q (aS rfl) <| Qn (Ws (Ws (Wr (Q (mS rfl) <| Q (r_len_s und9 rfl) <| Qv ent133 (c_spec_l1In w4 ((s.drop 1).length : Int) 1 6) rfl fun w12 hk13 hz14 => ?_)))))
  have hB15 := hB8.lo hk13
  refine Q (r_not rfl) <| Qn (W.cond_n rfl (fun h16 => ?_) (fun h16 => ?_))
  ·refine Ws (Wr (Q (aI rfl) <| Q (aB rfl) <| Qn (W.ret (ret2 rfl (v := .int .i64 _) (v' := .bool _) rfl rfl ?_))))
   refine ⟨eR (eT2 (eI ?_) (eB ?_)), hB15⟩ <;> (first | (rw [read_len (by first | exact strip_yes ‹_› | exact strip_no ‹_›) ‹_›]; done) | (have hh := ‹_ = stripS s ∧ _›; first | (rw [read_dig hh.1 (k := k) (by omega) ‹_›]; done) | (rw [read_neg hh.1 (k := k) (by omega) ‹_› ‹_›]; done) | (rw [read_pos hh.1 (k := k) (by omega) ‹_› ‹_›]; done) | (rw [readN_ok ‹Lib.itoa _ = s› (by omega)]; done)))
  ·refine W.skip (Ws (Wr (Q (aI rfl) <| Qn (Ws (Ws (Wr (Q (aI rfl) <| Qn (W.block (W.loop (σ := (List UInt8) × Nat) (fun g => [(0, str s), (4, str g.1), (5, .int .i64 (decV (g.1.take g.2))), (6, .int .i64 (g.2 : Int))]) (fun g w' => (Lo w w') ∧ (g.1 = stripS s ∧ (g.2 ≤ g.1.length ∧ g.1.length ≤ 6) ∧ ∀ j, j < g.2 → 48 ≤ (gt g.1 j).toNat ∧ (gt g.1 j).toNat ≤ 57)) (fun g => g.1.length - g.2) (s.drop 1, 0) ?_ ?_ ?_)))))))))
   ·refine ⟨rfl, rfl, (eI ?_), (eI ?_), trivial⟩ <;> (first | (first | rfl | omega | (rw [decV_next (by omega)])) | (dsimp only; (first | rfl | omega | (rw [decV_next (by omega)]))))
   ·exact ⟨hB15, (by (try dsimp only); exact ⟨by first | exact strip_yes ‹_› | exact strip_no ‹_›, by omega, fun _ h => absurd h (by omega)⟩)⟩
   ·rintro ⟨T, k⟩ f17 w18 hP20
    obtain ⟨hB19, hi21⟩ : (Lo w w18) ∧ (T = stripS s ∧ (k ≤ T.length ∧ T.length ≤ 6) ∧ ∀ j, j < k → 48 ≤ (gt T j).toNat ∧ (gt T j).toNat ≤ 57) := hP20
    refine (?_ : W _ _ _ _ _ (act _ (sets f17 [(0, str s), (4, str T), (5, .int .i64 (decV (T.take k))), (6, .int .i64 (k : Int))])) _)
    have hzw18 := hB19.size
    have hq22 : k ≤ T.length ∧ T.length ≤ 6 := hi21.2.1
    have hq23 : 0 ≤ decV (T.take k) ∧ decV (T.take k) ≤ 999999 := decV_rng hi21.2.2 hi21.2.1.1 (by omega)
    refine Ws (Ws (Wr (Q (mI rfl) <| Q (mS rfl) <| Q (r_len_s und9 rfl) <| Q (r_lt rfl rfl) <| Qn (W.cond_d rfl (fun h24 => ?_) (fun h24 => ?_)))))
    ·refine W.skip (Ws (W.block (Ws (Ws (W.regJS (fun f' w' => At f' [(0, str s), (4, str T), (5, .int .i64 (decV (T.take k))), (6, .int .i64 (k : Int)), (37, .bool (decide ((((gt T k).toNat : Int) < 48) ∨ (57 < ((gt T k).toNat : Int)))))] ∧ Lo w18 w' ∧ (((gt T k).toNat : Int) ≤ 255)) ?_ ?_)))))
     ·refine Q (mS rfl) <| Q (mI rfl) <| ?_
      have hq25 := u8_le (gt T k)
      refine Q (r_idxS (i := k) und9 rfl rfl rfl (by first | omega | (simp only [List.length_append, List.length_cons, List.length_nil, List.length_take, List.length_drop]; omega) | (simp only [List.length_append, List.length_cons, List.length_nil, List.length_take, List.length_drop] at *; omega))) <| Q (r_lt rfl rfl) <| Q (mB rfl) <| SR.splitD (fun h26 => ?_) (fun h26 => ?_)
      ·refine Qs rfl <| Qs rfl <| Qs rfl <| Qs rfl <| Q (r_pick true rfl (v := .bool true) rfl) <| Qn (⟨_, rfl, ⟨⟨rfl, rfl, rfl, rfl, (eDT ((jot h26).1 trivial)), trivial⟩, (Lo.refl _), hq25⟩⟩)
      ·refine Qg rfl (mS rfl) <| Qg rfl (mI rfl) <| Qg rfl (r_idxS (i := k) und9 rfl rfl rfl (by first | omega | (simp only [List.length_append, List.length_cons, List.length_nil, List.length_take, List.length_drop]; omega) | (simp only [List.length_append, List.length_cons, List.length_nil, List.length_take, List.length_drop] at *; omega))) <| Qg rfl (r_gt rfl rfl) <| Q (r_pick false rfl (v := .bool _) rfl) <| Qn (⟨_, rfl, ⟨⟨rfl, rfl, rfl, rfl, (eDD (jof h26)), trivial⟩, (Lo.refl _), hq25⟩⟩)
     rintro f27 w28 ⟨hat29, hk30, hq31⟩
     rw [← sets_of_at hat29]
     have hz32 := hk30.size
     have hB33 := hB19.lo hk30
     refine W.cond_d rfl (fun h34 => ?_) (fun h34 => ?_)
     ·refine Ws (Wr (Q (aI rfl) <| Q (aB rfl) <| Qn (W.ret (ret2 rfl (v := .int .i64 _) (v' := .bool _) rfl rfl ?_))))
      refine ⟨eR (eT2 (eI ?_) (eB ?_)), hB33⟩ <;> (first | (rw [read_len (by first | exact strip_yes ‹_› | exact strip_no ‹_›) ‹_›]; done) | (have hh := ‹_ = stripS s ∧ _›; first | (rw [read_dig hh.1 (k := k) (by omega) ‹_›]; done) | (rw [read_neg hh.1 (k := k) (by omega) ‹_› ‹_›]; done) | (rw [read_pos hh.1 (k := k) (by omega) ‹_› ‹_›]; done) | (rw [readN_ok ‹Lib.itoa _ = s› (by omega)]; done)))
     ·have hq35 : ¬ (((gt T k).toNat : Int) < 48) := (not_or.1 h34).1
      have hq36 : ¬ (57 < ((gt T k).toNat : Int)) := (not_or.1 h34).2
      refine W.skip (Wr (Q (mI rfl) <| Q (r_mul rfl rfl (by omega)) <| Q (mS rfl) <| Q (mI rfl) <| ?_))
      have hq37 := u8_le (gt T k)
      refine Q (r_idxS (i := k) und9 rfl rfl rfl (by first | omega | (simp only [List.length_append, List.length_cons, List.length_nil, List.length_take, List.length_drop]; omega) | (simp only [List.length_append, List.length_cons, List.length_nil, List.length_take, List.length_drop] at *; omega))) <| Q (r_sub8 rfl rfl (by omega)) <| Q (r_convI und3 und5 rfl (by omega)) <| Q (r_add rfl rfl (by omega)) <| Q (aI rfl) <| Qn (Wr (Q (mI rfl) <| Q (r_add rfl rfl (by omega)) <| Q (aI rfl) <| Qn (⟨(T, k + 1), _, rfl, ⟨rfl, rfl, (eI (by first | (first | rfl | omega | (rw [decV_next (by omega)])) | (dsimp only; (first | rfl | omega | (rw [decV_next (by omega)]))))), (eI (by first | (first | rfl | omega | (rw [decV_next (by omega)])) | (dsimp only; (first | rfl | omega | (rw [decV_next (by omega)]))))), trivial⟩, ⟨hB33, ?_⟩, ?_⟩)))
      ·exact (by (try dsimp only); have hh := ‹_ = stripS s ∧ _›; exact ⟨hh.1, by omega, dig_next hh.2.2 ‹_›⟩)
      ·exact (by (try dsimp only); omega)
    ·refine W.exit (xin_here (Ws (Ws (Wr (Q (mS rfl) <| Q (r_len_s und9 rfl) <| Q (mS rfl) <| Q (r_len_s und9 rfl) <| Q (r_lt rfl rfl) <| Qn (W.cond_d rfl (fun h38 => ?_) (fun h38 => ?_)))))))
     ·refine Wr (Q (mI rfl) <| Q (r_neg rfl (by omega)) <| Q (aI rfl) <| Qn (Ws (Ws (Wr (Q (mI rfl) <| Qv ent75 (c_spec_l1Num w18 (-(decV (T.take k))) (by omega)) rfl fun w39 hk40 hz41 => ?_)))))
      have hB42 := hB19.lo hk40
      have hq43 : (Lib.itoa (-(decV (T.take k)))).length ≤ 21 := itoa_len (n := -(decV (T.take k))) (by omega) (by omega)
      refine Q (mS rfl) <| Q (r_nes (s := Lib.itoa (-(decV (T.take k)))) (r := s) rfl rfl) <| Qn (W.cond_n rfl (fun h44 => ?_) (fun h44 => ?_))
      ·refine Ws (Wr (Q (aI rfl) <| Q (aB rfl) <| Qn (W.ret (ret2 rfl (v := .int .i64 _) (v' := .bool _) rfl rfl ?_))))
       refine ⟨eR (eT2 (eI ?_) (eB ?_)), hB42⟩ <;> (first | (rw [read_len (by first | exact strip_yes ‹_› | exact strip_no ‹_›) ‹_›]; done) | (have hh := ‹_ = stripS s ∧ _›; first | (rw [read_dig hh.1 (k := k) (by omega) ‹_›]; done) | (rw [read_neg hh.1 (k := k) (by omega) ‹_› ‹_›]; done) | (rw [read_pos hh.1 (k := k) (by omega) ‹_› ‹_›]; done) | (rw [readN_ok ‹Lib.itoa _ = s› (by omega)]; done)))
      ·refine W.skip (Ws (Wr (Q (mI rfl) <| Q (aI rfl) <| Q (aB rfl) <| Qn (W.ret (ret2 rfl (v := .int .i64 _) (v' := .bool _) rfl rfl ?_)))))
       refine ⟨eR (eT2 (eI ?_) (eB ?_)), hB42⟩ <;> (first | (rw [read_len (by first | exact strip_yes ‹_› | exact strip_no ‹_›) ‹_›]; done) | (have hh := ‹_ = stripS s ∧ _›; first | (rw [read_dig hh.1 (k := k) (by omega) ‹_›]; done) | (rw [read_neg hh.1 (k := k) (by omega) ‹_› ‹_›]; done) | (rw [read_pos hh.1 (k := k) (by omega) ‹_› ‹_›]; done) | (rw [readN_ok ‹Lib.itoa _ = s› (by omega)]; done)))
     ·refine W.skip (Ws (Ws (Wr (Q (mI rfl) <| Qv ent75 (c_spec_l1Num w18 (decV (T.take k)) (by omega)) rfl fun w45 hk46 hz47 => ?_))))
      have hB48 := hB19.lo hk46
      have hq49 : (Lib.itoa (decV (T.take k))).length ≤ 21 := itoa_len (n := decV (T.take k)) (by omega) (by omega)
      refine Q (mS rfl) <| Q (r_nes (s := Lib.itoa (decV (T.take k))) (r := s) rfl rfl) <| Qn (W.cond_n rfl (fun h50 => ?_) (fun h50 => ?_))
      ·refine Ws (Wr (Q (aI rfl) <| Q (aB rfl) <| Qn (W.ret (ret2 rfl (v := .int .i64 _) (v' := .bool _) rfl rfl ?_))))
       refine ⟨eR (eT2 (eI ?_) (eB ?_)), hB48⟩ <;> (first | (rw [read_len (by first | exact strip_yes ‹_› | exact strip_no ‹_›) ‹_›]; done) | (have hh := ‹_ = stripS s ∧ _›; first | (rw [read_dig hh.1 (k := k) (by omega) ‹_›]; done) | (rw [read_neg hh.1 (k := k) (by omega) ‹_› ‹_›]; done) | (rw [read_pos hh.1 (k := k) (by omega) ‹_› ‹_›]; done) | (rw [readN_ok ‹Lib.itoa _ = s› (by omega)]; done)))
      ·refine W.skip (Ws (Wr (Q (mI rfl) <| Q (aI rfl) <| Q (aB rfl) <| Qn (W.ret (ret2 rfl (v := .int .i64 _) (v' := .bool _) rfl rfl ?_)))))
       refine ⟨eR (eT2 (eI ?_) (eB ?_)), hB48⟩ <;> (first | (rw [read_len (by first | exact strip_yes ‹_› | exact strip_no ‹_›) ‹_›]; done) | (have hh := ‹_ = stripS s ∧ _›; first | (rw [read_dig hh.1 (k := k) (by omega) ‹_›]; done) | (rw [read_neg hh.1 (k := k) (by omega) ‹_› ‹_›]; done) | (rw [read_pos hh.1 (k := k) (by omega) ‹_› ‹_›]; done) | (rw [readN_ok ‹Lib.itoa _ = s› (by omega)]; done)))
 ·refine W.skip (Ws (Ws (Wr (Q (mS rfl) <| Q (r_len_s und9 rfl) <| Qv ent133 (c_spec_l1In w4 (s.length : Int) 1 6) rfl fun w51 hk52 hz53 => ?_))))
  have hB54 := hB8.lo hk52
  refine Q (r_not rfl) <| Qn (W.cond_n rfl (fun h55 => ?_) (fun h55 => ?_))
  ·refine Ws (Wr (Q (aI rfl) <| Q (aB rfl) <| Qn (W.ret (ret2 rfl (v := .int .i64 _) (v' := .bool _) rfl rfl ?_))))
   refine ⟨eR (eT2 (eI ?_) (eB ?_)), hB54⟩ <;> (first | (rw [read_len (by first | exact strip_yes ‹_› | exact strip_no ‹_›) ‹_›]; done) | (have hh := ‹_ = stripS s ∧ _›; first | (rw [read_dig hh.1 (k := k) (by omega) ‹_›]; done) | (rw [read_neg hh.1 (k := k) (by omega) ‹_› ‹_›]; done) | (rw [read_pos hh.1 (k := k) (by omega) ‹_› ‹_›]; done) | (rw [readN_ok ‹Lib.itoa _ = s› (by omega)]; done)))
  ·refine W.skip (Ws (Wr (Q (aI rfl) <| Qn (Ws (Ws (Wr (Q (aI rfl) <| Qn (W.block (W.loop (σ := (List UInt8) × Nat) (fun g => [(0, str s), (4, str g.1), (5, .int .i64 (decV (g.1.take g.2))), (6, .int .i64 (g.2 : Int))]) (fun g w' => (Lo w w') ∧ (g.1 = stripS s ∧ (g.2 ≤ g.1.length ∧ g.1.length ≤ 6) ∧ ∀ j, j < g.2 → 48 ≤ (gt g.1 j).toNat ∧ (gt g.1 j).toNat ≤ 57)) (fun g => g.1.length - g.2) (s, 0) ?_ ?_ ?_)))))))))
   ·refine ⟨rfl, rfl, (eI ?_), (eI ?_), trivial⟩ <;> (first | (first | rfl | omega | (rw [decV_next (by omega)])) | (dsimp only; (first | rfl | omega | (rw [decV_next (by omega)]))))
   ·exact ⟨hB54, (by (try dsimp only); exact ⟨by first | exact strip_yes ‹_› | exact strip_no ‹_›, by omega, fun _ h => absurd h (by omega)⟩)⟩
   ·rintro ⟨T, k⟩ f56 w57 hP59
    obtain ⟨hB58, hi60⟩ : (Lo w w57) ∧ (T = stripS s ∧ (k ≤ T.length ∧ T.length ≤ 6) ∧ ∀ j, j < k → 48 ≤ (gt T j).toNat ∧ (gt T j).toNat ≤ 57) := hP59
    refine (?_ : W _ _ _ _ _ (act _ (sets f56 [(0, str s), (4, str T), (5, .int .i64 (decV (T.take k))), (6, .int .i64 (k : Int))])) _)
    have hzw57 := hB58.size
    have hq61 : k ≤ T.length ∧ T.length ≤ 6 := hi60.2.1
    have hq62 : 0 ≤ decV (T.take k) ∧ decV (T.take k) ≤ 999999 := decV_rng hi60.2.2 hi60.2.1.1 (by omega)
    refine Ws (Ws (Wr (Q (mI rfl) <| Q (mS rfl) <| Q (r_len_s und9 rfl) <| Q (r_lt rfl rfl) <| Qn (W.cond_d rfl (fun h63 => ?_) (fun h63 => ?_)))))
    ·refine W.skip (Ws (W.block (Ws (Ws (W.regJS (fun f' w' => At f' [(0, str s), (4, str T), (5, .int .i64 (decV (T.take k))), (6, .int .i64 (k : Int)), (37, .bool (decide ((((gt T k).toNat : Int) < 48) ∨ (57 < ((gt T k).toNat : Int)))))] ∧ Lo w57 w' ∧ (((gt T k).toNat : Int) ≤ 255)) ?_ ?_)))))
     ·refine Q (mS rfl) <| Q (mI rfl) <| ?_
      have hq64 := u8_le (gt T k)
      refine Q (r_idxS (i := k) und9 rfl rfl rfl (by first | omega | (simp only [List.length_append, List.length_cons, List.length_nil, List.length_take, List.length_drop]; omega) | (simp only [List.length_append, List.length_cons, List.length_nil, List.length_take, List.length_drop] at *; omega))) <| Q (r_lt rfl rfl) <| Q (mB rfl) <| SR.splitD (fun h65 => ?_) (fun h65 => ?_)
      ·refine Qs rfl <| Qs rfl <| Qs rfl <| Qs rfl <| Q (r_pick true rfl (v := .bool true) rfl) <| Qn (⟨_, rfl, ⟨⟨rfl, rfl, rfl, rfl, (eDT ((jot h65).1 trivial)), trivial⟩, (Lo.refl _), hq64⟩⟩)
      ·refine Qg rfl (mS rfl) <| Qg rfl (mI rfl) <| Qg rfl (r_idxS (i := k) und9 rfl rfl rfl (by first | omega | (simp only [List.length_append, List.length_cons, List.length_nil, List.length_take, List.length_drop]; omega) | (simp only [List.length_append, List.length_cons, List.length_nil, List.length_take, List.length_drop] at *; omega))) <| Qg rfl (r_gt rfl rfl) <| Q (r_pick false rfl (v := .bool _) rfl) <| Qn (⟨_, rfl, ⟨⟨rfl, rfl, rfl, rfl, (eDD (jof h65)), trivial⟩, (Lo.refl _), hq64⟩⟩)
     rintro f66 w67 ⟨hat68, hk69, hq70⟩
     rw [← sets_of_at hat68]
     have hz71 := hk69.size
     have hB72 := hB58.lo hk69
     refine W.cond_d rfl (fun h73 => ?_) (fun h73 => ?_)
     ·refine Ws (Wr (Q (aI rfl) <| Q (aB rfl) <| Qn (W.ret (ret2 rfl (v := .int .i64 _) (v' := .bool _) rfl rfl ?_))))
      refine ⟨eR (eT2 (eI ?_) (eB ?_)), hB72⟩ <;> (first | (rw [read_len (by first | exact strip_yes ‹_› | exact strip_no ‹_›) ‹_›]; done) | (have hh := ‹_ = stripS s ∧ _›; first | (rw [read_dig hh.1 (k := k) (by omega) ‹_›]; done) | (rw [read_neg hh.1 (k := k) (by omega) ‹_› ‹_›]; done) | (rw [read_pos hh.1 (k := k) (by omega) ‹_› ‹_›]; done) | (rw [readN_ok ‹Lib.itoa _ = s› (by omega)]; done)))
     ·have hq74 : ¬ (((gt T k).toNat : Int) < 48) := (not_or.1 h73).1
      have hq75 : ¬ (57 < ((gt T k).toNat : Int)) := (not_or.1 h73).2
      refine W.skip (Wr (Q (mI rfl) <| Q (r_mul rfl rfl (by omega)) <| Q (mS rfl) <| Q (mI rfl) <| ?_))
      have hq76 := u8_le (gt T k)
      refine Q (r_idxS (i := k) und9 rfl rfl rfl (by first | omega | (simp only [List.length_append, List.length_cons, List.length_nil, List.length_take, List.length_drop]; omega) | (simp only [List.length_append, List.length_cons, List.length_nil, List.length_take, List.length_drop] at *; omega))) <| Q (r_sub8 rfl rfl (by omega)) <| Q (r_convI und3 und5 rfl (by omega)) <| Q (r_add rfl rfl (by omega)) <| Q (aI rfl) <| Qn (Wr (Q (mI rfl) <| Q (r_add rfl rfl (by omega)) <| Q (aI rfl) <| Qn (⟨(T, k + 1), _, rfl, ⟨rfl, rfl, (eI (by first | (first | rfl | omega | (rw [decV_next (by omega)])) | (dsimp only; (first | rfl | omega | (rw [decV_next (by omega)]))))), (eI (by first | (first | rfl | omega | (rw [decV_next (by omega)])) | (dsimp only; (first | rfl | omega | (rw [decV_next (by omega)]))))), trivial⟩, ⟨hB72, ?_⟩, ?_⟩)))
      ·exact (by (try dsimp only); have hh := ‹_ = stripS s ∧ _›; exact ⟨hh.1, by omega, dig_next hh.2.2 ‹_›⟩)
      ·exact (by (try dsimp only); omega)
    ·refine W.exit (xin_here (Ws (Ws (Wr (Q (mS rfl) <| Q (r_len_s und9 rfl) <| Q (mS rfl) <| Q (r_len_s und9 rfl) <| Q (r_lt rfl rfl) <| Qn (W.cond_d rfl (fun h77 => ?_) (fun h77 => ?_)))))))
     ·refine Wr (Q (mI rfl) <| Q (r_neg rfl (by omega)) <| Q (aI rfl) <| Qn (Ws (Ws (Wr (Q (mI rfl) <| Qv ent75 (c_spec_l1Num w57 (-(decV (T.take k))) (by omega)) rfl fun w78 hk79 hz80 => ?_)))))
      have hB81 := hB58.lo hk79
      have hq82 : (Lib.itoa (-(decV (T.take k)))).length ≤ 21 := itoa_len (n := -(decV (T.take k))) (by omega) (by omega)
      refine Q (mS rfl) <| Q (r_nes (s := Lib.itoa (-(decV (T.take k)))) (r := s) rfl rfl) <| Qn (W.cond_n rfl (fun h83 => ?_) (fun h83 => ?_))
      ·refine Ws (Wr (Q (aI rfl) <| Q (aB rfl) <| Qn (W.ret (ret2 rfl (v := .int .i64 _) (v' := .bool _) rfl rfl ?_))))
       refine ⟨eR (eT2 (eI ?_) (eB ?_)), hB81⟩ <;> (first | (rw [read_len (by first | exact strip_yes ‹_› | exact strip_no ‹_›) ‹_›]; done) | (have hh := ‹_ = stripS s ∧ _›; first | (rw [read_dig hh.1 (k := k) (by omega) ‹_›]; done) | (rw [read_neg hh.1 (k := k) (by omega) ‹_› ‹_›]; done) | (rw [read_pos hh.1 (k := k) (by omega) ‹_› ‹_›]; done) | (rw [readN_ok ‹Lib.itoa _ = s› (by omega)]; done)))
      ·refine W.skip (Ws (Wr (Q (mI rfl) <| Q (aI rfl) <| Q (aB rfl) <| Qn (W.ret (ret2 rfl (v := .int .i64 _) (v' := .bool _) rfl rfl ?_)))))
       refine ⟨eR (eT2 (eI ?_) (eB ?_)), hB81⟩ <;> (first | (rw [read_len (by first | exact strip_yes ‹_› | exact strip_no ‹_›) ‹_›]; done) | (have hh := ‹_ = stripS s ∧ _›; first | (rw [read_dig hh.1 (k := k) (by omega) ‹_›]; done) | (rw [read_neg hh.1 (k := k) (by omega) ‹_› ‹_›]; done) | (rw [read_pos hh.1 (k := k) (by omega) ‹_› ‹_›]; done) | (rw [readN_ok ‹Lib.itoa _ = s› (by omega)]; done)))
     ·refine W.skip (Ws (Ws (Wr (Q (mI rfl) <| Qv ent75 (c_spec_l1Num w57 (decV (T.take k)) (by omega)) rfl fun w84 hk85 hz86 => ?_))))
      have hB87 := hB58.lo hk85
      have hq88 : (Lib.itoa (decV (T.take k))).length ≤ 21 := itoa_len (n := decV (T.take k)) (by omega) (by omega)
      refine Q (mS rfl) <| Q (r_nes (s := Lib.itoa (decV (T.take k))) (r := s) rfl rfl) <| Qn (W.cond_n rfl (fun h89 => ?_) (fun h89 => ?_))
      ·refine Ws (Wr (Q (aI rfl) <| Q (aB rfl) <| Qn (W.ret (ret2 rfl (v := .int .i64 _) (v' := .bool _) rfl rfl ?_))))
       refine ⟨eR (eT2 (eI ?_) (eB ?_)), hB87⟩ <;> (first | (rw [read_len (by first | exact strip_yes ‹_› | exact strip_no ‹_›) ‹_›]; done) | (have hh := ‹_ = stripS s ∧ _›; first | (rw [read_dig hh.1 (k := k) (by omega) ‹_›]; done) | (rw [read_neg hh.1 (k := k) (by omega) ‹_› ‹_›]; done) | (rw [read_pos hh.1 (k := k) (by omega) ‹_› ‹_›]; done) | (rw [readN_ok ‹Lib.itoa _ = s› (by omega)]; done)))
      ·refine W.skip (Ws (Wr (Q (mI rfl) <| Q (aI rfl) <| Q (aB rfl) <| Qn (W.ret (ret2 rfl (v := .int .i64 _) (v' := .bool _) rfl rfl ?_)))))
       refine ⟨eR (eT2 (eI ?_) (eB ?_)), hB87⟩ <;> (first | (rw [read_len (by first | exact strip_yes ‹_› | exact strip_no ‹_›) ‹_›]; done) | (have hh := ‹_ = stripS s ∧ _›; first | (rw [read_dig hh.1 (k := k) (by omega) ‹_›]; done) | (rw [read_neg hh.1 (k := k) (by omega) ‹_› ‹_›]; done) | (rw [read_pos hh.1 (k := k) (by omega) ‹_› ‹_›]; done) | (rw [readN_ok ‹Lib.itoa _ = s› (by omega)]; done)))
theorem c_spec_ParseInt (w : World) (s : List UInt8) : Calls Tryz.prog 83 #[str s] w fun e w' => e = .returned (.tuple (List.toArray [.int .i64 ((readN s).1), .bool ((readN s).2)])) ∧ Lo w w' := by
 refine calls_W 8 Tryz.func83 rfl rfl rfl (Ws (Wr (Q (aI rfl) <| Q (aB rfl) <| Qn (Ws (Wr (Q (mS rfl) <| Qv ent134 (c_spec_l1Read w s) rfl fun w1 hk2 hz3 => ?_))))))
 have hq5 : -999999 ≤ (readN s).1 ∧ (readN s).1 ≤ 999999 := readN_rng s
 refine Q (xI rfl rfl) <| Q (xB rfl rfl) <| Q (aI rfl) <| Q (aB rfl) <| Qn (W.ret (ret2 rfl (v := .int .i64 _) (v' := .bool _) rfl rfl (⟨eR (eT2 rfl (eB (by rfl))), ((Lo.refl w).lo hk2)⟩)))
end Go.Proofs.YtndcchndcghmoaaGreatDoor
namespace Go.Proofs.YtndcchndcghmoaaGreatDoor
open Go Go.RowKit Fw
set_option maxRecDepth 10000
set_option maxHeartbeats 2000000
set_option linter.unusedVariables false
theorem bld106_ : Tryz.prog.built 106 [] = some (List.toArray [.int .i64 0, .int .i64 0, .int .i64 0, .int .i64 0]) := by kernel_rfl
theorem bld106_0_1_2 (a0 : Int) (a1 : Int) (a2 : Int) : Tryz.prog.built 106 [(0, .int .i64 a0), (1, .int .i64 a1), (2, .int .i64 a2)] = some (List.toArray [.int .i64 a0, .int .i64 a1, .int .i64 a2, .int .i64 0]) := by kernel_rfl
theorem bld106_0_1_2_3 (a0 : Int) (a1 : Int) (a2 : Int) (a3 : Int) : Tryz.prog.built 106 [(0, .int .i64 a0), (1, .int .i64 a1), (2, .int .i64 a2), (3, .int .i64 a3)] = some (List.toArray [.int .i64 a0, .int .i64 a1, .int .i64 a2, .int .i64 a3]) := by kernel_rfl
theorem bld106_0_1_3 (a0 : Int) (a1 : Int) (a3 : Int) : Tryz.prog.built 106 [(0, .int .i64 a0), (1, .int .i64 a1), (3, .int .i64 a3)] = some (List.toArray [.int .i64 a0, .int .i64 a1, .int .i64 0, .int .i64 a3]) := by kernel_rfl
theorem ent186 : Ent Tryz.prog 186 := en Tryz.func186
theorem tz106 : TZ Tryz.prog 106 (.agg (List.toArray [.int .i64 0, .int .i64 0, .int .i64 0, .int .i64 0])) := fun _ => by kernel_rfl
open Classical in
noncomputable def impl_stepFor (s : List UInt8) (L : List Int) : LibraryStep × Bool :=
 if (s = ([98, 117, 121] : List UInt8)) ∧ ((L.length : Int) = 2) then ((⟨1, (gt L 0), 0, (gt L 1)⟩ : LibraryStep), true) else if (s = ([108, 101, 110, 100] : List UInt8)) ∧ ((L.length : Int) = 2) then ((⟨2, (gt L 0), (gt L 1), 0⟩ : LibraryStep), true) else if (s = ([98, 97, 99, 107] : List UInt8)) ∧ ((L.length : Int) = 3) then ((⟨3, (gt L 0), (gt L 1), (gt L 2)⟩ : LibraryStep), true) else if (s = ([104, 97, 110, 100] : List UInt8)) ∧ ((L.length : Int) = 3) then ((⟨5, (gt L 0), (gt L 1), (gt L 2)⟩ : LibraryStep), true) else if (s = ([109, 101, 110, 100] : List UInt8)) ∧ ((L.length : Int) = 2) then ((⟨4, (gt L 0), 0, (gt L 1)⟩ : LibraryStep), true) else if (s = ([100, 114, 111, 112] : List UInt8)) ∧ ((L.length : Int) = 2) then ((⟨6, (gt L 0), 0, (gt L 1)⟩ : LibraryStep), true) else if (s = ([119, 101, 97, 114] : List UInt8)) ∧ ((L.length : Int) = 2) then ((⟨7, (gt L 0), 0, (gt L 1)⟩ : LibraryStep), true) else ((⟨0, 0, 0, 0⟩ : LibraryStep), false)
theorem c_impl_stepFor (w : World) (s : List UInt8) {AL : Option Addr} {nL cL BL : Nat}  (L : List Int) (hL : SlR w BL encI 1 AL nL cL L) : Calls Tryz.prog 96 #[str s, .slice AL nL cL] w fun e w' => e = .returned (.tuple (List.toArray [.agg (List.toArray [.int .i64 (((impl_stepFor s L).1).Kind), .int .i64 (((impl_stepFor s L).1).Id), .int .i64 (((impl_stepFor s L).1).Reader), .int .i64 (((impl_stepFor s L).1).Value)]), .bool ((impl_stepFor s L).2)])) ∧ Lo w w' := by
 refine calls_W 118 Tryz.func96 rfl rfl rfl ?_
 have hbdL := hL.bound
 have hleL := hL.len
 have hBbL := hL.bd
 refine Ws (Wr (SR.alloc (l := [.int .i64 0, .int .i64 0, .int .i64 0, .int .i64 0]) tz106 rfl ?_))
 intro g1 w2 hg3 hk4 hs5 hb6
 refine Q (aB rfl) <| Qn (Ws (W.block (Ws (W.regJS (fun f' w' => At f' [(0, str s), (1, .slice AL nL cL), (4, .pointer (pA g1)), (5, .bool false), (6, .bool (decide ((s = ([98, 117, 121] : List UInt8)) ∧ ((nL : Int) = 2))))] ∧ Lo w2 w') ?_ ?_))))
 ·refine Q (mS rfl) <| Q (r_eqs (s := s) (r := ([98, 117, 121] : List UInt8)) rfl rfl) <| Q (mB rfl) <| SR.splitD (fun h9 => ?_) (fun h9 => ?_)
  ·refine Qg rfl (mL rfl) <| Qg rfl (r_len und93 rfl) <| Qg rfl (r_eq rfl rfl) <| Q (r_pick true rfl (v := .bool _) rfl) <| Q (aB rfl) <| Qn (⟨_, rfl, ⟨⟨rfl, rfl, rfl, rfl, (eDD (jat h9)), trivial⟩, (Lo.refl _)⟩⟩)
  ·refine Qs rfl <| Qs rfl <| Qs rfl <| Q (r_pick false rfl (v := .bool false) rfl) <| Q (aB rfl) <| Qn (⟨_, rfl, ⟨⟨rfl, rfl, rfl, rfl, (eDF (jaf h9).2), trivial⟩, (Lo.refl _)⟩⟩)
 rintro f10 w11 ⟨hat12, hk13⟩
 rw [← sets_of_at hat12]
 have hz14 := hk13.size
 have hB15 := ((Lo.refl w).lo hk4).lo hk13
 refine W.cond_d rfl (fun h16 => ?_) (fun h16 => ?_)
 ·have hq17 : s = ([98, 117, 121] : List UInt8) := h16.1
  have hq18 : (nL : Int) = 2 := h16.2
  refine Ws ?_
  have hm19 := (hL.lo hk4).lo hk13
  refine W.regA (Kp (fun b_ => b_ = g1) w11) (fun f' w' => At f' [(4, .pointer (pA g1)), (5, .bool true)] ∧ (Kp (fun b_ => b_ = g1) w11 w') ∧ (Blk w' g1 106 [.int .i64 1, .int .i64 (gt L 0), .int .i64 0, .int .i64 (gt L 1)]) ∧ (L[0]? = some (gt L 0)) ∧ (L[1]? = some (gt L 1))) mo ?_ ?_
  ·intro w52 hk53
   have hz54 := hk53.size
   refine Ak 0 rfl (kr hk53) (fun w' hw' => r_mv (v := .slice _ _ _) rfl) <| ?_
   have hx57 := (hm19.lo hk53).elem (i := 0) (by omega)
   refine Ak 1 rfl (kr hk53) (fun w' hw' => r_ixR tsl93 (hm19.kn hw' (by omega)) rfl rfl (by omega)) <| Ak 2 rfl (kr hk53) (fun w' hw' => r_ld (v := .int .i64 (gt L 0)) sca3 rfl ((hm19.kn hw' (by omega)).cell0 hx57 rfl)) <| Ak 3 rfl (kr hk53) (fun w' hw' => r_mv (v := .slice _ _ _) rfl) <| ?_
   have hx59 := (hm19.lo hk53).elem (i := 1) (by omega)
   refine Ak 4 rfl (kr hk53) (fun w' hw' => r_ixR tsl93 (hm19.kn hw' (by omega)) rfl rfl (by omega)) <| Ak 5 rfl (kr hk53) (fun w' hw' => r_ld (v := .int .i64 (gt L 1)) sca3 rfl ((hm19.kn hw' (by omega)).cell0 hx59 rfl)) <| Ak 6 rfl (kr hk53) (fun w' hw' => r_build (vs := [(0, .int .i64 1), (1, .int .i64 (gt L 0)), (3, .int .i64 (gt L 1))]) rfl (bld106_0_1_3 _ _ _)) <| Ab 7 rfl (Qw (o := 0) (vs := [.int .i64 1, .int .i64 (gt L 0), .int .i64 0, .int .i64 (gt L 1)]) agg106.2 rfl rfl rfl rfl ((hb6.lo hk13).lo hk53) ler rfl ?_)
   intro w60 hk61 hs62 hb63
   have hS66 := ((Kp.refl w11 : Kp (fun b_ => b_ = g1) w11 w11).lo hk53).step hk61 (fun _ _ e => e)
   refine Qn ⟨hS66, _, rfl, (Ak 8 rfl hS66 (fun w' hw' => r_as (v := .bool true) rfl) <| AH.done (by kernel_rfl) (⟨⟨rfl, rfl, trivial⟩, hS66, hb63, hx57, hx59⟩))⟩
  rintro f67 w68 ⟨hat70, hR69, hm51, hx40, hx42⟩
  rw [← sets_of_at hat70]
  have hz71 := hR69.size
  refine W.ret (retCT rfl rfl agg106 hm51 rfl (v := .bool _) rfl ?_)
  refine ⟨eR (eT2 (eA (eC (eI ?_) (eC (eI ?_) (eC (eI ?_) (eC (eI ?_) rfl))))) (eB ?_)), (hB15.new hR69 (by omega))⟩ <;> (subst hleL; unfold impl_stepFor; rw [if_pos h16] <;> rfl)
 ·refine Ws ?_
  have hm73 := (hL.lo hk4).lo hk13
  refine W.regJS (fun f' w' => At f' [(0, str s), (1, .slice AL nL cL), (4, .pointer (pA g1)), (5, .bool false), (21, .bool (decide ((s = ([108, 101, 110, 100] : List UInt8)) ∧ ((nL : Int) = 2))))] ∧ Lo w11 w') ?_ ?_
  ·refine Q (mS rfl) <| Q (r_eqs (s := s) (r := ([108, 101, 110, 100] : List UInt8)) rfl rfl) <| Q (mB rfl) <| SR.splitD (fun h74 => ?_) (fun h74 => ?_)
   ·refine Qg rfl (mL rfl) <| Qg rfl (r_len und93 rfl) <| Qg rfl (r_eq rfl rfl) <| Q (r_pick true rfl (v := .bool _) rfl) <| Q (aB rfl) <| Qn (⟨_, rfl, ⟨⟨rfl, rfl, rfl, rfl, (eDD (jat h74)), trivial⟩, (Lo.refl _)⟩⟩)
   ·refine Qs rfl <| Qs rfl <| Qs rfl <| Q (r_pick false rfl (v := .bool false) rfl) <| Q (aB rfl) <| Qn (⟨_, rfl, ⟨⟨rfl, rfl, rfl, rfl, (eDF (jaf h74).2), trivial⟩, (Lo.refl _)⟩⟩)
  rintro f75 w76 ⟨hat77, hk78⟩
  rw [← sets_of_at hat77]
  have hz79 := hk78.size
  have hB80 := hB15.lo hk78
  refine W.cond_d rfl (fun h81 => ?_) (fun h81 => ?_)
  ·have hq82 : s = ([108, 101, 110, 100] : List UInt8) := h81.1
   have hq83 : (nL : Int) = 2 := h81.2
   refine Ws (W.regA (Kp (fun b_ => b_ = g1) w76) (fun f' w' => At f' [(4, .pointer (pA g1)), (5, .bool true)] ∧ (Kp (fun b_ => b_ = g1) w76 w') ∧ (Blk w' g1 106 [.int .i64 2, .int .i64 (gt L 0), .int .i64 (gt L 1), .int .i64 0]) ∧ (L[0]? = some (gt L 0)) ∧ (L[1]? = some (gt L 1))) mo ?_ ?_)
   ·intro w117 hk118
    have hz119 := hk118.size
    refine Ak 0 rfl (kr hk118) (fun w' hw' => r_mv (v := .slice _ _ _) rfl) <| ?_
    have hx122 := ((hm73.lo hk78).lo hk118).elem (i := 0) (by omega)
    refine Ak 1 rfl (kr hk118) (fun w' hw' => r_ixR tsl93 ((hm73.lo hk78).kn hw' (by omega)) rfl rfl (by omega)) <| Ak 2 rfl (kr hk118) (fun w' hw' => r_ld (v := .int .i64 (gt L 0)) sca3 rfl (((hm73.lo hk78).kn hw' (by omega)).cell0 hx122 rfl)) <| Ak 3 rfl (kr hk118) (fun w' hw' => r_mv (v := .slice _ _ _) rfl) <| ?_
    have hx124 := ((hm73.lo hk78).lo hk118).elem (i := 1) (by omega)
    refine Ak 4 rfl (kr hk118) (fun w' hw' => r_ixR tsl93 ((hm73.lo hk78).kn hw' (by omega)) rfl rfl (by omega)) <| Ak 5 rfl (kr hk118) (fun w' hw' => r_ld (v := .int .i64 (gt L 1)) sca3 rfl (((hm73.lo hk78).kn hw' (by omega)).cell0 hx124 rfl)) <| Ak 6 rfl (kr hk118) (fun w' hw' => r_build (vs := [(0, .int .i64 2), (1, .int .i64 (gt L 0)), (2, .int .i64 (gt L 1))]) rfl (bld106_0_1_2 _ _ _)) <| Ab 7 rfl (Qw (o := 0) (vs := [.int .i64 2, .int .i64 (gt L 0), .int .i64 (gt L 1), .int .i64 0]) agg106.2 rfl rfl rfl rfl (((hb6.lo hk13).lo hk78).lo hk118) ler rfl ?_)
    intro w125 hk126 hs127 hb128
    have hS131 := ((Kp.refl w76 : Kp (fun b_ => b_ = g1) w76 w76).lo hk118).step hk126 (fun _ _ e => e)
    refine Qn ⟨hS131, _, rfl, (Ak 8 rfl hS131 (fun w' hw' => r_as (v := .bool true) rfl) <| AH.done (by kernel_rfl) (⟨⟨rfl, rfl, trivial⟩, hS131, hb128, hx122, hx124⟩))⟩
   rintro f132 w133 ⟨hat135, hR134, hm116, hx105, hx107⟩
   rw [← sets_of_at hat135]
   have hz136 := hR134.size
   refine W.ret (retCT rfl rfl agg106 hm116 rfl (v := .bool _) rfl ?_)
   refine ⟨eR (eT2 (eA (eC (eI ?_) (eC (eI ?_) (eC (eI ?_) (eC (eI ?_) rfl))))) (eB ?_)), (hB80.new hR134 (by omega))⟩ <;> (subst hleL; unfold impl_stepFor; rw [if_neg h16, if_pos h81] <;> rfl)
  ·refine Ws ?_
   have hm138 := (hb6.lo hk13).lo hk78
   refine W.regJS (fun f' w' => At f' [(0, str s), (1, .slice AL nL cL), (4, .pointer (pA g1)), (5, .bool false), (36, .bool (decide ((s = ([98, 97, 99, 107] : List UInt8)) ∧ ((nL : Int) = 3))))] ∧ Lo w76 w') ?_ ?_
   ·refine Q (mS rfl) <| Q (r_eqs (s := s) (r := ([98, 97, 99, 107] : List UInt8)) rfl rfl) <| Q (mB rfl) <| SR.splitD (fun h139 => ?_) (fun h139 => ?_)
    ·refine Qg rfl (mL rfl) <| Qg rfl (r_len und93 rfl) <| Qg rfl (r_eq rfl rfl) <| Q (r_pick true rfl (v := .bool _) rfl) <| Q (aB rfl) <| Qn (⟨_, rfl, ⟨⟨rfl, rfl, rfl, rfl, (eDD (jat h139)), trivial⟩, (Lo.refl _)⟩⟩)
    ·refine Qs rfl <| Qs rfl <| Qs rfl <| Q (r_pick false rfl (v := .bool false) rfl) <| Q (aB rfl) <| Qn (⟨_, rfl, ⟨⟨rfl, rfl, rfl, rfl, (eDF (jaf h139).2), trivial⟩, (Lo.refl _)⟩⟩)
   rintro f140 w141 ⟨hat142, hk143⟩
   rw [← sets_of_at hat142]
   have hz144 := hk143.size
   have hB145 := hB80.lo hk143
   refine W.cond_d rfl (fun h146 => ?_) (fun h146 => ?_)
   ·have hq147 : s = ([98, 97, 99, 107] : List UInt8) := h146.1
    have hq148 : (nL : Int) = 3 := h146.2
    refine Ws ?_
    have hm149 := (hm73.lo hk78).lo hk143
    refine W.regA (Kp (fun b_ => b_ = g1) w141) (fun f' w' => At f' [(4, .pointer (pA g1)), (5, .bool true)] ∧ (Kp (fun b_ => b_ = g1) w141 w') ∧ (Blk w' g1 106 [.int .i64 3, .int .i64 (gt L 0), .int .i64 (gt L 1), .int .i64 (gt L 2)]) ∧ (L[0]? = some (gt L 0)) ∧ (L[1]? = some (gt L 1)) ∧ (L[2]? = some (gt L 2))) mo ?_ ?_
    ·intro w186 hk187
     have hz188 := hk187.size
     refine Ak 0 rfl (kr hk187) (fun w' hw' => r_mv (v := .slice _ _ _) rfl) <| ?_
     have hx191 := (hm149.lo hk187).elem (i := 0) (by omega)
     refine Ak 1 rfl (kr hk187) (fun w' hw' => r_ixR tsl93 (hm149.kn hw' (by omega)) rfl rfl (by omega)) <| Ak 2 rfl (kr hk187) (fun w' hw' => r_ld (v := .int .i64 (gt L 0)) sca3 rfl ((hm149.kn hw' (by omega)).cell0 hx191 rfl)) <| Ak 3 rfl (kr hk187) (fun w' hw' => r_mv (v := .slice _ _ _) rfl) <| ?_
     have hx193 := (hm149.lo hk187).elem (i := 1) (by omega)
     refine Ak 4 rfl (kr hk187) (fun w' hw' => r_ixR tsl93 (hm149.kn hw' (by omega)) rfl rfl (by omega)) <| Ak 5 rfl (kr hk187) (fun w' hw' => r_ld (v := .int .i64 (gt L 1)) sca3 rfl ((hm149.kn hw' (by omega)).cell0 hx193 rfl)) <| Ak 6 rfl (kr hk187) (fun w' hw' => r_mv (v := .slice _ _ _) rfl) <| ?_
     have hx195 := (hm149.lo hk187).elem (i := 2) (by omega)
     refine Ak 7 rfl (kr hk187) (fun w' hw' => r_ixR tsl93 (hm149.kn hw' (by omega)) rfl rfl (by omega)) <| Ak 8 rfl (kr hk187) (fun w' hw' => r_ld (v := .int .i64 (gt L 2)) sca3 rfl ((hm149.kn hw' (by omega)).cell0 hx195 rfl)) <| Ak 9 rfl (kr hk187) (fun w' hw' => r_build (vs := [(0, .int .i64 3), (1, .int .i64 (gt L 0)), (2, .int .i64 (gt L 1)), (3, .int .i64 (gt L 2))]) rfl (bld106_0_1_2_3 _ _ _ _)) <| Ab 10 rfl (Qw (o := 0) (vs := [.int .i64 3, .int .i64 (gt L 0), .int .i64 (gt L 1), .int .i64 (gt L 2)]) agg106.2 rfl rfl rfl rfl ((hm138.lo hk143).lo hk187) ler rfl ?_)
     intro w196 hk197 hs198 hb199
     have hS202 := ((Kp.refl w141 : Kp (fun b_ => b_ = g1) w141 w141).lo hk187).step hk197 (fun _ _ e => e)
     refine Qn ⟨hS202, _, rfl, (Ak 11 rfl hS202 (fun w' hw' => r_as (v := .bool true) rfl) <| AH.done (by kernel_rfl) (⟨⟨rfl, rfl, trivial⟩, hS202, hb199, hx191, hx193, hx195⟩))⟩
    rintro f203 w204 ⟨hat206, hR205, hm185, hx172, hx174, hx176⟩
    rw [← sets_of_at hat206]
    have hz207 := hR205.size
    refine W.ret (retCT rfl rfl agg106 hm185 rfl (v := .bool _) rfl ?_)
    refine ⟨eR (eT2 (eA (eC (eI ?_) (eC (eI ?_) (eC (eI ?_) (eC (eI ?_) rfl))))) (eB ?_)), (hB145.new hR205 (by omega))⟩ <;> (subst hleL; unfold impl_stepFor; rw [if_neg h16, if_neg h81, if_pos h146] <;> rfl)
   ·refine Ws ?_
    have hm209 := (hm73.lo hk78).lo hk143
    refine W.regJS (fun f' w' => At f' [(0, str s), (1, .slice AL nL cL), (4, .pointer (pA g1)), (5, .bool false), (54, .bool (decide ((s = ([104, 97, 110, 100] : List UInt8)) ∧ ((nL : Int) = 3))))] ∧ Lo w141 w') ?_ ?_
    ·refine Q (mS rfl) <| Q (r_eqs (s := s) (r := ([104, 97, 110, 100] : List UInt8)) rfl rfl) <| Q (mB rfl) <| SR.splitD (fun h210 => ?_) (fun h210 => ?_)
     ·refine Qg rfl (mL rfl) <| Qg rfl (r_len und93 rfl) <| Qg rfl (r_eq rfl rfl) <| Q (r_pick true rfl (v := .bool _) rfl) <| Q (aB rfl) <| Qn (⟨_, rfl, ⟨⟨rfl, rfl, rfl, rfl, (eDD (jat h210)), trivial⟩, (Lo.refl _)⟩⟩)
     ·refine Qs rfl <| Qs rfl <| Qs rfl <| Q (r_pick false rfl (v := .bool false) rfl) <| Q (aB rfl) <| Qn (⟨_, rfl, ⟨⟨rfl, rfl, rfl, rfl, (eDF (jaf h210).2), trivial⟩, (Lo.refl _)⟩⟩)
    rintro f211 w212 ⟨hat213, hk214⟩
    rw [← sets_of_at hat213]
    have hz215 := hk214.size
    have hB216 := hB145.lo hk214
    refine W.cond_d rfl (fun h217 => ?_) (fun h217 => ?_)
    ·have hq218 : s = ([104, 97, 110, 100] : List UInt8) := h217.1
     have hq219 : (nL : Int) = 3 := h217.2
     refine Ws (W.regA (Kp (fun b_ => b_ = g1) w212) (fun f' w' => At f' [(4, .pointer (pA g1)), (5, .bool true)] ∧ (Kp (fun b_ => b_ = g1) w212 w') ∧ (Blk w' g1 106 [.int .i64 5, .int .i64 (gt L 0), .int .i64 (gt L 1), .int .i64 (gt L 2)]) ∧ (L[0]? = some (gt L 0)) ∧ (L[1]? = some (gt L 1)) ∧ (L[2]? = some (gt L 2))) mo ?_ ?_)
     ·intro w257 hk258
      have hz259 := hk258.size
      refine Ak 0 rfl (kr hk258) (fun w' hw' => r_mv (v := .slice _ _ _) rfl) <| ?_
      have hx262 := ((hm209.lo hk214).lo hk258).elem (i := 0) (by omega)
      refine Ak 1 rfl (kr hk258) (fun w' hw' => r_ixR tsl93 ((hm209.lo hk214).kn hw' (by omega)) rfl rfl (by omega)) <| Ak 2 rfl (kr hk258) (fun w' hw' => r_ld (v := .int .i64 (gt L 0)) sca3 rfl (((hm209.lo hk214).kn hw' (by omega)).cell0 hx262 rfl)) <| Ak 3 rfl (kr hk258) (fun w' hw' => r_mv (v := .slice _ _ _) rfl) <| ?_
      have hx264 := ((hm209.lo hk214).lo hk258).elem (i := 1) (by omega)
      refine Ak 4 rfl (kr hk258) (fun w' hw' => r_ixR tsl93 ((hm209.lo hk214).kn hw' (by omega)) rfl rfl (by omega)) <| Ak 5 rfl (kr hk258) (fun w' hw' => r_ld (v := .int .i64 (gt L 1)) sca3 rfl (((hm209.lo hk214).kn hw' (by omega)).cell0 hx264 rfl)) <| Ak 6 rfl (kr hk258) (fun w' hw' => r_mv (v := .slice _ _ _) rfl) <| ?_
      have hx266 := ((hm209.lo hk214).lo hk258).elem (i := 2) (by omega)
      refine Ak 7 rfl (kr hk258) (fun w' hw' => r_ixR tsl93 ((hm209.lo hk214).kn hw' (by omega)) rfl rfl (by omega)) <| Ak 8 rfl (kr hk258) (fun w' hw' => r_ld (v := .int .i64 (gt L 2)) sca3 rfl (((hm209.lo hk214).kn hw' (by omega)).cell0 hx266 rfl)) <| Ak 9 rfl (kr hk258) (fun w' hw' => r_build (vs := [(0, .int .i64 5), (1, .int .i64 (gt L 0)), (2, .int .i64 (gt L 1)), (3, .int .i64 (gt L 2))]) rfl (bld106_0_1_2_3 _ _ _ _)) <| Ab 10 rfl (Qw (o := 0) (vs := [.int .i64 5, .int .i64 (gt L 0), .int .i64 (gt L 1), .int .i64 (gt L 2)]) agg106.2 rfl rfl rfl rfl (((hm138.lo hk143).lo hk214).lo hk258) ler rfl ?_)
      intro w267 hk268 hs269 hb270
      have hS273 := ((Kp.refl w212 : Kp (fun b_ => b_ = g1) w212 w212).lo hk258).step hk268 (fun _ _ e => e)
      refine Qn ⟨hS273, _, rfl, (Ak 11 rfl hS273 (fun w' hw' => r_as (v := .bool true) rfl) <| AH.done (by kernel_rfl) (⟨⟨rfl, rfl, trivial⟩, hS273, hb270, hx262, hx264, hx266⟩))⟩
     rintro f274 w275 ⟨hat277, hR276, hm256, hx243, hx245, hx247⟩
     rw [← sets_of_at hat277]
     have hz278 := hR276.size
     refine W.ret (retCT rfl rfl agg106 hm256 rfl (v := .bool _) rfl ?_)
     refine ⟨eR (eT2 (eA (eC (eI ?_) (eC (eI ?_) (eC (eI ?_) (eC (eI ?_) rfl))))) (eB ?_)), (hB216.new hR276 (by omega))⟩ <;> (subst hleL; unfold impl_stepFor; rw [if_neg h16, if_neg h81, if_neg h146, if_pos h217] <;> rfl)
    ·refine Ws ?_
     have hm280 := (hm138.lo hk143).lo hk214
     refine W.regJS (fun f' w' => At f' [(0, str s), (1, .slice AL nL cL), (4, .pointer (pA g1)), (5, .bool false), (72, .bool (decide ((s = ([109, 101, 110, 100] : List UInt8)) ∧ ((nL : Int) = 2))))] ∧ Lo w212 w') ?_ ?_
     ·refine Q (mS rfl) <| Q (r_eqs (s := s) (r := ([109, 101, 110, 100] : List UInt8)) rfl rfl) <| Q (mB rfl) <| SR.splitD (fun h281 => ?_) (fun h281 => ?_)
      ·refine Qg rfl (mL rfl) <| Qg rfl (r_len und93 rfl) <| Qg rfl (r_eq rfl rfl) <| Q (r_pick true rfl (v := .bool _) rfl) <| Q (aB rfl) <| Qn (⟨_, rfl, ⟨⟨rfl, rfl, rfl, rfl, (eDD (jat h281)), trivial⟩, (Lo.refl _)⟩⟩)
      ·refine Qs rfl <| Qs rfl <| Qs rfl <| Q (r_pick false rfl (v := .bool false) rfl) <| Q (aB rfl) <| Qn (⟨_, rfl, ⟨⟨rfl, rfl, rfl, rfl, (eDF (jaf h281).2), trivial⟩, (Lo.refl _)⟩⟩)
     rintro f282 w283 ⟨hat284, hk285⟩
     rw [← sets_of_at hat284]
     have hz286 := hk285.size
     have hB287 := hB216.lo hk285
     refine W.cond_d rfl (fun h288 => ?_) (fun h288 => ?_)
     ·have hq289 : s = ([109, 101, 110, 100] : List UInt8) := h288.1
      have hq290 : (nL : Int) = 2 := h288.2
      refine Ws ?_
      have hm291 := (hm209.lo hk214).lo hk285
      refine W.regA (Kp (fun b_ => b_ = g1) w283) (fun f' w' => At f' [(4, .pointer (pA g1)), (5, .bool true)] ∧ (Kp (fun b_ => b_ = g1) w283 w') ∧ (Blk w' g1 106 [.int .i64 4, .int .i64 (gt L 0), .int .i64 0, .int .i64 (gt L 1)]) ∧ (L[0]? = some (gt L 0)) ∧ (L[1]? = some (gt L 1))) mo ?_ ?_
      ·intro w324 hk325
       have hz326 := hk325.size
       refine Ak 0 rfl (kr hk325) (fun w' hw' => r_mv (v := .slice _ _ _) rfl) <| ?_
       have hx329 := (hm291.lo hk325).elem (i := 0) (by omega)
       refine Ak 1 rfl (kr hk325) (fun w' hw' => r_ixR tsl93 (hm291.kn hw' (by omega)) rfl rfl (by omega)) <| Ak 2 rfl (kr hk325) (fun w' hw' => r_ld (v := .int .i64 (gt L 0)) sca3 rfl ((hm291.kn hw' (by omega)).cell0 hx329 rfl)) <| Ak 3 rfl (kr hk325) (fun w' hw' => r_mv (v := .slice _ _ _) rfl) <| ?_
       have hx331 := (hm291.lo hk325).elem (i := 1) (by omega)
       refine Ak 4 rfl (kr hk325) (fun w' hw' => r_ixR tsl93 (hm291.kn hw' (by omega)) rfl rfl (by omega)) <| Ak 5 rfl (kr hk325) (fun w' hw' => r_ld (v := .int .i64 (gt L 1)) sca3 rfl ((hm291.kn hw' (by omega)).cell0 hx331 rfl)) <| Ak 6 rfl (kr hk325) (fun w' hw' => r_build (vs := [(0, .int .i64 4), (1, .int .i64 (gt L 0)), (3, .int .i64 (gt L 1))]) rfl (bld106_0_1_3 _ _ _)) <| Ab 7 rfl (Qw (o := 0) (vs := [.int .i64 4, .int .i64 (gt L 0), .int .i64 0, .int .i64 (gt L 1)]) agg106.2 rfl rfl rfl rfl ((hm280.lo hk285).lo hk325) ler rfl ?_)
       intro w332 hk333 hs334 hb335
       have hS338 := ((Kp.refl w283 : Kp (fun b_ => b_ = g1) w283 w283).lo hk325).step hk333 (fun _ _ e => e)
       refine Qn ⟨hS338, _, rfl, (Ak 8 rfl hS338 (fun w' hw' => r_as (v := .bool true) rfl) <| AH.done (by kernel_rfl) (⟨⟨rfl, rfl, trivial⟩, hS338, hb335, hx329, hx331⟩))⟩
      rintro f339 w340 ⟨hat342, hR341, hm323, hx312, hx314⟩
      rw [← sets_of_at hat342]
      have hz343 := hR341.size
      refine W.ret (retCT rfl rfl agg106 hm323 rfl (v := .bool _) rfl ?_)
      refine ⟨eR (eT2 (eA (eC (eI ?_) (eC (eI ?_) (eC (eI ?_) (eC (eI ?_) rfl))))) (eB ?_)), (hB287.new hR341 (by omega))⟩ <;> (subst hleL; unfold impl_stepFor; rw [if_neg h16, if_neg h81, if_neg h146, if_neg h217, if_pos h288] <;> rfl)
     ·refine Ws ?_
      have hm345 := (hm209.lo hk214).lo hk285
      refine W.regJS (fun f' w' => At f' [(0, str s), (1, .slice AL nL cL), (4, .pointer (pA g1)), (5, .bool false), (87, .bool (decide ((s = ([100, 114, 111, 112] : List UInt8)) ∧ ((nL : Int) = 2))))] ∧ Lo w283 w') ?_ ?_
      ·refine Q (mS rfl) <| Q (r_eqs (s := s) (r := ([100, 114, 111, 112] : List UInt8)) rfl rfl) <| Q (mB rfl) <| SR.splitD (fun h346 => ?_) (fun h346 => ?_)
       ·refine Qg rfl (mL rfl) <| Qg rfl (r_len und93 rfl) <| Qg rfl (r_eq rfl rfl) <| Q (r_pick true rfl (v := .bool _) rfl) <| Q (aB rfl) <| Qn (⟨_, rfl, ⟨⟨rfl, rfl, rfl, rfl, (eDD (jat h346)), trivial⟩, (Lo.refl _)⟩⟩)
       ·refine Qs rfl <| Qs rfl <| Qs rfl <| Q (r_pick false rfl (v := .bool false) rfl) <| Q (aB rfl) <| Qn (⟨_, rfl, ⟨⟨rfl, rfl, rfl, rfl, (eDF (jaf h346).2), trivial⟩, (Lo.refl _)⟩⟩)
      rintro f347 w348 ⟨hat349, hk350⟩
      rw [← sets_of_at hat349]
      have hz351 := hk350.size
      have hB352 := hB287.lo hk350
      refine W.cond_d rfl (fun h353 => ?_) (fun h353 => ?_)
      ·have hq354 : s = ([100, 114, 111, 112] : List UInt8) := h353.1
       have hq355 : (nL : Int) = 2 := h353.2
       refine Ws (W.regA (Kp (fun b_ => b_ = g1) w348) (fun f' w' => At f' [(4, .pointer (pA g1)), (5, .bool true)] ∧ (Kp (fun b_ => b_ = g1) w348 w') ∧ (Blk w' g1 106 [.int .i64 6, .int .i64 (gt L 0), .int .i64 0, .int .i64 (gt L 1)]) ∧ (L[0]? = some (gt L 0)) ∧ (L[1]? = some (gt L 1))) mo ?_ ?_)
       ·intro w389 hk390
        have hz391 := hk390.size
        refine Ak 0 rfl (kr hk390) (fun w' hw' => r_mv (v := .slice _ _ _) rfl) <| ?_
        have hx394 := ((hm345.lo hk350).lo hk390).elem (i := 0) (by omega)
        refine Ak 1 rfl (kr hk390) (fun w' hw' => r_ixR tsl93 ((hm345.lo hk350).kn hw' (by omega)) rfl rfl (by omega)) <| Ak 2 rfl (kr hk390) (fun w' hw' => r_ld (v := .int .i64 (gt L 0)) sca3 rfl (((hm345.lo hk350).kn hw' (by omega)).cell0 hx394 rfl)) <| Ak 3 rfl (kr hk390) (fun w' hw' => r_mv (v := .slice _ _ _) rfl) <| ?_
        have hx396 := ((hm345.lo hk350).lo hk390).elem (i := 1) (by omega)
        refine Ak 4 rfl (kr hk390) (fun w' hw' => r_ixR tsl93 ((hm345.lo hk350).kn hw' (by omega)) rfl rfl (by omega)) <| Ak 5 rfl (kr hk390) (fun w' hw' => r_ld (v := .int .i64 (gt L 1)) sca3 rfl (((hm345.lo hk350).kn hw' (by omega)).cell0 hx396 rfl)) <| Ak 6 rfl (kr hk390) (fun w' hw' => r_build (vs := [(0, .int .i64 6), (1, .int .i64 (gt L 0)), (3, .int .i64 (gt L 1))]) rfl (bld106_0_1_3 _ _ _)) <| Ab 7 rfl (Qw (o := 0) (vs := [.int .i64 6, .int .i64 (gt L 0), .int .i64 0, .int .i64 (gt L 1)]) agg106.2 rfl rfl rfl rfl (((hm280.lo hk285).lo hk350).lo hk390) ler rfl ?_)
        intro w397 hk398 hs399 hb400
        have hS403 := ((Kp.refl w348 : Kp (fun b_ => b_ = g1) w348 w348).lo hk390).step hk398 (fun _ _ e => e)
        refine Qn ⟨hS403, _, rfl, (Ak 8 rfl hS403 (fun w' hw' => r_as (v := .bool true) rfl) <| AH.done (by kernel_rfl) (⟨⟨rfl, rfl, trivial⟩, hS403, hb400, hx394, hx396⟩))⟩
       rintro f404 w405 ⟨hat407, hR406, hm388, hx377, hx379⟩
       rw [← sets_of_at hat407]
       have hz408 := hR406.size
       refine W.ret (retCT rfl rfl agg106 hm388 rfl (v := .bool _) rfl ?_)
       refine ⟨eR (eT2 (eA (eC (eI ?_) (eC (eI ?_) (eC (eI ?_) (eC (eI ?_) rfl))))) (eB ?_)), (hB352.new hR406 (by omega))⟩ <;> (subst hleL; unfold impl_stepFor; rw [if_neg h16, if_neg h81, if_neg h146, if_neg h217, if_neg h288, if_pos h353] <;> rfl)
      ·refine Ws ?_
       have hm410 := (hm280.lo hk285).lo hk350
       refine W.regJS (fun f' w' => At f' [(1, .slice AL nL cL), (4, .pointer (pA g1)), (5, .bool false), (102, .bool (decide ((s = ([119, 101, 97, 114] : List UInt8)) ∧ ((nL : Int) = 2))))] ∧ Lo w348 w') ?_ ?_
       ·refine Q (mS rfl) <| Q (r_eqs (s := s) (r := ([119, 101, 97, 114] : List UInt8)) rfl rfl) <| Q (mB rfl) <| SR.splitD (fun h411 => ?_) (fun h411 => ?_)
        ·refine Qg rfl (mL rfl) <| Qg rfl (r_len und93 rfl) <| Qg rfl (r_eq rfl rfl) <| Q (r_pick true rfl (v := .bool _) rfl) <| Q (aB rfl) <| Qn (⟨_, rfl, ⟨⟨rfl, rfl, rfl, (eDD (jat h411)), trivial⟩, (Lo.refl _)⟩⟩)
        ·refine Qs rfl <| Qs rfl <| Qs rfl <| Q (r_pick false rfl (v := .bool false) rfl) <| Q (aB rfl) <| Qn (⟨_, rfl, ⟨⟨rfl, rfl, rfl, (eDF (jaf h411).2), trivial⟩, (Lo.refl _)⟩⟩)
       rintro f412 w413 ⟨hat414, hk415⟩
       rw [← sets_of_at hat414]
       have hz416 := hk415.size
       have hB417 := hB352.lo hk415
       refine W.cond_d rfl (fun h418 => ?_) (fun h418 => ?_)
       ·have hq419 : s = ([119, 101, 97, 114] : List UInt8) := h418.1
        have hq420 : (nL : Int) = 2 := h418.2
        refine Ws ?_
        have hm421 := (hm345.lo hk350).lo hk415
        refine W.regA (Kp (fun b_ => b_ = g1) w413) (fun f' w' => At f' [(4, .pointer (pA g1)), (5, .bool true)] ∧ (Kp (fun b_ => b_ = g1) w413 w') ∧ (Blk w' g1 106 [.int .i64 7, .int .i64 (gt L 0), .int .i64 0, .int .i64 (gt L 1)]) ∧ (L[0]? = some (gt L 0)) ∧ (L[1]? = some (gt L 1))) mo ?_ ?_
        ·intro w454 hk455
         have hz456 := hk455.size
         refine Ak 0 rfl (kr hk455) (fun w' hw' => r_mv (v := .slice _ _ _) rfl) <| ?_
         have hx459 := (hm421.lo hk455).elem (i := 0) (by omega)
         refine Ak 1 rfl (kr hk455) (fun w' hw' => r_ixR tsl93 (hm421.kn hw' (by omega)) rfl rfl (by omega)) <| Ak 2 rfl (kr hk455) (fun w' hw' => r_ld (v := .int .i64 (gt L 0)) sca3 rfl ((hm421.kn hw' (by omega)).cell0 hx459 rfl)) <| Ak 3 rfl (kr hk455) (fun w' hw' => r_mv (v := .slice _ _ _) rfl) <| ?_
         have hx461 := (hm421.lo hk455).elem (i := 1) (by omega)
         refine Ak 4 rfl (kr hk455) (fun w' hw' => r_ixR tsl93 (hm421.kn hw' (by omega)) rfl rfl (by omega)) <| Ak 5 rfl (kr hk455) (fun w' hw' => r_ld (v := .int .i64 (gt L 1)) sca3 rfl ((hm421.kn hw' (by omega)).cell0 hx461 rfl)) <| Ak 6 rfl (kr hk455) (fun w' hw' => r_build (vs := [(0, .int .i64 7), (1, .int .i64 (gt L 0)), (3, .int .i64 (gt L 1))]) rfl (bld106_0_1_3 _ _ _)) <| Ab 7 rfl (Qw (o := 0) (vs := [.int .i64 7, .int .i64 (gt L 0), .int .i64 0, .int .i64 (gt L 1)]) agg106.2 rfl rfl rfl rfl ((hm410.lo hk415).lo hk455) ler rfl ?_)
         intro w462 hk463 hs464 hb465
         have hS468 := ((Kp.refl w413 : Kp (fun b_ => b_ = g1) w413 w413).lo hk455).step hk463 (fun _ _ e => e)
         refine Qn ⟨hS468, _, rfl, (Ak 8 rfl hS468 (fun w' hw' => r_as (v := .bool true) rfl) <| AH.done (by kernel_rfl) (⟨⟨rfl, rfl, trivial⟩, hS468, hb465, hx459, hx461⟩))⟩
        rintro f469 w470 ⟨hat472, hR471, hm453, hx442, hx444⟩
        rw [← sets_of_at hat472]
        have hz473 := hR471.size
        refine W.ret (retCT rfl rfl agg106 hm453 rfl (v := .bool _) rfl ?_)
        refine ⟨eR (eT2 (eA (eC (eI ?_) (eC (eI ?_) (eC (eI ?_) (eC (eI ?_) rfl))))) (eB ?_)), (hB417.new hR471 (by omega))⟩ <;> (subst hleL; unfold impl_stepFor; rw [if_neg h16, if_neg h81, if_neg h146, if_neg h217, if_neg h288, if_neg h353, if_pos h418] <;> rfl)
       ·refine W.skip (Ws (Wr (Q (r_build (vs := []) rfl bld106_) <| Qw (o := 0) (vs := [.int .i64 0, .int .i64 0, .int .i64 0, .int .i64 0]) agg106.2 rfl rfl rfl rfl (hm410.lo hk415) ler rfl ?_)))
        intro w475 hk476 hs477 hb478
        refine Q (aB rfl) <| Qn (W.ret (retCT rfl rfl agg106 hb478 rfl (v := .bool _) rfl ?_))
        refine ⟨eR (eT2 (eA (eC (eI ?_) (eC (eI ?_) (eC (eI ?_) (eC (eI ?_) rfl))))) (eB ?_)), (hB417.new hk476)⟩ <;> (subst hleL; unfold impl_stepFor; rw [if_neg h16, if_neg h81, if_neg h146, if_neg h217, if_neg h288, if_neg h353, if_neg h418] <;> rfl)
open Classical in
noncomputable def spec_l34Number (n : Int) (ok : Bool) : List UInt8 :=
 if (!ok) = true then ([63] : List UInt8) else Lib.itoa n
theorem c_spec_l34Number (w : World) (n : Int) (ok : Bool) (hp0 : -9223372036854775807 ≤ n ∧ n ≤ 9223372036854775807) : Calls Tryz.prog 136 #[.int .i64 n, .bool ok] w fun e w' => e = .returned (str (spec_l34Number n ok)) ∧ Lo w w' := by
 refine calls_W 9 Tryz.func136 rfl rfl rfl (Ws (Wr (Q (r_as (v := str ([] : List UInt8)) rfl) <| Qn (Ws (Ws (Wr (Q (mB rfl) <| Q (r_not rfl) <| Qn (W.cond_b rfl (fun h1 => ?_) (fun h1 => ?_)))))))))
 ·have hq2 := bnot_t h1
  refine Ws (Wr (Q (r_as (v := str ([63] : List UInt8)) rfl) <| Qn (W.ret (ret1 rfl (v := str _) rfl ?_))))
  exact ⟨eR (eS (by unfold spec_l34Number; rw [if_pos h1] <;> rfl)), (Lo.refl w)⟩
 ·have hq3 := bnot_f h1
  refine W.skip (Ws (Wr (Q (mI rfl) <| Qv ent75 (c_spec_l1Num w n (by omega)) rfl fun w4 hk5 hz6 => ?_)))
  have hq8 : (Lib.itoa n).length ≤ 21 := itoa_len (n := n) (by omega) (by omega)
  refine Q (aS rfl) <| Qn (W.ret (ret1 rfl (v := str _) rfl ?_))
  exact ⟨eR (eS (by unfold spec_l34Number; rw [if_neg (ne_true_of_eq_false h1)] <;> rfl)), ((Lo.refl w).lo hk5)⟩
theorem c_impl_listed (w : World) {AL : Option Addr} {nL cL BL : Nat}  (L : List Int) (hL : SlR w BL encI 1 AL nL cL L) (hp0 : nL ≤ 100) (hp1 : IntsIn L) (hE : EnvW w) : Calls Tryz.prog 154 #[.slice AL nL cL] w fun e w' => e = .returned (str (listN L)) ∧ Lo w w' := by
 refine calls_W 23 Tryz.func154 rfl rfl rfl ?_
 have hbdL := hL.bound
 have hleL := hL.len
 have hBbL := hL.bd
 refine Ws (Wr (Q (r_as (v := str ([] : List UInt8)) rfl) <| Qn (Ws (Ws (Wr (Q (mL rfl) <| Q (r_len und93 rfl) <| Q (r_eq rfl rfl) <| Qn (W.cond_d rfl (fun h1 => ?_) (fun h1 => ?_))))))))
 ·refine Ws (Wr (Q (r_as (v := str ([110, 111, 110, 101] : List UInt8)) rfl) <| Qn (W.ret (ret1 rfl (v := str _) rfl (⟨eR (eS (by first | exact list_nil (by omega) | exact list_all (by omega) (by omega))), (Lo.refl w)⟩)))))
 ·refine W.skip (Ws (Wr (Q (r_as (v := .slice none 0 0) rfl) <| Qn (Ws (Ws (Wr (Q (mL rfl) <| Q (r_len und93 rfl) <| Q (r_mv (v := .int .i64 0) rfl) <| Qn (W.block (W.loop (σ := Nat × (Option Addr) × Nat × Nat) (fun g => [(2, str ([] : List UInt8)), (3, .slice g.2.1 g.2.2.1 g.2.2.2), (9, .slice AL nL cL), (10, .int .i64 (nL : Int)), (11, .int .i64 (g.1 : Int))]) (fun g w' => (Lo w w') ∧ (SlR w' BL encI 1 AL nL cL L) ∧ (SlO w' w.heap.size encS 1 9 g.2.1 g.2.2.1 g.2.2.2 ((L.take g.1).map Lib.itoa)) ∧ (g.1 ≤ nL)) (fun g => nL - g.1) (0, (none : Option Addr), 0, 0) ?_ ?_ ?_)))))))))
  ·exact (At.r rfl)
  ·exact ⟨(Lo.refl w), hL, (SlO.eqv (SlO.nil (base := w.heap.size) (e := 9) (enc := encS) (fun _ => rfl) (Nat.le_refl _)) (by rfl)), (by (try dsimp only); omega)⟩
  ·rintro ⟨k, A2, n2, c2⟩ f3 w4 hP6
   obtain ⟨hB5, hm7, hO8, hi9⟩ : (Lo w w4) ∧ (SlR w4 BL encI 1 AL nL cL L) ∧ (SlO w4 w.heap.size encS 1 9 A2 n2 c2 ((L.take k).map Lib.itoa)) ∧ (k ≤ nL) := hP6
   refine (?_ : W _ _ _ _ _ (act _ (sets f3 [(2, str ([] : List UInt8)), (3, .slice A2 n2 c2), (9, .slice AL nL cL), (10, .int .i64 (nL : Int)), (11, .int .i64 (k : Int))])) _)
   have hzw4 := hB5.size
   have hl10 := hO8.len
   have hl11 := hO8.rd.bound
   have hq12 : ((L.take k).map Lib.itoa).length = k := itoas_len (L := L) (k := k) (by omega)
   refine Ws (Wr (Q (r_lt rfl rfl) <| Qn (Ws (W.cond_d rfl (fun h13 => ?_) (fun h13 => ?_)))))
   ·refine W.skip (Ws (W.block (Ws ?_)))
    have hx15 := hm7.elem (i := k) (by omega)
    have hq16 := ‹IntsIn L› _ _ hx15
    refine Wr (Q (r_ixR tsl93 hm7 rfl rfl (by omega)) <| Q (r_ld (v := .int .i64 (gt L k)) sca3 rfl (hm7.cell0 hx15 rfl)) <| Q (aI rfl) <| Qn (Wr (Q (mL rfl) <| Q (mI rfl) <| Qv ent74 (c_impl_text w4 (gt L k) (by omega) (hE.lo hB5)) rfl fun w17 hk18 hz19 => ?_)))
    have hq21 : (Lib.itoa (gt L k)).length ≤ 21 := itoa_len (n := (gt L k)) (by omega) (by omega)
    refine SR.lit (vs := [str (Lib.itoa (gt L k))]) (L := ([Lib.itoa (gt L k)] : List (List UInt8))) (enc := encS) tel44 (fun _ => rfl) rfl rfl rfl (by decide) ?_
    intro g22 w23 hg24 hk25 hO26
    have hz27 := hk25.size
    refine SR.app tel44 rfl rfl ((hO8.lo hk18).lo hk25) (hO26.rd) (fun _ => rfl) (by omega) (by omega) ?_
    intro A30 c31 w32 hk33 hO34 hN35
    have hz36 := hk33.size
    refine Q (aL rfl) <| Qn ?_
    have hm39 := ((hm7.lo hk18).lo hk25).kp hk33 (fun b_ hb e' => by have := ((hO8.lo hk18).lo hk25).base_le e'; omega)
    refine Wr (Q (r_add rfl rfl (by omega)) <| Q (mI rfl) <| Qn (⟨(k + 1, A30, n2 + 1, c31), _, rfl, (At.r rfl), ⟨(((hB5.lo hk18).lo hk25).step hk33 (fun i_ hi_ e' => by have := ((hO8.lo hk18).lo hk25).base_le e'; first | omega | exact e' | exact .inl e' | exact .inr e')), hm39, (SlO.eqv hO34 (by exact list_next ‹L[k]? = some _›)), ?_⟩, ?_⟩))
    ·exact (by (try dsimp only); omega)
    ·exact (by (try dsimp only); omega)
   ·refine W.exit (xin_here (Ws (Wr (Q (mL rfl) <| Qv ent186 (c_strings_Join w4 ((L.take k).map Lib.itoa) (hO8.rd) ([32] : List UInt8) (by exact own_addr ‹SlO _ _ encS _ _ _ _ _ _› (by omega)) (by exact ⟨by omega, Nat.le_trans (join_bd (itoas_take ‹IntsIn L› _) (by omega)) (by omega)⟩)) rfl fun w40 hk41 hz42 => (Q (aS rfl) <| Qn (W.ret (ret1 rfl (v := str _) rfl (⟨eR (eS (by first | exact list_nil (by omega) | exact list_all (by omega) (by omega))), (hB5.lo hk41)⟩))))))))
theorem c_spec_l34List (w : World) {AL : Option Addr} {nL cL BL : Nat}  (L : List Int) (hL : SlR w BL encI 1 AL nL cL L) (b : Bool) (hp0 : nL ≤ 100) (hp1 : IntsIn L) : Calls Tryz.prog 139 #[.slice AL nL cL, .bool b] w fun e w' => e = .returned (str (if b = true then listN L else [63])) ∧ Lo w w' := by
 refine calls_W 31 Tryz.func139 rfl rfl rfl ?_
 have hbdL := hL.bound
 have hleL := hL.len
 have hBbL := hL.bd
 refine Ws (Wr (Q (r_as (v := str ([] : List UInt8)) rfl) <| Qn (Ws (Ws (Wr (Q (mB rfl) <| Q (r_not rfl) <| Qn (W.cond_b rfl (fun h1 => ?_) (fun h1 => ?_))))))))
 ·have hq2 := bnot_t h1
  refine Ws (Wr (Q (r_as (v := str ([63] : List UInt8)) rfl) <| Qn (W.ret (ret1 rfl (v := str _) rfl (⟨eR (eS (by first | (rw [if_pos (by simpa using ‹_›)]; first | exact list_nil (by omega) | exact listT_all (by omega) (by omega)) | (rw [if_neg (by simpa using ‹_›)]))), (Lo.refl w)⟩)))))
 ·have hq3 := bnot_f h1
  refine W.skip (Ws (Ws (Wr (Q (mL rfl) <| Q (r_len und93 rfl) <| Q (r_eq rfl rfl) <| Qn (W.cond_d rfl (fun h4 => ?_) (fun h4 => ?_))))))
  ·refine Ws (Wr (Q (r_as (v := str ([110, 111, 110, 101] : List UInt8)) rfl) <| Qn (W.ret (ret1 rfl (v := str _) rfl (⟨eR (eS (by first | (rw [if_pos (by simpa using ‹_›)]; first | exact list_nil (by omega) | exact listT_all (by omega) (by omega)) | (rw [if_neg (by simpa using ‹_›)]))), (Lo.refl w)⟩)))))
  ·refine W.skip (Ws (Wr (Q (mL rfl) <| ?_)))
   have hx6 := hL.elem (i := 0) (by omega)
   have hq7 := ‹IntsIn L› _ _ hx6
   refine Q (r_ixR tsl93 hL rfl rfl (by omega)) <| Q (r_ld (v := .int .i64 (gt L 0)) sca3 rfl (hL.cell0 hx6 rfl)) <| Qv ent75 (c_spec_l1Num w (gt L 0) (by omega)) rfl fun w8 hk9 hz10 => ?_
   have hq12 : (Lib.itoa (gt L 0)).length ≤ 21 := itoa_len (n := (gt L 0)) (by omega) (by omega)
   refine Q (aS rfl) <| Qn (Ws (Ws (Wr (Q (aI rfl) <| Qn (W.block (W.loop (σ := Nat) (fun g => [(0, .slice AL nL cL), (4, str ([] : List UInt8)), (5, str (listT (L.take g))), (6, .int .i64 (g : Int))]) (fun g w' => (Lo w w') ∧ (SlR w' BL encI 1 AL nL cL L) ∧ (1 ≤ g ∧ g ≤ nL)) (fun g => nL - g) 1 ?_ ?_ ?_))))))
   ·refine ⟨rfl, rfl, (eS ?_), (eI ?_), trivial⟩ <;> (first | (first | rfl | omega | exact listT_one ‹L[0]? = some _› | exact listT_next (by omega) ‹L[k]? = some _›) | (dsimp only; (first | rfl | omega | exact listT_one ‹L[0]? = some _› | exact listT_next (by omega) ‹L[k]? = some _›)))
   ·exact ⟨((Lo.refl w).lo hk9), hL.lo hk9, (by omega)⟩
   ·rintro k f13 w14 hP16
    obtain ⟨hB15, hm17, hi18⟩ : (Lo w w14) ∧ (SlR w14 BL encI 1 AL nL cL L) ∧ (1 ≤ k ∧ k ≤ nL) := hP16
    refine (?_ : W _ _ _ _ _ (act _ (sets f13 [(0, .slice AL nL cL), (4, str ([] : List UInt8)), (5, str (listT (L.take k))), (6, .int .i64 (k : Int))])) _)
    have hzw14 := hB15.size
    have hq19 : (listT (L.take k)).length ≤ 2200 := listT_bd ‹IntsIn L› (by omega) k
    refine Ws (Ws (Wr (Q (mI rfl) <| Q (mL rfl) <| Q (r_len und93 rfl) <| Q (r_lt rfl rfl) <| Qn (W.cond_d rfl (fun h20 => ?_) (fun h20 => ?_)))))
    ·refine W.skip (Ws (W.block (Wr (Q (mS rfl) <| Q (r_cat rfl rfl (by first | omega | (simp only [List.length_append, List.length_cons, List.length_nil, List.length_take, List.length_drop]; omega) | (simp only [List.length_append, List.length_cons, List.length_nil, List.length_take, List.length_drop] at *; omega))) <| Q (mL rfl) <| Q (mI rfl) <| ?_))))
     have hx22 := hm17.elem (i := k) (by omega)
     have hq23 := ‹IntsIn L› _ _ hx22
     refine Q (r_ixR tsl93 hm17 rfl rfl (by omega)) <| Q (r_ld (v := .int .i64 (gt L k)) sca3 rfl (hm17.cell0 hx22 rfl)) <| Qv ent75 (c_spec_l1Num w14 (gt L k) (by omega)) rfl fun w24 hk25 hz26 => ?_
     have hq28 : (Lib.itoa (gt L k)).length ≤ 21 := itoa_len (n := (gt L k)) (by omega) (by omega)
     refine Q (r_cat rfl rfl (by first | omega | (simp only [List.length_append, List.length_cons, List.length_nil, List.length_take, List.length_drop]; omega) | (simp only [List.length_append, List.length_cons, List.length_nil, List.length_take, List.length_drop] at *; omega))) <| Q (aS rfl) <| Qn (Wr (Q (mI rfl) <| Q (r_add rfl rfl (by omega)) <| Q (aI rfl) <| Qn (⟨k + 1, _, rfl, ⟨rfl, rfl, (eS (by first | (first | rfl | omega | exact listT_one ‹L[0]? = some _› | exact listT_next (by omega) ‹L[k]? = some _›) | (dsimp only; (first | rfl | omega | exact listT_one ‹L[0]? = some _› | exact listT_next (by omega) ‹L[k]? = some _›)))), (eI (by first | (first | rfl | omega | exact listT_one ‹L[0]? = some _› | exact listT_next (by omega) ‹L[k]? = some _›) | (dsimp only; (first | rfl | omega | exact listT_one ‹L[0]? = some _› | exact listT_next (by omega) ‹L[k]? = some _›)))), trivial⟩, ⟨(hB15.lo hk25), hm17.lo hk25, ?_⟩, ?_⟩)))
     ·exact (by omega)
     ·exact (by omega)
    ·refine W.exit (xin_here (Ws (Wr (Q (mS rfl) <| Q (aS rfl) <| Qn (W.ret (ret1 rfl (v := str _) rfl (⟨eR (eS (by first | (rw [if_pos (by simpa using ‹_›)]; first | exact list_nil (by omega) | exact listT_all (by omega) (by omega)) | (rw [if_neg (by simpa using ‹_›)]))), hB15⟩)))))))
end Go.Proofs.YtndcchndcghmoaaGreatDoor
namespace Go.Proofs.YtndcchndcghmoaaGreatDoor
open Go Go.RowKit Fw
set_option maxRecDepth 10000
set_option maxHeartbeats 2000000
set_option linter.unusedVariables false
theorem ent135 : Ent Tryz.prog 135 := en Tryz.func135
theorem ent136 : Ent Tryz.prog 136 := en Tryz.func136
theorem ent137 : Ent Tryz.prog 137 := en Tryz.func137
theorem ent138 : Ent Tryz.prog 138 := en Tryz.func138
theorem ent139 : Ent Tryz.prog 139 := en Tryz.func139
theorem ent153 : Ent Tryz.prog 153 := en Tryz.func153
theorem ent154 : Ent Tryz.prog 154 := en Tryz.func154
theorem ent155 : Ent Tryz.prog 155 := en Tryz.func155
theorem ent156 : Ent Tryz.prog 156 := en Tryz.func156
theorem ent157 : Ent Tryz.prog 157 := en Tryz.func157
theorem ent176 : Ent Tryz.prog 176 := en Tryz.func176
theorem ent73 : Ent Tryz.prog 73 := en Tryz.func73
open Classical in
noncomputable def impl_tell (x : Library) (s : List UInt8) (L : List Int) : List UInt8 × Bool :=
 if (s = ([116, 101, 120, 116] : List UInt8)) ∧ ((L.length : Int) = 1) then ((mapT x (gt L 0)).1, (mapT x (gt L 0)).2) else if (s = ([97, 116] : List UInt8)) ∧ ((L.length : Int) = 1) then (listN (if LibOK x ∧ (1 ≤ (gt L 0) ∧ (gt L 0) ≤ 999) then selL (atR (gt L 0)) Away.Map x.Away else []), decide (LibOK x ∧ (1 ≤ (gt L 0) ∧ (gt L 0) ≤ 999))) else if (s = ([114, 101, 97, 100, 101, 114, 115] : List UInt8)) ∧ ((L.length : Int) = 1) then (listN (if LibOK x ∧ 0 ≤ idxF (hasId (gt L 0)) x.Maps then selL (ofM (gt L 0)) Away.Reader x.Away else []), decide (LibOK x ∧ 0 ≤ idxF (hasId (gt L 0)) x.Maps)) else if 0 < (L.length : Int) then (([] : List UInt8), false) else if s = ([109, 97, 121] : List UInt8) then (listN (if LibOK x then selL mayM LMap.Id x.Maps else []), decide (LibOK x)) else if s = ([116, 104, 101, 114, 101] : List UInt8) then (Lib.itoa (sumC x.Maps), true) else if s = ([116, 111, 114, 110] : List UInt8) then (Lib.itoa (if LibOK x then sumT x.Maps else 0), decide (LibOK x)) else if s = ([98, 111, 117, 103, 104, 116] : List UInt8) then (Lib.itoa x.Bought, true) else if s = ([109, 101, 110, 100, 101, 100] : List UInt8) then (Lib.itoa x.Mended, true) else (([] : List UInt8), false)
theorem c_impl_tell (w : World) (x : Library) {Ax1 : Option Addr} {nx1 cx1 Bx1 : Nat} (hx1 : SlR w Bx1 encLMap 3 Ax1 nx1 cx1 x.Maps) {Ax2 : Option Addr} {nx2 cx2 Bx2 : Nat} (hx2 : SlR w Bx2 encAway 2 Ax2 nx2 cx2 x.Away) (s : List UInt8) {AL : Option Addr} {nL cL BL : Nat}  (L : List Int) (hL : SlR w BL encI 1 AL nL cL L) (hp0 : (nx1 : Int) ≤ 8) (hp1 : (nx2 : Int) ≤ 8) (hp2 : nL ≤ 1000) (hp3 : LibOK x) (hp4 : MapsOK x.Maps) (hE : EnvW w) : Calls Tryz.prog 98 #[.agg (List.toArray (cLb Ax1 nx1 cx1 Ax2 nx2 cx2 x)), str s, .slice AL nL cL] w fun e w' => e = .returned (.tuple (List.toArray [str ((impl_tell x s L).1), .bool ((impl_tell x s L).2)])) ∧ Lo w w' := by
 refine calls_W 105 Tryz.func98 rfl rfl rfl ?_
 have hbdx1 := hx1.bound
 have hlex1 := hx1.len
 have hBbx1 := hx1.bd
 have hbdx2 := hx2.bound
 have hlex2 := hx2.len
 have hBbx2 := hx2.bd
 have hbdL := hL.bound
 have hleL := hL.len
 have hBbL := hL.bd
 have hlb := lib_rng hp3
 refine Ws (Wr (SR.box (v := .agg (List.toArray _)) (l := (cLb Ax1 nx1 cx1 Ax2 nx2 cx2 x)) rfl rfl ?_))
 intro g1 w2 hg3 hk4 hs5 hb6
 refine Q (r_as (v := str ([] : List UInt8)) rfl) <| Q (aB rfl) <| Qn (Ws (Wr (Q (r_as (v := .slice none 0 0) rfl) <| Qn (Ws (Wr (Q (aI rfl) <| Q (aB rfl) <| Qn (Ws (W.block (Ws (W.regJS (fun f' w' => At f' [(1, str s), (2, .slice AL nL cL), (3, .pointer (pA g1)), (6, str ([] : List UInt8)), (7, .bool false), (8, .slice none 0 0), (9, .int .i64 0), (10, .bool true), (11, .bool (decide ((s = ([116, 101, 120, 116] : List UInt8)) ∧ ((nL : Int) = 1))))] ∧ Lo w2 w') ?_ ?_))))))))))
 ·refine Q (mS rfl) <| Q (r_eqs (s := s) (r := ([116, 101, 120, 116] : List UInt8)) rfl rfl) <| Q (mB rfl) <| SR.splitD (fun h9 => ?_) (fun h9 => ?_)
  ·refine Qg rfl (mL rfl) <| Qg rfl (r_len und93 rfl) <| Qg rfl (r_eq rfl rfl) <| Q (r_pick true rfl (v := .bool _) rfl) <| Q (aB rfl) <| Qn (⟨_, rfl, ⟨⟨rfl, rfl, rfl, rfl, rfl, rfl, rfl, rfl, (eDD (jat h9)), trivial⟩, (Lo.refl _)⟩⟩)
  ·refine Qs rfl <| Qs rfl <| Qs rfl <| Q (r_pick false rfl (v := .bool false) rfl) <| Q (aB rfl) <| Qn (⟨_, rfl, ⟨⟨rfl, rfl, rfl, rfl, rfl, rfl, rfl, rfl, (eDF (jaf h9).2), trivial⟩, (Lo.refl _)⟩⟩)
 rintro f10 w11 ⟨hat12, hk13⟩
 rw [← sets_of_at hat12]
 have hz14 := hk13.size
 have hB15 := ((Lo.refl w).lo hk4).lo hk13
 refine W.cond_d rfl (fun h16 => ?_) (fun h16 => ?_)
 ·have hq17 : s = ([116, 101, 120, 116] : List UInt8) := h16.1
  have hq18 : (nL : Int) = 1 := h16.2
  refine Ws ?_
  have hm19 := (hL.lo hk4).lo hk13
  refine W.regD mo (by kernel_rfl) (QR.q' (fun w' hw' => r_lda (l := (cLb Ax1 nx1 cx1 Ax2 nx2 cx2 x)) agg34 rfl (fun _ _ hu => ((hb6.lo hk13).lo hw').cell hu) rfl) <| QR.q' (fun w' hw' => r_mv (v := .slice _ _ _) rfl) <| ?_)
  have hx23 := hm19.elem (i := 0) (by omega)
  refine QR.q' (fun w' hw' => r_ixR tsl93 (hm19.lo hw') rfl rfl (by omega)) <| QR.q' (fun w' hw' => r_ld (v := .int .i64 (gt L 0)) sca3 rfl ((hm19.lo hw').cell0 hx23 rfl)) <| QR.call ent73 (fun w' hw' => (c_impl_MapText w' x (((hx1.lo hk4).lo hk13).lo hw') (((hx2.lo hk4).lo hk13).lo hw') (gt L 0) (by omega) (hE.lo (hB15.trans hw'))).mono fun _ _ h => ⟨h.1, hw'.trans h.2⟩) rfl <| ?_
  have hq24 : (mapT x (gt L 0)).1.length ≤ 75 := mapT_len x (gt L 0)
  refine QR.q' (fun w' hw' => r_ext (v := str _) rfl rfl) <| QR.q' (fun w' hw' => r_ext (v := .bool _) rfl rfl) <| QR.q' (fun w' hw' => r_as (v := str _) rfl) <| QR.q' (fun w' hw' => r_as (v := .bool _) rfl) <| QR.nil ?_
  intro w25 hk26
  have hz27 := hk26.size
  refine W.ret (ret2 rfl (v := str _) (v' := .bool _) rfl rfl ?_)
  refine ⟨eR (eT2 (eS ?_) (eB ?_)), (hB15.lo hk26)⟩ <;> (subst hleL; unfold impl_tell; rw [if_pos h16] <;> rfl)
 ·refine Ws ?_
  have hm29 := (hL.lo hk4).lo hk13
  have hm30 := (hx1.lo hk4).lo hk13
  have hm31 := (hx2.lo hk4).lo hk13
  refine W.regJS (fun f' w' => At f' [(1, str s), (2, .slice AL nL cL), (3, .pointer (pA g1)), (6, str ([] : List UInt8)), (7, .bool false), (8, .slice none 0 0), (9, .int .i64 0), (10, .bool true), (26, .bool (decide ((s = ([97, 116] : List UInt8)) ∧ ((nL : Int) = 1))))] ∧ Lo w11 w') ?_ ?_
  ·refine Q (mS rfl) <| Q (r_eqs (s := s) (r := ([97, 116] : List UInt8)) rfl rfl) <| Q (mB rfl) <| SR.splitD (fun h32 => ?_) (fun h32 => ?_)
   ·refine Qg rfl (mL rfl) <| Qg rfl (r_len und93 rfl) <| Qg rfl (r_eq rfl rfl) <| Q (r_pick true rfl (v := .bool _) rfl) <| Q (aB rfl) <| Qn (⟨_, rfl, ⟨⟨rfl, rfl, rfl, rfl, rfl, rfl, rfl, rfl, (eDD (jat h32)), trivial⟩, (Lo.refl _)⟩⟩)
   ·refine Qs rfl <| Qs rfl <| Qs rfl <| Q (r_pick false rfl (v := .bool false) rfl) <| Q (aB rfl) <| Qn (⟨_, rfl, ⟨⟨rfl, rfl, rfl, rfl, rfl, rfl, rfl, rfl, (eDF (jaf h32).2), trivial⟩, (Lo.refl _)⟩⟩)
  rintro f33 w34 ⟨hat35, hk36⟩
  rw [← sets_of_at hat35]
  have hz37 := hk36.size
  have hB38 := hB15.lo hk36
  refine W.cond_d rfl (fun h39 => ?_) (fun h39 => ?_)
  ·have hq40 : s = ([97, 116] : List UInt8) := h39.1
   have hq41 : (nL : Int) = 1 := h39.2
   refine Ws (W.regA (Lo w34) (fun f' w' => ∃ (A51 : Option Addr) (n52 : Nat) (c53 : Nat), At f' [(6, str ([] : List UInt8)), (7, .bool false), (8, .slice A51 n52 c53), (9, .int .i64 0), (10, .bool (decide (LibOK x ∧ (1 ≤ (gt L 0) ∧ (gt L 0) ≤ 999))))] ∧ (Lo w34 w') ∧ (SlO w' w34.heap.size encI 1 3 A51 n52 c53 (if LibOK x ∧ (1 ≤ (gt L 0) ∧ (gt L 0) ≤ 999) then selL (atR (gt L 0)) Away.Map x.Away else [])) ∧ (L[0]? = some (gt L 0)) ∧ (n52 = (if LibOK x ∧ (1 ≤ (gt L 0) ∧ (gt L 0) ≤ 999) then selL (atR (gt L 0)) Away.Map x.Away else []).length) ∧ ((n52 : Int) ≤ 9223372036854775807) ∧ ((if LibOK x ∧ (1 ≤ (gt L 0) ∧ (gt L 0) ≤ 999) then selL (atR (gt L 0)) Away.Map x.Away else []).length ≤ x.Away.length) ∧ (IntsIn (if LibOK x ∧ (1 ≤ (gt L 0) ∧ (gt L 0) ≤ 999) then selL (atR (gt L 0)) Away.Map x.Away else []))) mo ?_ ?_)
   ·intro w63 hk64
    have hz65 := hk64.size
    refine Ak 0 rfl hk64 (fun w' hw' => r_lda (l := (cLb Ax1 nx1 cx1 Ax2 nx2 cx2 x)) agg34 rfl (fun _ _ hu => (((hb6.lo hk13).lo hk36).lo hw').cell hu) rfl) <| Ak 1 rfl hk64 (fun w' hw' => r_mv (v := .slice _ _ _) rfl) <| ?_
    have hx68 := ((hm29.lo hk36).lo hk64).elem (i := 0) (by omega)
    refine Ak 2 rfl hk64 (fun w' hw' => r_ixR tsl93 ((hm29.lo hk36).lo hw') rfl rfl (by omega)) <| Ak 3 rfl hk64 (fun w' hw' => r_ld (v := .int .i64 (gt L 0)) sca3 rfl (((hm29.lo hk36).lo hw').cell0 hx68 rfl)) <| Ab 4 rfl (SR.call ent153 (c_impl_MapsAt w63 x ((hm30.lo hk36).lo hk64) ((hm31.lo hk36).lo hk64) (gt L 0) (by omega)) rfl ?_)
    rintro e w69 ⟨A71, n72, c73, rfl, hO74, hk70⟩
    refine ⟨_, rfl, ?_⟩
    have hz75 := hk70.size
    have hS77 := hk64.lo hk70
    have hl78 := hO74.len
    have hl79 := hO74.rd.bound
    have hq80 := (selif_len _ _ _ _ : (if LibOK x ∧ (1 ≤ (gt L 0) ∧ (gt L 0) ≤ 999) then selL (atR (gt L 0)) Away.Map x.Away else []).length ≤ x.Away.length)
    have hq81 : IntsIn (if LibOK x ∧ (1 ≤ (gt L 0) ∧ (gt L 0) ≤ 999) then selL (atR (gt L 0)) Away.Map x.Away else []) := ints_at x (gt L 0)
    refine Qn ⟨hS77, _, rfl, (Ak 5 rfl hS77 (fun w' hw' => r_mv (v := .tuple (List.toArray _)) rfl) <| Ak 6 rfl hS77 (fun w' hw' => r_ext (v := .slice _ _ _) rfl rfl) <| Ak 7 rfl hS77 (fun w' hw' => r_ext (v := .bool _) rfl rfl) <| Ak 8 rfl hS77 (fun w' hw' => r_as (v := .slice _ _ _) rfl) <| Ak 9 rfl hS77 (fun w' hw' => r_as (v := .bool _) rfl) <| AH.done (by kernel_rfl) (⟨A71, n72, c73, (At.r rfl), hS77, (hO74.down), hx68, hl78, hl79, hq80, hq81⟩))⟩
   rintro f82 w83 ⟨A51, n52, c53, hat85, hR84, hm62, hx48, hl58, hl59, hq60, hq61⟩
   rw [← sets_of_at hat85]
   have hz86 := hR84.size
   have hB87 := hB38.lo hR84
   refine Ws (Wr (Q (mL rfl) <| Qv ent154 (c_impl_listed w83 (if LibOK x ∧ (1 ≤ (gt L 0) ∧ (gt L 0) ≤ 999) then selL (atR (gt L 0)) Away.Map x.Away else []) (hm62.rd) (by omega) (by assumption) (hE.lo hB87)) rfl fun w88 hk89 hz90 => ?_))
   have hq92 : (listN (if LibOK x ∧ (1 ≤ (gt L 0) ∧ (gt L 0) ≤ 999) then selL (atR (gt L 0)) Away.Map x.Away else [])).length ≤ 22 * (if LibOK x ∧ (1 ≤ (gt L 0) ∧ (gt L 0) ≤ 999) then selL (atR (gt L 0)) Away.Map x.Away else []).length + 4 := listN_len (if LibOK x ∧ (1 ≤ (gt L 0) ∧ (gt L 0) ≤ 999) then selL (atR (gt L 0)) Away.Map x.Away else []) (by assumption) (by omega)
   refine Q (mB rfl) <| Q (aS rfl) <| Q (aB rfl) <| Qn (W.ret (ret2 rfl (v := str _) (v' := .bool _) rfl rfl ?_))
   refine ⟨eR (eT2 (eS ?_) (eB ?_)), (hB87.lo hk89)⟩ <;> (subst hleL; unfold impl_tell; rw [if_neg h16, if_pos h39] <;> rfl)
  ·refine Ws ?_
   have hm93 := (hb6.lo hk13).lo hk36
   refine W.regJS (fun f' w' => At f' [(1, str s), (2, .slice AL nL cL), (3, .pointer (pA g1)), (6, str ([] : List UInt8)), (7, .bool false), (8, .slice none 0 0), (9, .int .i64 0), (10, .bool true), (45, .bool (decide ((s = ([114, 101, 97, 100, 101, 114, 115] : List UInt8)) ∧ ((nL : Int) = 1))))] ∧ Lo w34 w') ?_ ?_
   ·refine Q (mS rfl) <| Q (r_eqs (s := s) (r := ([114, 101, 97, 100, 101, 114, 115] : List UInt8)) rfl rfl) <| Q (mB rfl) <| SR.splitD (fun h94 => ?_) (fun h94 => ?_)
    ·refine Qg rfl (mL rfl) <| Qg rfl (r_len und93 rfl) <| Qg rfl (r_eq rfl rfl) <| Q (r_pick true rfl (v := .bool _) rfl) <| Q (aB rfl) <| Qn (⟨_, rfl, ⟨⟨rfl, rfl, rfl, rfl, rfl, rfl, rfl, rfl, (eDD (jat h94)), trivial⟩, (Lo.refl _)⟩⟩)
    ·refine Qs rfl <| Qs rfl <| Qs rfl <| Q (r_pick false rfl (v := .bool false) rfl) <| Q (aB rfl) <| Qn (⟨_, rfl, ⟨⟨rfl, rfl, rfl, rfl, rfl, rfl, rfl, rfl, (eDF (jaf h94).2), trivial⟩, (Lo.refl _)⟩⟩)
   rintro f95 w96 ⟨hat97, hk98⟩
   rw [← sets_of_at hat97]
   have hz99 := hk98.size
   have hB100 := hB38.lo hk98
   refine W.cond_d rfl (fun h101 => ?_) (fun h101 => ?_)
   ·have hq102 : s = ([114, 101, 97, 100, 101, 114, 115] : List UInt8) := h101.1
    have hq103 : (nL : Int) = 1 := h101.2
    refine Ws ?_
    have hm104 := (hm29.lo hk36).lo hk98
    refine W.regA (Lo w96) (fun f' w' => ∃ (A115 : Option Addr) (n116 : Nat) (c117 : Nat), At f' [(6, str ([] : List UInt8)), (7, .bool false), (8, .slice A115 n116 c117), (9, .int .i64 0), (10, .bool (decide (LibOK x ∧ 0 ≤ idxF (hasId (gt L 0)) x.Maps)))] ∧ (Lo w96 w') ∧ (SlO w' w96.heap.size encI 1 3 A115 n116 c117 (if LibOK x ∧ 0 ≤ idxF (hasId (gt L 0)) x.Maps then selL (ofM (gt L 0)) Away.Reader x.Away else [])) ∧ (L[0]? = some (gt L 0)) ∧ (n116 = (if LibOK x ∧ 0 ≤ idxF (hasId (gt L 0)) x.Maps then selL (ofM (gt L 0)) Away.Reader x.Away else []).length) ∧ ((n116 : Int) ≤ 9223372036854775807) ∧ ((if LibOK x ∧ 0 ≤ idxF (hasId (gt L 0)) x.Maps then selL (ofM (gt L 0)) Away.Reader x.Away else []).length ≤ x.Away.length) ∧ (IntsIn (if LibOK x ∧ 0 ≤ idxF (hasId (gt L 0)) x.Maps then selL (ofM (gt L 0)) Away.Reader x.Away else []))) mo ?_ ?_
    ·intro w127 hk128
     have hz129 := hk128.size
     refine Ak 0 rfl hk128 (fun w' hw' => r_lda (l := (cLb Ax1 nx1 cx1 Ax2 nx2 cx2 x)) agg34 rfl (fun _ _ hu => ((hm93.lo hk98).lo hw').cell hu) rfl) <| Ak 1 rfl hk128 (fun w' hw' => r_mv (v := .slice _ _ _) rfl) <| ?_
     have hx132 := (hm104.lo hk128).elem (i := 0) (by omega)
     refine Ak 2 rfl hk128 (fun w' hw' => r_ixR tsl93 (hm104.lo hw') rfl rfl (by omega)) <| Ak 3 rfl hk128 (fun w' hw' => r_ld (v := .int .i64 (gt L 0)) sca3 rfl ((hm104.lo hw').cell0 hx132 rfl)) <| Ab 4 rfl (SR.call ent155 (c_impl_ReadersOf w127 x (((hm30.lo hk36).lo hk98).lo hk128) (((hm31.lo hk36).lo hk98).lo hk128) (gt L 0) (by omega)) rfl ?_)
     rintro e w133 ⟨A135, n136, c137, rfl, hO138, hk134⟩
     refine ⟨_, rfl, ?_⟩
     have hz139 := hk134.size
     have hS141 := hk128.lo hk134
     have hl142 := hO138.len
     have hl143 := hO138.rd.bound
     have hq144 := (selif_len _ _ _ _ : (if LibOK x ∧ 0 ≤ idxF (hasId (gt L 0)) x.Maps then selL (ofM (gt L 0)) Away.Reader x.Away else []).length ≤ x.Away.length)
     have hq145 : IntsIn (if LibOK x ∧ 0 ≤ idxF (hasId (gt L 0)) x.Maps then selL (ofM (gt L 0)) Away.Reader x.Away else []) := ints_rd x (gt L 0)
     refine Qn ⟨hS141, _, rfl, (Ak 5 rfl hS141 (fun w' hw' => r_mv (v := .tuple (List.toArray _)) rfl) <| Ak 6 rfl hS141 (fun w' hw' => r_ext (v := .slice _ _ _) rfl rfl) <| Ak 7 rfl hS141 (fun w' hw' => r_ext (v := .bool _) rfl rfl) <| Ak 8 rfl hS141 (fun w' hw' => r_as (v := .slice _ _ _) rfl) <| Ak 9 rfl hS141 (fun w' hw' => r_as (v := .bool _) rfl) <| AH.done (by kernel_rfl) (⟨A135, n136, c137, (At.r rfl), hS141, (hO138.down), hx132, hl142, hl143, hq144, hq145⟩))⟩
    rintro f146 w147 ⟨A115, n116, c117, hat149, hR148, hm126, hx112, hl122, hl123, hq124, hq125⟩
    rw [← sets_of_at hat149]
    have hz150 := hR148.size
    have hB151 := hB100.lo hR148
    refine Ws (Wr (Q (mL rfl) <| Qv ent154 (c_impl_listed w147 (if LibOK x ∧ 0 ≤ idxF (hasId (gt L 0)) x.Maps then selL (ofM (gt L 0)) Away.Reader x.Away else []) (hm126.rd) (by omega) (by assumption) (hE.lo hB151)) rfl fun w152 hk153 hz154 => ?_))
    have hq156 : (listN (if LibOK x ∧ 0 ≤ idxF (hasId (gt L 0)) x.Maps then selL (ofM (gt L 0)) Away.Reader x.Away else [])).length ≤ 22 * (if LibOK x ∧ 0 ≤ idxF (hasId (gt L 0)) x.Maps then selL (ofM (gt L 0)) Away.Reader x.Away else []).length + 4 := listN_len (if LibOK x ∧ 0 ≤ idxF (hasId (gt L 0)) x.Maps then selL (ofM (gt L 0)) Away.Reader x.Away else []) (by assumption) (by omega)
    refine Q (mB rfl) <| Q (aS rfl) <| Q (aB rfl) <| Qn (W.ret (ret2 rfl (v := str _) (v' := .bool _) rfl rfl ?_))
    refine ⟨eR (eT2 (eS ?_) (eB ?_)), (hB151.lo hk153)⟩ <;> (subst hleL; unfold impl_tell; rw [if_neg h16, if_neg h39, if_pos h101] <;> rfl)
   ·refine Ws ?_
    have hm158 := (hm30.lo hk36).lo hk98
    have hm159 := (hm31.lo hk36).lo hk98
    refine Wr (Q (mL rfl) <| Q (r_len und93 rfl) <| Q (r_gt rfl rfl) <| Q (aB rfl) <| Qn (W.cond_d rfl (fun h160 => ?_) (fun h160 => ?_)))
    ·refine Ws (Wr (Q (r_as (v := str ([] : List UInt8)) rfl) <| Q (aB rfl) <| Qn (W.ret (ret2 rfl (v := str _) (v' := .bool _) rfl rfl ?_))))
     refine ⟨eR (eT2 (eS ?_) (eB ?_)), hB100⟩ <;> (subst hleL; unfold impl_tell; rw [if_neg h16, if_neg h39, if_neg h101, if_pos h160] <;> rfl)
    ·refine Ws (Wr (Q (mS rfl) <| Q (r_eqs (s := s) (r := ([109, 97, 121] : List UInt8)) rfl rfl) <| Q (aB rfl) <| Qn (W.cond_d rfl (fun h161 => ?_) (fun h161 => ?_))))
     ·refine Ws (Wr (Q (lG agg34 rfl (hm93.lo hk98) rfl) <| SR.call ent156 (c_impl_MayLend w96 x hm158 hm159 (by omega)) rfl ?_))
      rintro e w162 ⟨A164, n165, c166, rfl, hO167, hk163⟩
      refine ⟨_, rfl, ?_⟩
      have hz168 := hk163.size
      have hB169 := hB100.lo hk163
      have hl170 := hO167.len
      have hl171 := hO167.rd.bound
      have hq172 := (selif_len _ _ _ _ : (if LibOK x then selL mayM LMap.Id x.Maps else []).length ≤ x.Maps.length)
      have hq173 : IntsIn (if LibOK x then selL mayM LMap.Id x.Maps else []) := ints_may x
      refine Q (mT rfl) <| Q (xL rfl rfl) <| Q (xB rfl rfl) <| Q (aL rfl) <| Q (aB rfl) <| Qn (Ws (Wr (Q (mL rfl) <| Qv ent154 (c_impl_listed w162 (if LibOK x then selL mayM LMap.Id x.Maps else []) (hO167.rd) (by omega) (by assumption) (hE.lo hB169)) rfl fun w174 hk175 hz176 => ?_)))
      have hq178 : (listN (if LibOK x then selL mayM LMap.Id x.Maps else [])).length ≤ 22 * (if LibOK x then selL mayM LMap.Id x.Maps else []).length + 4 := listN_len (if LibOK x then selL mayM LMap.Id x.Maps else []) (by assumption) (by omega)
      refine Q (mB rfl) <| Q (aS rfl) <| Q (aB rfl) <| Qn (W.ret (ret2 rfl (v := str _) (v' := .bool _) rfl rfl ?_))
      refine ⟨eR (eT2 (eS ?_) (eB ?_)), (hB169.lo hk175)⟩ <;> (subst hleL; unfold impl_tell; rw [if_neg h16, if_neg h39, if_neg h101, if_neg h160, if_pos h161] <;> rfl)
     ·refine Ws (Wr (Q (mS rfl) <| Q (r_eqs (s := s) (r := ([116, 104, 101, 114, 101] : List UInt8)) rfl rfl) <| Q (aB rfl) <| Qn (W.cond_d rfl (fun h179 => ?_) (fun h179 => ?_))))
      ·refine Wr (Q (lG agg34 rfl (hm93.lo hk98) rfl) <| Qv ent125 (c__impl_Library__copies w96 x hm158 hm159 (by first | assumption | exact MTo.end_ (And.right ‹_ ∧ MTo _ _›) (by omega)) (by omega)) rfl fun w180 hk181 hz182 => ?_)
       have hB183 := hB100.lo hk181
       have hq184 : 0 ≤ sumC x.Maps ∧ sumC x.Maps ≤ 792 := sumC_rng (by first | assumption | exact MTo.end_ (And.right ‹_ ∧ MTo _ _›) (by omega)) (by omega)
       refine Q (aI rfl) <| Qn (Ws (Wr (Q (mI rfl) <| Qv ent74 (c_impl_text w180 (sumC x.Maps) (by omega) (hE.lo hB183)) rfl fun w185 hk186 hz187 => ?_)))
       have hq189 : (Lib.itoa (sumC x.Maps)).length ≤ 21 := itoa_len (n := sumC x.Maps) (by omega) (by omega)
       refine Q (mB rfl) <| Q (aS rfl) <| Q (aB rfl) <| Qn (W.ret (ret2 rfl (v := str _) (v' := .bool _) rfl rfl ?_))
       refine ⟨eR (eT2 (eS ?_) (eB ?_)), (hB183.lo hk186)⟩ <;> (subst hleL; unfold impl_tell; rw [if_neg h16, if_neg h39, if_neg h101, if_neg h160, if_neg h161, if_pos h179] <;> rfl)
      ·refine Ws (Wr (Q (mS rfl) <| Q (r_eqs (s := s) (r := ([116, 111, 114, 110] : List UInt8)) rfl rfl) <| Q (aB rfl) <| Qn (W.cond_d rfl (fun h190 => ?_) (fun h190 => ?_))))
       ·refine Wr (Q (lG agg34 rfl (hm93.lo hk98) rfl) <| Qv ent157 (c_impl_TornCopies w96 x hm158 hm159 (by omega)) rfl fun w191 hk192 hz193 => ?_)
        have hB194 := hB100.lo hk192
        have hq195 : 0 ≤ (if LibOK x then sumT x.Maps else 0) ∧ (if LibOK x then sumT x.Maps else 0) ≤ 9999 := torn_rng x
        refine Q (mT rfl) <| Q (xI rfl rfl) <| Q (xB rfl rfl) <| Q (aI rfl) <| Q (aB rfl) <| Qn (Ws (Wr (Q (mI rfl) <| Qv ent74 (c_impl_text w191 (if LibOK x then sumT x.Maps else 0) (by omega) (hE.lo hB194)) rfl fun w196 hk197 hz198 => ?_)))
        have hq200 : (Lib.itoa (if LibOK x then sumT x.Maps else 0)).length ≤ 21 := itoa_len (n := (if LibOK x then sumT x.Maps else 0)) (by omega) (by omega)
        refine Q (mB rfl) <| Q (aS rfl) <| Q (aB rfl) <| Qn (W.ret (ret2 rfl (v := str _) (v' := .bool _) rfl rfl ?_))
        refine ⟨eR (eT2 (eS ?_) (eB ?_)), (hB194.lo hk197)⟩ <;> (subst hleL; unfold impl_tell; rw [if_neg h16, if_neg h39, if_neg h101, if_neg h160, if_neg h161, if_neg h179, if_pos h190] <;> rfl)
       ·refine Ws (Wr (Q (mS rfl) <| Q (r_eqs (s := s) (r := ([98, 111, 117, 103, 104, 116] : List UInt8)) rfl rfl) <| Q (aB rfl) <| Qn (W.cond_d rfl (fun h201 => ?_) (fun h201 => ?_))))
        ·refine Wr (Q (fA fa34_2 rfl) <| Q (lB sca3 rfl (hm93.lo hk98) rfl) <| Q (aI rfl) <| Qn (Ws (Wr (Q (mI rfl) <| Qv ent74 (c_impl_text w96 x.Bought (by omega) (hE.lo hB100)) rfl fun w202 hk203 hz204 => ?_))))
         have hq206 : (Lib.itoa x.Bought).length ≤ 21 := itoa_len (n := x.Bought) (by omega) (by omega)
         refine Q (mB rfl) <| Q (aS rfl) <| Q (aB rfl) <| Qn (W.ret (ret2 rfl (v := str _) (v' := .bool _) rfl rfl ?_))
         refine ⟨eR (eT2 (eS ?_) (eB ?_)), (hB100.lo hk203)⟩ <;> (subst hleL; unfold impl_tell; rw [if_neg h16, if_neg h39, if_neg h101, if_neg h160, if_neg h161, if_neg h179, if_neg h190, if_pos h201] <;> rfl)
        ·refine Ws (Wr (Q (mS rfl) <| Q (r_eqs (s := s) (r := ([109, 101, 110, 100, 101, 100] : List UInt8)) rfl rfl) <| Q (aB rfl) <| Qn (W.cond_d rfl (fun h207 => ?_) (fun h207 => ?_))))
         ·refine Wr (Q (fA fa34_4 rfl) <| Q (lB sca3 rfl (hm93.lo hk98) rfl) <| Q (aI rfl) <| Qn (Ws (Wr (Q (mI rfl) <| Qv ent74 (c_impl_text w96 x.Mended (by omega) (hE.lo hB100)) rfl fun w208 hk209 hz210 => ?_))))
          have hq212 : (Lib.itoa x.Mended).length ≤ 21 := itoa_len (n := x.Mended) (by omega) (by omega)
          refine Q (mB rfl) <| Q (aS rfl) <| Q (aB rfl) <| Qn (W.ret (ret2 rfl (v := str _) (v' := .bool _) rfl rfl ?_))
          refine ⟨eR (eT2 (eS ?_) (eB ?_)), (hB100.lo hk209)⟩ <;> (subst hleL; unfold impl_tell; rw [if_neg h16, if_neg h39, if_neg h101, if_neg h160, if_neg h161, if_neg h179, if_neg h190, if_neg h201, if_pos h207] <;> rfl)
         ·refine Ws (Wr (Q (r_as (v := str ([] : List UInt8)) rfl) <| Q (aB rfl) <| Qn (W.ret (ret2 rfl (v := str _) (v' := .bool _) rfl rfl ?_))))
          refine ⟨eR (eT2 (eS ?_) (eB ?_)), hB100⟩ <;> (subst hleL; unfold impl_tell; rw [if_neg h16, if_neg h39, if_neg h101, if_neg h160, if_neg h161, if_neg h179, if_neg h190, if_neg h201, if_neg h207] <;> rfl)
open Classical in
noncomputable def spec_l34Map (x : Library) (id : Int) : List UInt8 :=
 if (!((mapT x id).2)) = true then ([63] : List UInt8) else (mapT x id).1
theorem c_spec_l34Map (w : World) (x : Library) {Ax1 : Option Addr} {nx1 cx1 Bx1 : Nat} (hx1 : SlR w Bx1 encLMap 3 Ax1 nx1 cx1 x.Maps) {Ax2 : Option Addr} {nx2 cx2 Bx2 : Nat} (hx2 : SlR w Bx2 encAway 2 Ax2 nx2 cx2 x.Away) (id : Int) : Calls Tryz.prog 142 #[.agg (List.toArray (cLb Ax1 nx1 cx1 Ax2 nx2 cx2 x)), .int .i64 id] w fun e w' => e = .returned (str (spec_l34Map x id)) ∧ Lo w w' := by
 refine calls_W 16 Tryz.func142 rfl rfl rfl ?_
 have hbdx1 := hx1.bound
 have hlex1 := hx1.len
 have hBbx1 := hx1.bd
 have hbdx2 := hx2.bound
 have hlex2 := hx2.len
 have hBbx2 := hx2.bd
 refine Ws (Wr (SR.box (v := .agg (List.toArray _)) (l := (cLb Ax1 nx1 cx1 Ax2 nx2 cx2 x)) rfl rfl ?_))
 intro g1 w2 hg3 hk4 hs5 hb6
 refine Q (r_as (v := str ([] : List UInt8)) rfl) <| Qn (Ws (Wr (Q (lG agg34 rfl hb6 rfl) <| Q (mI rfl) <| Qv ent176 (c_spec_MapText w2 x (hx1.lo hk4) (hx2.lo hk4) id) rfl fun w9 hk10 hz11 => ?_)))
 have hB12 := ((Lo.refl w).lo hk4).lo hk10
 have hq13 : (mapT x id).1.length ≤ 75 := mapT_len x id
 refine Q (mT rfl) <| Q (xS rfl rfl) <| Q (xB rfl rfl) <| Q (aS rfl) <| Q (aB rfl) <| Qn (Ws (Ws (Wr (Q (mB rfl) <| Q (r_not rfl) <| Qn (W.cond_b rfl (fun h14 => ?_) (fun h14 => ?_))))))
 ·have hq15 := bnot_t h14
  refine Ws (Wr (Q (r_as (v := str ([63] : List UInt8)) rfl) <| Qn (W.ret (ret1 rfl (v := str _) rfl ?_))))
  exact ⟨eR (eS (by unfold spec_l34Map; rw [if_pos h14] <;> rfl)), hB12⟩
 ·have hq16 := bnot_f h14
  refine W.skip (Ws (Wr (Q (mS rfl) <| Q (aS rfl) <| Qn (W.ret (ret1 rfl (v := str _) rfl ?_)))))
  exact ⟨eR (eS (by unfold spec_l34Map; rw [if_neg (ne_true_of_eq_false h14)] <;> rfl)), hB12⟩
open Classical in
noncomputable def spec_l34Word (x : Library) (s : List UInt8) : List UInt8 :=
 if s = ([116, 104, 101, 114, 101] : List UInt8) then (spec_l34Number (if LibOK x then sumC x.Maps else 0) (decide (LibOK x))) else if s = ([116, 111, 114, 110] : List UInt8) then (spec_l34Number (if LibOK x then sumT x.Maps else 0) (decide (LibOK x))) else if s = ([98, 111, 117, 103, 104, 116] : List UInt8) then Lib.itoa x.Bought else if s = ([109, 101, 110, 100, 101, 100] : List UInt8) then Lib.itoa x.Mended else if s = ([109, 97, 121] : List UInt8) then (if (decide (LibOK x)) = true then listN (if LibOK x then selL mayM LMap.Id x.Maps else []) else [63]) else ([63] : List UInt8)
theorem c_spec_l34Word (w : World) (x : Library) {Ax1 : Option Addr} {nx1 cx1 Bx1 : Nat} (hx1 : SlR w Bx1 encLMap 3 Ax1 nx1 cx1 x.Maps) {Ax2 : Option Addr} {nx2 cx2 Bx2 : Nat} (hx2 : SlR w Bx2 encAway 2 Ax2 nx2 cx2 x.Away) (s : List UInt8) (hp0 : (nx1 : Int) ≤ 8) (hp1 : (nx2 : Int) ≤ 8) (hp2 : LibOK x) : Calls Tryz.prog 84 #[.agg (List.toArray (cLb Ax1 nx1 cx1 Ax2 nx2 cx2 x)), str s] w fun e w' => e = .returned (str (spec_l34Word x s)) ∧ Lo w w' := by
 refine calls_W 52 Tryz.func84 rfl rfl rfl ?_
 have hbdx1 := hx1.bound
 have hlex1 := hx1.len
 have hBbx1 := hx1.bd
 have hbdx2 := hx2.bound
 have hlex2 := hx2.len
 have hBbx2 := hx2.bd
 have hlb := lib_rng hp2
 refine Ws (Wr (SR.box (v := .agg (List.toArray _)) (l := (cLb Ax1 nx1 cx1 Ax2 nx2 cx2 x)) rfl rfl ?_))
 intro g1 w2 hg3 hk4 hs5 hb6
 have hB8 := (Lo.refl w).lo hk4
 refine Q (r_as (v := str ([] : List UInt8)) rfl) <| Qn (Ws (Ws (Wr (Q (mS rfl) <| Qn (W.block (Ws (Wr (Q (r_eqs (s := s) (r := ([116, 104, 101, 114, 101] : List UInt8)) rfl rfl) <| Q (aB rfl) <| Qn (W.cond_d rfl (fun h9 => ?_) (fun h9 => ?_))))))))))
 ·refine Ws (Wr (Q (lG agg34 rfl hb6 rfl) <| Qv ent135 (c_spec_CopiesThere w2 x (hx1.lo hk4) (hx2.lo hk4) (by omega)) rfl fun w10 hk11 hz12 => ?_))
  have hq14 : 0 ≤ (if LibOK x then sumC x.Maps else 0) ∧ (if LibOK x then sumC x.Maps else 0) ≤ 9999 := there_rngN x
  refine Q (mT rfl) <| Q (xI rfl rfl) <| Q (xB rfl rfl) <| Q (aI rfl) <| Q (aB rfl) <| Qn (Ws (Wr (Q (mI rfl) <| Q (mB rfl) <| Qv ent136 (c_spec_l34Number w10 (if LibOK x then sumC x.Maps else 0) (decide (LibOK x)) (by omega)) rfl fun w15 hk16 hz17 => (Q (aS rfl) <| Qn (W.ret (ret1 rfl (v := str _) rfl ?_))))))
  exact ⟨eR (eS (by unfold spec_l34Word; rw [if_pos h9] <;> rfl)), ((hB8.lo hk11).lo hk16)⟩
 ·refine Ws (Wr (Q (r_eqs (s := s) (r := ([116, 111, 114, 110] : List UInt8)) rfl rfl) <| Q (aB rfl) <| Qn (W.cond_d rfl (fun h19 => ?_) (fun h19 => ?_))))
  ·refine Ws (Wr (Q (lG agg34 rfl hb6 rfl) <| Qv ent137 (c_spec_TornCopies w2 x (hx1.lo hk4) (hx2.lo hk4)) rfl fun w20 hk21 hz22 => ?_))
   have hq24 : 0 ≤ (if LibOK x then sumT x.Maps else 0) ∧ (if LibOK x then sumT x.Maps else 0) ≤ 9999 := torn_rng x
   refine Q (mT rfl) <| Q (xI rfl rfl) <| Q (xB rfl rfl) <| Q (aI rfl) <| Q (aB rfl) <| Qn (Ws (Wr (Q (mI rfl) <| Q (mB rfl) <| Qv ent136 (c_spec_l34Number w20 (if LibOK x then sumT x.Maps else 0) (decide (LibOK x)) (by omega)) rfl fun w25 hk26 hz27 => (Q (aS rfl) <| Qn (W.ret (ret1 rfl (v := str _) rfl ?_))))))
   exact ⟨eR (eS (by unfold spec_l34Word; rw [if_neg h9, if_pos h19] <;> rfl)), ((hB8.lo hk21).lo hk26)⟩
  ·refine Ws (Wr (Q (r_eqs (s := s) (r := ([98, 111, 117, 103, 104, 116] : List UInt8)) rfl rfl) <| Q (aB rfl) <| Qn (W.cond_d rfl (fun h29 => ?_) (fun h29 => ?_))))
   ·refine Ws (Wr (Q (fA fa34_2 rfl) <| Q (lB sca3 rfl hb6 rfl) <| Qv ent75 (c_spec_l1Num w2 x.Bought (by omega)) rfl fun w30 hk31 hz32 => ?_))
    have hq34 : (Lib.itoa x.Bought).length ≤ 21 := itoa_len (n := x.Bought) (by omega) (by omega)
    refine Q (aS rfl) <| Qn (W.ret (ret1 rfl (v := str _) rfl ?_))
    exact ⟨eR (eS (by unfold spec_l34Word; rw [if_neg h9, if_neg h19, if_pos h29] <;> rfl)), (hB8.lo hk31)⟩
   ·refine Ws (Wr (Q (r_eqs (s := s) (r := ([109, 101, 110, 100, 101, 100] : List UInt8)) rfl rfl) <| Q (aB rfl) <| Qn (W.cond_d rfl (fun h35 => ?_) (fun h35 => ?_))))
    ·refine Ws (Wr (Q (fA fa34_4 rfl) <| Q (lB sca3 rfl hb6 rfl) <| Qv ent75 (c_spec_l1Num w2 x.Mended (by omega)) rfl fun w36 hk37 hz38 => ?_))
     have hq40 : (Lib.itoa x.Mended).length ≤ 21 := itoa_len (n := x.Mended) (by omega) (by omega)
     refine Q (aS rfl) <| Qn (W.ret (ret1 rfl (v := str _) rfl ?_))
     exact ⟨eR (eS (by unfold spec_l34Word; rw [if_neg h9, if_neg h19, if_neg h29, if_pos h35] <;> rfl)), (hB8.lo hk37)⟩
    ·refine Ws (Wr (Q (r_eqs (s := s) (r := ([109, 97, 121] : List UInt8)) rfl rfl) <| Q (aB rfl) <| Qn (W.cond_d rfl (fun h41 => ?_) (fun h41 => ?_))))
     ·refine Ws (Wr (Q (lG agg34 rfl hb6 rfl) <| SR.call ent138 (c_spec_MayLend w2 x (hx1.lo hk4) (hx2.lo hk4) (by omega)) rfl ?_))
      rintro e w42 ⟨A44, n45, c46, rfl, hO47, hk43⟩
      refine ⟨_, rfl, ?_⟩
      have hz48 := hk43.size
      have hl50 := hO47.len
      have hl51 := hO47.rd.bound
      have hq52 := (selif_len _ _ _ _ : (if LibOK x then selL mayM LMap.Id x.Maps else []).length ≤ x.Maps.length)
      have hq53 : IntsIn (if LibOK x then selL mayM LMap.Id x.Maps else []) := ints_may x
      refine Q (mT rfl) <| Q (xL rfl rfl) <| Q (xB rfl rfl) <| Q (aL rfl) <| Q (aB rfl) <| Qn (Ws (Wr (Q (mL rfl) <| Q (mB rfl) <| Qv ent139 (c_spec_l34List w42 (if LibOK x then selL mayM LMap.Id x.Maps else []) (hO47.rd) (decide (LibOK x)) (by omega) (by assumption)) rfl fun w54 hk55 hz56 => ?_)))
      have hq58 : (listN (if LibOK x then selL mayM LMap.Id x.Maps else [])).length ≤ 22 * (if LibOK x then selL mayM LMap.Id x.Maps else []).length + 4 := listN_len (if LibOK x then selL mayM LMap.Id x.Maps else []) (by assumption) (by omega)
      refine Q (aS rfl) <| Qn (W.ret (ret1 rfl (v := str _) rfl ?_))
      exact ⟨eR (eS (by unfold spec_l34Word; rw [if_neg h9, if_neg h19, if_neg h29, if_neg h35, if_pos h41] <;> rfl)), ((hB8.lo hk43).lo hk55)⟩
     ·refine W.skip (Ws (Wr (Q (r_as (v := str ([63] : List UInt8)) rfl) <| Qn (W.ret (ret1 rfl (v := str _) rfl ?_)))))
      exact ⟨eR (eS (by unfold spec_l34Word; rw [if_neg h9, if_neg h19, if_neg h29, if_neg h35, if_neg h41] <;> rfl)), hB8⟩
end Go.Proofs.YtndcchndcghmoaaGreatDoor
namespace Go.Proofs.YtndcchndcghmoaaGreatDoor
open Go Go.RowKit Fw
set_option maxRecDepth 10000
set_option maxHeartbeats 2000000
set_option linter.unusedVariables false
theorem ent140 : Ent Tryz.prog 140 := en Tryz.func140
theorem ent141 : Ent Tryz.prog 141 := en Tryz.func141
theorem ent142 : Ent Tryz.prog 142 := en Tryz.func142
theorem ent67 : Ent Tryz.prog 67 := en Tryz.func67
theorem ent87 : Ent Tryz.prog 87 := en Tryz.func87
theorem tz37 : TZ Tryz.prog 37 (.agg (List.toArray [.slice none 0 0, .slice none 0 0, .int .i64 0, .int .i64 0, .int .i64 0, str ([] : List UInt8), str ([] : List UInt8), .int .i64 0])) := fun _ => by kernel_rfl
open Classical in
noncomputable def spec_l34Make (c : Console) (s : LibraryStep) : Console × List UInt8 :=
 if (!((spec_StepLibrary c.Library s).2)) = true then (c, ([63] : List UInt8)) else ((⟨((spec_StepLibrary c.Library s).1), c.Log⟩ : Console), (spec_l34Map ((spec_StepLibrary c.Library s).1) s.Id))
theorem c_spec_l34Make (w : World) (c : Console) {Ac1 : Option Addr} {nc1 cc1 Bc1 : Nat} (hc1 : SlO w Bc1 encLMap 3 102 Ac1 nc1 cc1 c.Library.Maps) {Ac2 : Option Addr} {nc2 cc2 Bc2 : Nat} (hc2 : SlO w Bc2 encAway 2 129 Ac2 nc2 cc2 c.Library.Away) (s : LibraryStep) (hdc_Library_Maps_c2 : Dj Ac1 Ac2) (hp0 : (nc1 : Int) ≤ 8) (hp1 : (nc2 : Int) ≤ 8) : Calls Tryz.prog 87 #[.agg (List.toArray [.slice Ac1 nc1 cc1, .slice Ac2 nc2 cc2, .int .i64 c.Library.Bought, .int .i64 c.Library.Dropped, .int .i64 c.Library.Mended, str c.Log.Durable, str c.Log.Pending, .int .i64 c.Log.Count]), .agg (List.toArray (encLibraryStep s))] w fun e w' => ∃ (A1' : Option Addr) (n1' c1' : Nat) (A2' : Option Addr) (n2' c2' : Nat), e = .returned (.tuple (List.toArray [.agg (List.toArray [.slice A1' n1' c1', .slice A2' n2' c2', .int .i64 (((spec_l34Make c s).1).Library.Bought), .int .i64 (((spec_l34Make c s).1).Library.Dropped), .int .i64 (((spec_l34Make c s).1).Library.Mended), str (((spec_l34Make c s).1).Log.Durable), str (((spec_l34Make c s).1).Log.Pending), .int .i64 (((spec_l34Make c s).1).Log.Count)]), str ((spec_l34Make c s).2)])) ∧ SlO w' Bc1 encLMap 3 102 A1' n1' c1' (((spec_l34Make c s).1).Library.Maps) ∧ SlO w' Bc2 encAway 2 129 A2' n2' c2' (((spec_l34Make c s).1).Library.Away) ∧ Dj A1' A2' ∧ (∀ b_, A1' = some ⟨b_, 0, none⟩ → (Ac1 = some ⟨b_, 0, none⟩ ∨ Ac2 = some ⟨b_, 0, none⟩) ∨ w.heap.size ≤ b_) ∧ (∀ b_, A2' = some ⟨b_, 0, none⟩ → (Ac1 = some ⟨b_, 0, none⟩ ∨ Ac2 = some ⟨b_, 0, none⟩) ∨ w.heap.size ≤ b_) ∧ Lo w w' := by
 refine calls_W 27 Tryz.func87 rfl rfl rfl ?_
 have hcpc1 := hc1.rd.cap
 have hbbc1 := hc1.rd.bd
 have hbdc1 := hc1.rd.bound
 have hlec1 := hc1.len
 have hBbc1 := hc1.bd
 have hcpc2 := hc2.rd.cap
 have hbbc2 := hc2.rd.bd
 have hbdc2 := hc2.rd.bound
 have hlec2 := hc2.len
 have hBbc2 := hc2.bd
 refine Ws (Wr (SR.box (v := .agg (List.toArray _)) (l := [.slice Ac1 nc1 cc1, .slice Ac2 nc2 cc2, .int .i64 c.Library.Bought, .int .i64 c.Library.Dropped, .int .i64 c.Library.Mended, str c.Log.Durable, str c.Log.Pending, .int .i64 c.Log.Count]) rfl rfl ?_))
 intro g1 w2 hg3 hk4 hs5 hb6
 refine SR.box (v := .agg (List.toArray _)) (l := [.int .i64 s.Kind, .int .i64 s.Id, .int .i64 s.Reader, .int .i64 s.Value]) rfl rfl ?_
 intro g11 w12 hg13 hk14 hs15 hb16
 refine SR.alloc (l := [.slice none 0 0, .slice none 0 0, .int .i64 0, .int .i64 0, .int .i64 0, str ([] : List UInt8), str ([] : List UInt8), .int .i64 0]) tz37 rfl ?_
 intro g21 w22 hg23 hk24 hs25 hb26
 refine Q (r_as (v := str ([] : List UInt8)) rfl) <| Qn (Ws ?_)
 have hm31 := (hb6.lo hk14).lo hk24
 have hm32 := ((hc1.lo hk4).lo hk14).lo hk24
 have hm33 := ((hc2.lo hk4).lo hk14).lo hk24
 refine Wr (Q (fA fa37_0 rfl) <| Q (r_lda (l := (cLb Ac1 nc1 cc1 Ac2 nc2 cc2 c.Library)) agg34 rfl (fun _ _ hu => hm31.cells (vs := (cLb Ac1 nc1 cc1 Ac2 nc2 cc2 c.Library)) rfl hu) rfl) <| Q (lG agg106 rfl (hb16.lo hk24) rfl) <| SR.call ent67 (c_spec_StepLibrary w22 c.Library (hm32.rd) (hm33.rd) s) rfl ?_)
 rintro e w34 ⟨A36, n37, c38, A40, n41, c42, rfl, hO39, hO43, hd44, hk35⟩
 refine ⟨_, rfl, ?_⟩
 have hz45 := hk35.size
 have hl47 := hO39.len
 have hl48 := hO39.rd.bound
 have hq49 := step_lenMS c.Library s
 have hl50 := hO43.len
 have hl51 := hO43.rd.bound
 have hq52 := step_lenAS c.Library s
 refine Q (mT rfl) <| Q (xG rfl rfl) <| Q (xB rfl rfl) <| SR.alloc (l := [.slice none 0 0, .slice none 0 0, .int .i64 0, .int .i64 0, .int .i64 0]) tz34 rfl ?_
 intro g53 w54 hg55 hk56 hs57 hb58
 refine Qw (o := 0) (vs := [.slice A36 n37 c38, .slice A40 n41 c42, .int .i64 (((spec_StepLibrary c.Library s).1).Bought), .int .i64 (((spec_StepLibrary c.Library s).1).Dropped), .int .i64 (((spec_StepLibrary c.Library s).1).Mended)]) agg34.2 rfl rfl rfl rfl hb58 ler rfl ?_
 intro w65 hk66 hs67 hb68
 have hB70 := ((((((Lo.refl w).lo hk4).lo hk14).lo hk24).lo hk35).lo hk56).new hk66
 refine Q (aB rfl) <| Qn (Ws (Ws ?_))
 have hm71 := ((hm31.lo hk35).lo hk56).kn hk66
 have hm75 := ((hb26.lo hk35).lo hk56).kn hk66
 have hm76 := (hO39.lo hk56).kd hk66 (SlO.ne (g := g53) hO39)
 have hm77 := (hO43.lo hk56).kd hk66 (SlO.ne (g := g53) hO43)
 refine Wr (Q (mB rfl) <| Q (r_not rfl) <| Qn (W.cond_b rfl (fun h78 => ?_) (fun h78 => ?_)))
 ·have hq79 := bnot_t h78
  refine Ws (Wr (Q (lG agg37 rfl hm71 rfl) <| Qw (o := 0) (vs := [.slice Ac1 nc1 cc1, .slice Ac2 nc2 cc2, .int .i64 c.Library.Bought, .int .i64 c.Library.Dropped, .int .i64 c.Library.Mended, str c.Log.Durable, str c.Log.Pending, .int .i64 c.Log.Count]) agg37.2 rfl rfl rfl rfl hm75 ler rfl ?_))
  intro w80 hk81 hs82 hb83
  refine Q (r_as (v := str ([63] : List UInt8)) rfl) <| Qn (W.ret (retCT rfl rfl agg37 hb83 rfl (v := str _) rfl ?_))
  refine ⟨Ac1, nc1, cc1, Ac2, nc2, cc2, eR (eT2 (eA (eC rfl (eC rfl (eC (eI ?_) (eC (eI ?_) (eC (eI ?_) (eC (eS ?_) (eC (eS ?_) (eC (eI ?_) rfl))))))))) (eS ?_)), (SlO.eqv ((((hm32.lo hk35).lo hk56).kd hk66 (SlO.ne (g := g53) (hm32.lo hk35))).kd hk81 (SlO.ne (g := g21) ((hc1.lo hk4).lo hk14))) ?_), (SlO.eqv ((((hm33.lo hk35).lo hk56).kd hk66 (SlO.ne (g := g53) (hm33.lo hk35))).kd hk81 (SlO.ne (g := g21) ((hc2.lo hk4).lo hk14))) ?_), hdc_Library_Maps_c2, (fun b_ h_ => .inl (.inl h_)), (fun b_ h_ => .inl (.inr h_)), (hB70.new hk81)⟩ <;> (subst hlec1 hlec2; unfold spec_l34Make; rw [if_pos h78] <;> rfl)
 ·have hq86 := bnot_f h78
  refine W.skip (Ws (Wr (Q (lG agg37 rfl hm71 rfl) <| SR.alloc (l := [.slice none 0 0, .slice none 0 0, .int .i64 0, .int .i64 0, .int .i64 0, str ([] : List UInt8), str ([] : List UInt8), .int .i64 0]) tz37 rfl ?_)))
  intro g87 w88 hg89 hk90 hs91 hb92
  have hd97 := SlO.ne (g := g87) hm76
  have hd98 := SlO.ne (g := g87) hm77
  refine Qw (o := 0) (vs := [.slice Ac1 nc1 cc1, .slice Ac2 nc2 cc2, .int .i64 c.Library.Bought, .int .i64 c.Library.Dropped, .int .i64 c.Library.Mended, str c.Log.Durable, str c.Log.Pending, .int .i64 c.Log.Count]) agg37.2 rfl rfl rfl rfl hb92 ler rfl ?_
  intro w99 hk100 hs101 hb102
  refine Qn (Ws ?_)
  have hm107 := (hb68.lo hk90).kn hk100
  have hm108 := (hm76.lo hk90).kd hk100 hd97
  have hm109 := (hm77.lo hk90).kd hk100 hd98
  refine Wr (Q (lG agg34 rfl hm107 rfl) <| Q (fA fa37_0 rfl) <| Qw (o := 0) (vs := [.slice A36 n37 c38, .slice A40 n41 c42, .int .i64 (((spec_StepLibrary c.Library s).1).Bought), .int .i64 (((spec_StepLibrary c.Library s).1).Dropped), .int .i64 (((spec_StepLibrary c.Library s).1).Mended)]) agg34.2 rfl rfl rfl rfl hb102 ler rfl ?_)
  intro w112 hk113 hs114 hb115
  refine Qn (Ws (W.regA (Kp (fun b_ => b_ = g21) w112) (fun f' w' => At f' [(4, .pointer (pA g21)), (5, str (spec_l34Map ((spec_StepLibrary c.Library s).1) s.Id))] ∧ (Kp (fun b_ => b_ = g21) w112 w') ∧ (Blk w' g21 37 [.slice A36 n37 c38, .slice A40 n41 c42, .int .i64 (((spec_StepLibrary c.Library s).1).Bought), .int .i64 (((spec_StepLibrary c.Library s).1).Dropped), .int .i64 (((spec_StepLibrary c.Library s).1).Mended), str c.Log.Durable, str c.Log.Pending, .int .i64 c.Log.Count])) mo ?_ ?_))
  ·intro w153 hk154
   have hz155 := hk154.size
   refine Ak 0 rfl (kr hk154) (fun w' hw' => r_lda (l := [.slice A36 n37 c38, .slice A40 n41 c42, .int .i64 (((spec_StepLibrary c.Library s).1).Bought), .int .i64 (((spec_StepLibrary c.Library s).1).Dropped), .int .i64 (((spec_StepLibrary c.Library s).1).Mended), str c.Log.Durable, str c.Log.Pending, .int .i64 c.Log.Count]) agg37 rfl (fun _ _ hu => (hb115.kn hw' (by omega)).cell hu) rfl) <| Ak 1 rfl (kr hk154) (fun w' hw' => r_lda (l := [.slice A36 n37 c38, .slice A40 n41 c42, .int .i64 (((spec_StepLibrary c.Library s).1).Bought), .int .i64 (((spec_StepLibrary c.Library s).1).Dropped), .int .i64 (((spec_StepLibrary c.Library s).1).Mended)]) agg34 rfl (fun _ _ hu => ((hm107.kn hk113).kn hw' (by omega)).cell hu) rfl) <| Ak 2 rfl (kr hk154) (fun w' hw' => fA fa106_1 rfl) <| Ak 3 rfl (kr hk154) (fun w' hw' => r_ld (v := .int .i64 s.Id) sca3 rfl (((((((((hb16.lo hk24).lo hk35).lo hk56).kn hk66).lo hk90).kn hk100).kn hk113).kn hw' (by omega)).cell rfl)) <| Ab 4 rfl (Qv ent142 (c_spec_l34Map w153 ((spec_StepLibrary c.Library s).1) (((hm108.kd hk113 hd97).lo hk154).rd) (((hm109.kd hk113 hd98).lo hk154).rd) s.Id) rfl fun w157 hk158 hz159 => ?_)
   have hS161 := ((Kp.refl w112 : Kp (fun b_ => b_ = g21) w112 w112).lo hk154).lo hk158
   refine Qn ⟨hS161, _, rfl, (Ab 5 rfl (Qw (o := 0) (vs := [.slice A36 n37 c38, .slice A40 n41 c42, .int .i64 (((spec_StepLibrary c.Library s).1).Bought), .int .i64 (((spec_StepLibrary c.Library s).1).Dropped), .int .i64 (((spec_StepLibrary c.Library s).1).Mended), str c.Log.Durable, str c.Log.Pending, .int .i64 c.Log.Count]) agg37.2 rfl rfl rfl rfl (((((hm75.lo hk90).kn hk100).kn hk113).lo hk154).lo hk158) ler rfl ?_))⟩
   intro w162 hk163 hs164 hb165
   have hS168 := hS161.step hk163 (fun _ _ e => e)
   refine Qn ⟨hS168, _, rfl, (Ak 6 rfl hS168 (fun w' hw' => r_as (v := str _) rfl) <| AH.done (by kernel_rfl) (⟨⟨rfl, rfl, trivial⟩, hS168, hb165⟩))⟩
  rintro f169 w170 ⟨hat172, hR171, hm152⟩
  rw [← sets_of_at hat172]
  have hz173 := hR171.size
  refine W.ret (retCT rfl rfl agg37 hm152 rfl (v := str _) rfl ?_)
  refine ⟨A36, n37, c38, A40, n41, c42, eR (eT2 (eA (eC rfl (eC rfl (eC (eI ?_) (eC (eI ?_) (eC (eI ?_) (eC (eS ?_) (eC (eS ?_) (eC (eI ?_) rfl))))))))) (eS ?_)), (SlO.eqv (((hm108.kd hk113 hd97).kn hR171 (by omega)).down) ?_), (SlO.eqv (((hm109.kd hk113 hd98).kn hR171 (by omega)).down) ?_), hd44, (fun b_ h => .inr (by have := ((hm108.kd hk113 hd97).kn hR171 (by omega)).base_le h; omega)), (fun b_ h => .inr (by have := ((hm109.kd hk113 hd98).kn hR171 (by omega)).base_le h; omega)), ((((hB70.lo hk90).new hk100).new hk113).new hR171 (by omega))⟩ <;> (subst hl47 hl50; unfold spec_l34Make; rw [if_neg (ne_true_of_eq_false h78)] <;> rfl)
open Classical in
noncomputable def spec_l34One (c : Console) (s : List UInt8) (n : Int) : Console × List UInt8 :=
 if s = ([97, 116] : List UInt8) then (c, (if (decide (LibOK c.Library ∧ (1 ≤ n ∧ n ≤ 999))) = true then listN (if LibOK c.Library ∧ (1 ≤ n ∧ n ≤ 999) then selL (atR n) Away.Map c.Library.Away else []) else [63])) else if s = ([114, 101, 97, 100, 101, 114, 115] : List UInt8) then (c, (if (decide (LibOK c.Library ∧ 0 ≤ idxF (hasId n) c.Library.Maps)) = true then listN (if LibOK c.Library ∧ 0 ≤ idxF (hasId n) c.Library.Maps then selL (ofM n) Away.Reader c.Library.Away else []) else [63])) else if s = ([116, 101, 120, 116] : List UInt8) then (c, (spec_l34Map c.Library n)) else (c, ([63] : List UInt8))
theorem c_spec_l34One (w : World) (c : Console) {Ac1 : Option Addr} {nc1 cc1 Bc1 : Nat} (hc1 : SlO w Bc1 encLMap 3 102 Ac1 nc1 cc1 c.Library.Maps) {Ac2 : Option Addr} {nc2 cc2 Bc2 : Nat} (hc2 : SlO w Bc2 encAway 2 129 Ac2 nc2 cc2 c.Library.Away) (s : List UInt8) (n : Int) (hdc_Library_Maps_c2 : Dj Ac1 Ac2) (hp0 : (nc1 : Int) ≤ 8) (hp1 : (nc2 : Int) ≤ 8) : Calls Tryz.prog 85 #[.agg (List.toArray [.slice Ac1 nc1 cc1, .slice Ac2 nc2 cc2, .int .i64 c.Library.Bought, .int .i64 c.Library.Dropped, .int .i64 c.Library.Mended, str c.Log.Durable, str c.Log.Pending, .int .i64 c.Log.Count]), str s, .int .i64 n] w fun e w' => ∃ (A1' : Option Addr) (n1' c1' : Nat) (A2' : Option Addr) (n2' c2' : Nat), e = .returned (.tuple (List.toArray [.agg (List.toArray [.slice A1' n1' c1', .slice A2' n2' c2', .int .i64 (((spec_l34One c s n).1).Library.Bought), .int .i64 (((spec_l34One c s n).1).Library.Dropped), .int .i64 (((spec_l34One c s n).1).Library.Mended), str (((spec_l34One c s n).1).Log.Durable), str (((spec_l34One c s n).1).Log.Pending), .int .i64 (((spec_l34One c s n).1).Log.Count)]), str ((spec_l34One c s n).2)])) ∧ SlO w' Bc1 encLMap 3 102 A1' n1' c1' (((spec_l34One c s n).1).Library.Maps) ∧ SlO w' Bc2 encAway 2 129 A2' n2' c2' (((spec_l34One c s n).1).Library.Away) ∧ Dj A1' A2' ∧ (∀ b_, A1' = some ⟨b_, 0, none⟩ → (Ac1 = some ⟨b_, 0, none⟩ ∨ Ac2 = some ⟨b_, 0, none⟩) ∨ w.heap.size ≤ b_) ∧ (∀ b_, A2' = some ⟨b_, 0, none⟩ → (Ac1 = some ⟨b_, 0, none⟩ ∨ Ac2 = some ⟨b_, 0, none⟩) ∨ w.heap.size ≤ b_) ∧ Lo w w' := by
 refine calls_W 47 Tryz.func85 rfl rfl rfl ?_
 have hcpc1 := hc1.rd.cap
 have hbbc1 := hc1.rd.bd
 have hbdc1 := hc1.rd.bound
 have hlec1 := hc1.len
 have hBbc1 := hc1.bd
 have hcpc2 := hc2.rd.cap
 have hbbc2 := hc2.rd.bd
 have hbdc2 := hc2.rd.bound
 have hlec2 := hc2.len
 have hBbc2 := hc2.bd
 refine Ws (Wr (SR.box (v := .agg (List.toArray _)) (l := [.slice Ac1 nc1 cc1, .slice Ac2 nc2 cc2, .int .i64 c.Library.Bought, .int .i64 c.Library.Dropped, .int .i64 c.Library.Mended, str c.Log.Durable, str c.Log.Pending, .int .i64 c.Log.Count]) rfl rfl ?_))
 intro g1 w2 hg3 hk4 hs5 hb6
 refine SR.alloc (l := [.slice none 0 0, .slice none 0 0, .int .i64 0, .int .i64 0, .int .i64 0, str ([] : List UInt8), str ([] : List UInt8), .int .i64 0]) tz37 rfl ?_
 intro g11 w12 hg13 hk14 hs15 hb16
 have hB18 := ((Lo.refl w).lo hk4).lo hk14
 have hd19 := SlO.ne (g := g11) (hc1.lo hk4)
 have hd20 := SlO.ne (g := g11) (hc2.lo hk4)
 refine Q (r_as (v := str ([] : List UInt8)) rfl) <| Qn (Ws (Ws ?_))
 have hm21 := (hc1.lo hk4).lo hk14
 have hm22 := (hc2.lo hk4).lo hk14
 refine Wr (Q (mS rfl) <| Qn (W.block (Ws (Wr (Q (r_eqs (s := s) (r := ([97, 116] : List UInt8)) rfl rfl) <| Q (aB rfl) <| Qn (W.cond_d rfl (fun h23 => ?_) (fun h23 => ?_)))))))
 ·refine Ws (Wr (Q (fA fa37_0 rfl) <| Q (r_lda (l := (cLb Ac1 nc1 cc1 Ac2 nc2 cc2 c.Library)) agg34 rfl (fun _ _ hu => (hb6.lo hk14).cells (vs := (cLb Ac1 nc1 cc1 Ac2 nc2 cc2 c.Library)) rfl hu) rfl) <| Q (mI rfl) <| SR.call ent140 (c_spec_MapsAt w12 c.Library (hm21.rd) (hm22.rd) n (by omega)) rfl ?_))
  rintro e w24 ⟨A26, n27, c28, rfl, hO29, hk25⟩
  refine ⟨_, rfl, ?_⟩
  have hz30 := hk25.size
  have hl32 := hO29.len
  have hl33 := hO29.rd.bound
  have hq34 := (selif_len _ _ _ _ : (if LibOK c.Library ∧ (1 ≤ n ∧ n ≤ 999) then selL (atR n) Away.Map c.Library.Away else []).length ≤ c.Library.Away.length)
  have hq35 : IntsIn (if LibOK c.Library ∧ (1 ≤ n ∧ n ≤ 999) then selL (atR n) Away.Map c.Library.Away else []) := ints_at c.Library n
  refine Q (mT rfl) <| Q (xL rfl rfl) <| Q (xB rfl rfl) <| Q (aL rfl) <| Q (aB rfl) <| Qn (Ws (W.regA (Kp (fun b_ => b_ = g11) w24) (fun f' w' => At f' [(3, .pointer (pA g1)), (6, .pointer (pA g11)), (7, str (if (decide (LibOK c.Library ∧ (1 ≤ n ∧ n ≤ 999))) = true then listN (if LibOK c.Library ∧ (1 ≤ n ∧ n ≤ 999) then selL (atR n) Away.Map c.Library.Away else []) else [63]))] ∧ (Kp (fun b_ => b_ = g11) w24 w') ∧ (Blk w' g11 37 [.slice Ac1 nc1 cc1, .slice Ac2 nc2 cc2, .int .i64 c.Library.Bought, .int .i64 c.Library.Dropped, .int .i64 c.Library.Mended, str c.Log.Durable, str c.Log.Pending, .int .i64 c.Log.Count]) ∧ ((listN (if LibOK c.Library ∧ (1 ≤ n ∧ n ≤ 999) then selL (atR n) Away.Map c.Library.Away else [])).length ≤ 22 * (if LibOK c.Library ∧ (1 ≤ n ∧ n ≤ 999) then selL (atR n) Away.Map c.Library.Away else []).length + 4)) mo ?_ ?_))
  ·intro w74 hk75
   have hz76 := hk75.size
   refine Ak 0 rfl (kr hk75) (fun w' hw' => r_lda (l := [.slice Ac1 nc1 cc1, .slice Ac2 nc2 cc2, .int .i64 c.Library.Bought, .int .i64 c.Library.Dropped, .int .i64 c.Library.Mended, str c.Log.Durable, str c.Log.Pending, .int .i64 c.Log.Count]) agg37 rfl (fun _ _ hu => (((hb6.lo hk14).lo hk25).kn hw' (by omega)).cell hu) rfl) <| Ak 1 rfl (kr hk75) (fun w' hw' => r_mv (v := .slice _ _ _) rfl) <| Ak 2 rfl (kr hk75) (fun w' hw' => r_mv (v := .bool _) rfl) <| Ab 3 rfl (Qv ent139 (c_spec_l34List w74 (if LibOK c.Library ∧ (1 ≤ n ∧ n ≤ 999) then selL (atR n) Away.Map c.Library.Away else []) ((hO29.lo hk75).rd) (decide (LibOK c.Library ∧ (1 ≤ n ∧ n ≤ 999))) (by omega) (by assumption)) rfl fun w78 hk79 hz80 => ?_)
   have hS82 := ((Kp.refl w24 : Kp (fun b_ => b_ = g11) w24 w24).lo hk75).lo hk79
   have hq83 : (listN (if LibOK c.Library ∧ (1 ≤ n ∧ n ≤ 999) then selL (atR n) Away.Map c.Library.Away else [])).length ≤ 22 * (if LibOK c.Library ∧ (1 ≤ n ∧ n ≤ 999) then selL (atR n) Away.Map c.Library.Away else []).length + 4 := listN_len (if LibOK c.Library ∧ (1 ≤ n ∧ n ≤ 999) then selL (atR n) Away.Map c.Library.Away else []) (by assumption) (by omega)
   refine Qn ⟨hS82, _, rfl, (Ab 4 rfl (Qw (o := 0) (vs := [.slice Ac1 nc1 cc1, .slice Ac2 nc2 cc2, .int .i64 c.Library.Bought, .int .i64 c.Library.Dropped, .int .i64 c.Library.Mended, str c.Log.Durable, str c.Log.Pending, .int .i64 c.Log.Count]) agg37.2 rfl rfl rfl rfl (((hb16.lo hk25).lo hk75).lo hk79) ler rfl ?_))⟩
   intro w84 hk85 hs86 hb87
   have hS90 := hS82.step hk85 (fun _ _ e => e)
   refine Qn ⟨hS90, _, rfl, (Ak 5 rfl hS90 (fun w' hw' => r_as (v := str _) rfl) <| AH.done (by kernel_rfl) (⟨(At.r rfl), hS90, hb87, hq83⟩))⟩
  rintro f91 w92 ⟨hat94, hR93, hm73, hq64⟩
  rw [← sets_of_at hat94]
  have hz95 := hR93.size
  refine W.ret (retCT rfl rfl agg37 hm73 rfl (v := str _) rfl ?_)
  refine ⟨Ac1, nc1, cc1, Ac2, nc2, cc2, eR (eT2 (eA (eC rfl (eC rfl (eC (eI ?_) (eC (eI ?_) (eC (eI ?_) (eC (eS ?_) (eC (eS ?_) (eC (eI ?_) rfl))))))))) (eS ?_)), (SlO.eqv ((hm21.lo hk25).kd hR93 hd19) ?_), (SlO.eqv ((hm22.lo hk25).kd hR93 hd20) ?_), hdc_Library_Maps_c2, (fun b_ h_ => .inl (.inl h_)), (fun b_ h_ => .inl (.inr h_)), ((hB18.lo hk25).new hR93 (by omega))⟩ <;> (subst hlec1 hlec2; unfold spec_l34One; rw [if_pos h23] <;> rfl)
 ·refine Ws (Wr (Q (r_eqs (s := s) (r := ([114, 101, 97, 100, 101, 114, 115] : List UInt8)) rfl rfl) <| Q (aB rfl) <| Qn (W.cond_d rfl (fun h97 => ?_) (fun h97 => ?_))))
  ·refine Ws (Wr (Q (fA fa37_0 rfl) <| Q (r_lda (l := (cLb Ac1 nc1 cc1 Ac2 nc2 cc2 c.Library)) agg34 rfl (fun _ _ hu => (hb6.lo hk14).cells (vs := (cLb Ac1 nc1 cc1 Ac2 nc2 cc2 c.Library)) rfl hu) rfl) <| Q (mI rfl) <| SR.call ent141 (c_spec_ReadersOf w12 c.Library (hm21.rd) (hm22.rd) n) rfl ?_))
   rintro e w98 ⟨A100, n101, c102, rfl, hO103, hk99⟩
   refine ⟨_, rfl, ?_⟩
   have hz104 := hk99.size
   have hl106 := hO103.len
   have hl107 := hO103.rd.bound
   have hq108 := (selif_len _ _ _ _ : (if LibOK c.Library ∧ 0 ≤ idxF (hasId n) c.Library.Maps then selL (ofM n) Away.Reader c.Library.Away else []).length ≤ c.Library.Away.length)
   have hq109 : IntsIn (if LibOK c.Library ∧ 0 ≤ idxF (hasId n) c.Library.Maps then selL (ofM n) Away.Reader c.Library.Away else []) := ints_rd c.Library n
   refine Q (mT rfl) <| Q (xL rfl rfl) <| Q (xB rfl rfl) <| Q (aL rfl) <| Q (aB rfl) <| Qn (Ws (W.regA (Kp (fun b_ => b_ = g11) w98) (fun f' w' => At f' [(3, .pointer (pA g1)), (6, .pointer (pA g11)), (7, str (if (decide (LibOK c.Library ∧ 0 ≤ idxF (hasId n) c.Library.Maps)) = true then listN (if LibOK c.Library ∧ 0 ≤ idxF (hasId n) c.Library.Maps then selL (ofM n) Away.Reader c.Library.Away else []) else [63]))] ∧ (Kp (fun b_ => b_ = g11) w98 w') ∧ (Blk w' g11 37 [.slice Ac1 nc1 cc1, .slice Ac2 nc2 cc2, .int .i64 c.Library.Bought, .int .i64 c.Library.Dropped, .int .i64 c.Library.Mended, str c.Log.Durable, str c.Log.Pending, .int .i64 c.Log.Count]) ∧ ((listN (if LibOK c.Library ∧ 0 ≤ idxF (hasId n) c.Library.Maps then selL (ofM n) Away.Reader c.Library.Away else [])).length ≤ 22 * (if LibOK c.Library ∧ 0 ≤ idxF (hasId n) c.Library.Maps then selL (ofM n) Away.Reader c.Library.Away else []).length + 4)) mo ?_ ?_))
   ·intro w148 hk149
    have hz150 := hk149.size
    refine Ak 0 rfl (kr hk149) (fun w' hw' => r_lda (l := [.slice Ac1 nc1 cc1, .slice Ac2 nc2 cc2, .int .i64 c.Library.Bought, .int .i64 c.Library.Dropped, .int .i64 c.Library.Mended, str c.Log.Durable, str c.Log.Pending, .int .i64 c.Log.Count]) agg37 rfl (fun _ _ hu => (((hb6.lo hk14).lo hk99).kn hw' (by omega)).cell hu) rfl) <| Ak 1 rfl (kr hk149) (fun w' hw' => r_mv (v := .slice _ _ _) rfl) <| Ak 2 rfl (kr hk149) (fun w' hw' => r_mv (v := .bool _) rfl) <| Ab 3 rfl (Qv ent139 (c_spec_l34List w148 (if LibOK c.Library ∧ 0 ≤ idxF (hasId n) c.Library.Maps then selL (ofM n) Away.Reader c.Library.Away else []) ((hO103.lo hk149).rd) (decide (LibOK c.Library ∧ 0 ≤ idxF (hasId n) c.Library.Maps)) (by omega) (by assumption)) rfl fun w152 hk153 hz154 => ?_)
    have hS156 := ((Kp.refl w98 : Kp (fun b_ => b_ = g11) w98 w98).lo hk149).lo hk153
    have hq157 : (listN (if LibOK c.Library ∧ 0 ≤ idxF (hasId n) c.Library.Maps then selL (ofM n) Away.Reader c.Library.Away else [])).length ≤ 22 * (if LibOK c.Library ∧ 0 ≤ idxF (hasId n) c.Library.Maps then selL (ofM n) Away.Reader c.Library.Away else []).length + 4 := listN_len (if LibOK c.Library ∧ 0 ≤ idxF (hasId n) c.Library.Maps then selL (ofM n) Away.Reader c.Library.Away else []) (by assumption) (by omega)
    refine Qn ⟨hS156, _, rfl, (Ab 4 rfl (Qw (o := 0) (vs := [.slice Ac1 nc1 cc1, .slice Ac2 nc2 cc2, .int .i64 c.Library.Bought, .int .i64 c.Library.Dropped, .int .i64 c.Library.Mended, str c.Log.Durable, str c.Log.Pending, .int .i64 c.Log.Count]) agg37.2 rfl rfl rfl rfl (((hb16.lo hk99).lo hk149).lo hk153) ler rfl ?_))⟩
    intro w158 hk159 hs160 hb161
    have hS164 := hS156.step hk159 (fun _ _ e => e)
    refine Qn ⟨hS164, _, rfl, (Ak 5 rfl hS164 (fun w' hw' => r_as (v := str _) rfl) <| AH.done (by kernel_rfl) (⟨(At.r rfl), hS164, hb161, hq157⟩))⟩
   rintro f165 w166 ⟨hat168, hR167, hm147, hq138⟩
   rw [← sets_of_at hat168]
   have hz169 := hR167.size
   refine W.ret (retCT rfl rfl agg37 hm147 rfl (v := str _) rfl ?_)
   refine ⟨Ac1, nc1, cc1, Ac2, nc2, cc2, eR (eT2 (eA (eC rfl (eC rfl (eC (eI ?_) (eC (eI ?_) (eC (eI ?_) (eC (eS ?_) (eC (eS ?_) (eC (eI ?_) rfl))))))))) (eS ?_)), (SlO.eqv ((hm21.lo hk99).kd hR167 hd19) ?_), (SlO.eqv ((hm22.lo hk99).kd hR167 hd20) ?_), hdc_Library_Maps_c2, (fun b_ h_ => .inl (.inl h_)), (fun b_ h_ => .inl (.inr h_)), ((hB18.lo hk99).new hR167 (by omega))⟩ <;> (subst hlec1 hlec2; unfold spec_l34One; rw [if_neg h23, if_pos h97] <;> rfl)
  ·refine Ws (Wr (Q (r_eqs (s := s) (r := ([116, 101, 120, 116] : List UInt8)) rfl rfl) <| Q (aB rfl) <| Qn (W.cond_d rfl (fun h171 => ?_) (fun h171 => ?_))))
   ·refine Ws (W.regA (Kp (fun b_ => b_ = g11) w12) (fun f' w' => At f' [(3, .pointer (pA g1)), (6, .pointer (pA g11)), (7, str (spec_l34Map c.Library n))] ∧ (Kp (fun b_ => b_ = g11) w12 w') ∧ (Blk w' g11 37 [.slice Ac1 nc1 cc1, .slice Ac2 nc2 cc2, .int .i64 c.Library.Bought, .int .i64 c.Library.Dropped, .int .i64 c.Library.Mended, str c.Log.Durable, str c.Log.Pending, .int .i64 c.Log.Count])) mo ?_ ?_)
    ·intro w207 hk208
     have hz209 := hk208.size
     refine Ak 0 rfl (kr hk208) (fun w' hw' => r_lda (l := [.slice Ac1 nc1 cc1, .slice Ac2 nc2 cc2, .int .i64 c.Library.Bought, .int .i64 c.Library.Dropped, .int .i64 c.Library.Mended, str c.Log.Durable, str c.Log.Pending, .int .i64 c.Log.Count]) agg37 rfl (fun _ _ hu => ((hb6.lo hk14).kn hw' (by omega)).cell hu) rfl) <| Ak 1 rfl (kr hk208) (fun w' hw' => fA fa37_0 rfl) <| Ak 2 rfl (kr hk208) (fun w' hw' => r_lda (l := (cLb Ac1 nc1 cc1 Ac2 nc2 cc2 c.Library)) agg34 rfl (fun _ _ hu => ((hb6.lo hk14).kn hw' (by omega)).cells (vs := (cLb Ac1 nc1 cc1 Ac2 nc2 cc2 c.Library)) rfl hu) rfl) <| Ak 3 rfl (kr hk208) (fun w' hw' => r_mv (v := .int .i64 _) rfl) <| Ab 4 rfl (Qv ent142 (c_spec_l34Map w207 c.Library ((hm21.lo hk208).rd) ((hm22.lo hk208).rd) n) rfl fun w211 hk212 hz213 => ?_)
     have hS215 := ((Kp.refl w12 : Kp (fun b_ => b_ = g11) w12 w12).lo hk208).lo hk212
     refine Qn ⟨hS215, _, rfl, (Ab 5 rfl (Qw (o := 0) (vs := [.slice Ac1 nc1 cc1, .slice Ac2 nc2 cc2, .int .i64 c.Library.Bought, .int .i64 c.Library.Dropped, .int .i64 c.Library.Mended, str c.Log.Durable, str c.Log.Pending, .int .i64 c.Log.Count]) agg37.2 rfl rfl rfl rfl ((hb16.lo hk208).lo hk212) ler rfl ?_))⟩
     intro w216 hk217 hs218 hb219
     have hS222 := hS215.step hk217 (fun _ _ e => e)
     refine Qn ⟨hS222, _, rfl, (Ak 6 rfl hS222 (fun w' hw' => r_as (v := str _) rfl) <| AH.done (by kernel_rfl) (⟨(At.r rfl), hS222, hb219⟩))⟩
    rintro f223 w224 ⟨hat226, hR225, hm206⟩
    rw [← sets_of_at hat226]
    have hz227 := hR225.size
    refine W.ret (retCT rfl rfl agg37 hm206 rfl (v := str _) rfl ?_)
    refine ⟨Ac1, nc1, cc1, Ac2, nc2, cc2, eR (eT2 (eA (eC rfl (eC rfl (eC (eI ?_) (eC (eI ?_) (eC (eI ?_) (eC (eS ?_) (eC (eS ?_) (eC (eI ?_) rfl))))))))) (eS ?_)), (SlO.eqv (hm21.kd hR225 hd19) ?_), (SlO.eqv (hm22.kd hR225 hd20) ?_), hdc_Library_Maps_c2, (fun b_ h_ => .inl (.inl h_)), (fun b_ h_ => .inl (.inr h_)), (hB18.new hR225 (by omega))⟩ <;> (subst hlec1 hlec2; unfold spec_l34One; rw [if_neg h23, if_neg h97, if_pos h171] <;> rfl)
   ·refine W.skip (Ws (Wr (Q (lG agg37 rfl (hb6.lo hk14) rfl) <| Qw (o := 0) (vs := [.slice Ac1 nc1 cc1, .slice Ac2 nc2 cc2, .int .i64 c.Library.Bought, .int .i64 c.Library.Dropped, .int .i64 c.Library.Mended, str c.Log.Durable, str c.Log.Pending, .int .i64 c.Log.Count]) agg37.2 rfl rfl rfl rfl hb16 ler rfl ?_)))
    intro w229 hk230 hs231 hb232
    refine Q (r_as (v := str ([63] : List UInt8)) rfl) <| Qn (W.ret (retCT rfl rfl agg37 hb232 rfl (v := str _) rfl ?_))
    refine ⟨Ac1, nc1, cc1, Ac2, nc2, cc2, eR (eT2 (eA (eC rfl (eC rfl (eC (eI ?_) (eC (eI ?_) (eC (eI ?_) (eC (eS ?_) (eC (eS ?_) (eC (eI ?_) rfl))))))))) (eS ?_)), (SlO.eqv (hm21.kd hk230 hd19) ?_), (SlO.eqv (hm22.kd hk230 hd20) ?_), hdc_Library_Maps_c2, (fun b_ h_ => .inl (.inl h_)), (fun b_ h_ => .inl (.inr h_)), (hB18.new hk230)⟩ <;> (subst hlec1 hlec2; unfold spec_l34One; rw [if_neg h23, if_neg h97, if_neg h171] <;> rfl)
open Classical in
noncomputable def spec_l34Two (c : Console) (s : List UInt8) (n : Int) (v : Int) : Console × List UInt8 :=
 if s = ([98, 117, 121] : List UInt8) then (((spec_l34Make c (⟨1, n, 0, v⟩ : LibraryStep)).1), (spec_l34Make c (⟨1, n, 0, v⟩ : LibraryStep)).2) else if s = ([108, 101, 110, 100] : List UInt8) then (((spec_l34Make c (⟨2, n, v, 0⟩ : LibraryStep)).1), (spec_l34Make c (⟨2, n, v, 0⟩ : LibraryStep)).2) else if s = ([109, 101, 110, 100] : List UInt8) then (((spec_l34Make c (⟨4, n, 0, v⟩ : LibraryStep)).1), (spec_l34Make c (⟨4, n, 0, v⟩ : LibraryStep)).2) else if s = ([100, 114, 111, 112] : List UInt8) then (((spec_l34Make c (⟨6, n, 0, v⟩ : LibraryStep)).1), (spec_l34Make c (⟨6, n, 0, v⟩ : LibraryStep)).2) else if s = ([119, 101, 97, 114] : List UInt8) then (((spec_l34Make c (⟨7, n, 0, v⟩ : LibraryStep)).1), (spec_l34Make c (⟨7, n, 0, v⟩ : LibraryStep)).2) else (c, ([63] : List UInt8))
theorem c_spec_l34Two (w : World) (c : Console) {Ac1 : Option Addr} {nc1 cc1 Bc1 : Nat} (hc1 : SlO w Bc1 encLMap 3 102 Ac1 nc1 cc1 c.Library.Maps) {Ac2 : Option Addr} {nc2 cc2 Bc2 : Nat} (hc2 : SlO w Bc2 encAway 2 129 Ac2 nc2 cc2 c.Library.Away) (s : List UInt8) (n : Int) (v : Int) (hdc_Library_Maps_c2 : Dj Ac1 Ac2) (hp0 : (nc1 : Int) ≤ 8) (hp1 : (nc2 : Int) ≤ 8) : Calls Tryz.prog 86 #[.agg (List.toArray [.slice Ac1 nc1 cc1, .slice Ac2 nc2 cc2, .int .i64 c.Library.Bought, .int .i64 c.Library.Dropped, .int .i64 c.Library.Mended, str c.Log.Durable, str c.Log.Pending, .int .i64 c.Log.Count]), str s, .int .i64 n, .int .i64 v] w fun e w' => ∃ (A1' : Option Addr) (n1' c1' : Nat) (A2' : Option Addr) (n2' c2' : Nat), e = .returned (.tuple (List.toArray [.agg (List.toArray [.slice A1' n1' c1', .slice A2' n2' c2', .int .i64 (((spec_l34Two c s n v).1).Library.Bought), .int .i64 (((spec_l34Two c s n v).1).Library.Dropped), .int .i64 (((spec_l34Two c s n v).1).Library.Mended), str (((spec_l34Two c s n v).1).Log.Durable), str (((spec_l34Two c s n v).1).Log.Pending), .int .i64 (((spec_l34Two c s n v).1).Log.Count)]), str ((spec_l34Two c s n v).2)])) ∧ SlO w' Bc1 encLMap 3 102 A1' n1' c1' (((spec_l34Two c s n v).1).Library.Maps) ∧ SlO w' Bc2 encAway 2 129 A2' n2' c2' (((spec_l34Two c s n v).1).Library.Away) ∧ Dj A1' A2' ∧ (∀ b_, A1' = some ⟨b_, 0, none⟩ → (Ac1 = some ⟨b_, 0, none⟩ ∨ Ac2 = some ⟨b_, 0, none⟩) ∨ w.heap.size ≤ b_) ∧ (∀ b_, A2' = some ⟨b_, 0, none⟩ → (Ac1 = some ⟨b_, 0, none⟩ ∨ Ac2 = some ⟨b_, 0, none⟩) ∨ w.heap.size ≤ b_) ∧ Lo w w' := by
 refine calls_W 57 Tryz.func86 rfl rfl rfl ?_
 have hcpc1 := hc1.rd.cap
 have hbbc1 := hc1.rd.bd
 have hbdc1 := hc1.rd.bound
 have hlec1 := hc1.len
 have hBbc1 := hc1.bd
 have hcpc2 := hc2.rd.cap
 have hbbc2 := hc2.rd.bd
 have hbdc2 := hc2.rd.bound
 have hlec2 := hc2.len
 have hBbc2 := hc2.bd
 refine Ws (Wr (SR.box (v := .agg (List.toArray _)) (l := [.slice Ac1 nc1 cc1, .slice Ac2 nc2 cc2, .int .i64 c.Library.Bought, .int .i64 c.Library.Dropped, .int .i64 c.Library.Mended, str c.Log.Durable, str c.Log.Pending, .int .i64 c.Log.Count]) rfl rfl ?_))
 intro g1 w2 hg3 hk4 hs5 hb6
 refine SR.alloc (l := [.slice none 0 0, .slice none 0 0, .int .i64 0, .int .i64 0, .int .i64 0, str ([] : List UInt8), str ([] : List UInt8), .int .i64 0]) tz37 rfl ?_
 intro g11 w12 hg13 hk14 hs15 hb16
 have hB18 := ((Lo.refl w).lo hk4).lo hk14
 have hd19 := SlO.ne (g := g11) (hc1.lo hk4)
 have hd20 := SlO.ne (g := g11) (hc2.lo hk4)
 refine Q (r_as (v := str ([] : List UInt8)) rfl) <| Qn (Ws (Ws ?_))
 have hm21 := (hc1.lo hk4).lo hk14
 have hm22 := (hc2.lo hk4).lo hk14
 refine Wr (Q (mS rfl) <| Qn (W.block (Ws (Wr (Q (r_eqs (s := s) (r := ([98, 117, 121] : List UInt8)) rfl rfl) <| Q (aB rfl) <| Qn (W.cond_d rfl (fun h23 => ?_) (fun h23 => ?_)))))))
 ·refine Ws (Wr (Q (lG agg37 rfl (hb6.lo hk14) rfl) <| Q (mI rfl) <| Q (mI rfl) <| Q (r_build (vs := [(0, .int .i64 1), (1, .int .i64 n), (3, .int .i64 v)]) rfl (bld106_0_1_3 _ _ _)) <| SR.call ent87 (c_spec_l34Make w12 c hm21 hm22 (⟨1, n, 0, v⟩ : LibraryStep) hdc_Library_Maps_c2 (by omega) (by omega)) rfl ?_))
  rintro e w24 ⟨A26, n27, c28, A30, n31, c32, rfl, hO29, hO33, hd34, hN35, hN36, hk25⟩
  refine ⟨_, rfl, ?_⟩
  have hz37 := hk25.size
  have hd40 : ¬ A26 = some ⟨g11, 0, none⟩ := fun e' => (hN35 g11 e').elim (fun h => h.elim (fun h => hd19 h) (fun h => hd20 h)) (fun h => by have := hb16.lt; omega)
  have hd42 : ¬ A30 = some ⟨g11, 0, none⟩ := fun e' => (hN36 g11 e').elim (fun h => h.elim (fun h => hd19 h) (fun h => hd20 h)) (fun h => by have := hb16.lt; omega)
  have hl43 := hO29.len
  have hl44 := hO29.rd.bound
  have hl45 := hO33.len
  have hl46 := hO33.rd.bound
  refine Q (xG rfl rfl) <| Q (xS rfl rfl) <| Qw (o := 0) (vs := [.slice A26 n27 c28, .slice A30 n31 c32, .int .i64 (((spec_l34Make c (⟨1, n, 0, v⟩ : LibraryStep)).1).Library.Bought), .int .i64 (((spec_l34Make c (⟨1, n, 0, v⟩ : LibraryStep)).1).Library.Dropped), .int .i64 (((spec_l34Make c (⟨1, n, 0, v⟩ : LibraryStep)).1).Library.Mended), str (((spec_l34Make c (⟨1, n, 0, v⟩ : LibraryStep)).1).Log.Durable), str (((spec_l34Make c (⟨1, n, 0, v⟩ : LibraryStep)).1).Log.Pending), .int .i64 (((spec_l34Make c (⟨1, n, 0, v⟩ : LibraryStep)).1).Log.Count)]) agg37.2 rfl rfl rfl rfl (hb16.lo hk25) ler rfl ?_
  intro w47 hk48 hs49 hb50
  refine Q (aS rfl) <| Qn (W.ret (retCT rfl rfl agg37 hb50 rfl (v := str _) rfl ?_))
  refine ⟨A26, n27, c28, A30, n31, c32, eR (eT2 (eA (eC rfl (eC rfl (eC (eI ?_) (eC (eI ?_) (eC (eI ?_) (eC (eS ?_) (eC (eS ?_) (eC (eI ?_) rfl))))))))) (eS ?_)), (SlO.eqv (hO29.kd hk48 hd40) ?_), (SlO.eqv (hO33.kd hk48 hd42) ?_), hd34, (fun b_ h_ => (hN35 b_ h_).elim (fun h => h.elim (fun h => ((show ∀ b_, Ac1 = some ⟨b_, 0, none⟩ → (Ac1 = some ⟨b_, 0, none⟩ ∨ Ac2 = some ⟨b_, 0, none⟩) ∨ w.heap.size ≤ b_ from (fun b_ h_ => .inl (.inl h_))) b_ h)) (fun h => ((show ∀ b_, Ac2 = some ⟨b_, 0, none⟩ → (Ac1 = some ⟨b_, 0, none⟩ ∨ Ac2 = some ⟨b_, 0, none⟩) ∨ w.heap.size ≤ b_ from (fun b_ h_ => .inl (.inr h_))) b_ h))) (fun h => .inr (by omega))), (fun b_ h_ => (hN36 b_ h_).elim (fun h => h.elim (fun h => ((show ∀ b_, Ac1 = some ⟨b_, 0, none⟩ → (Ac1 = some ⟨b_, 0, none⟩ ∨ Ac2 = some ⟨b_, 0, none⟩) ∨ w.heap.size ≤ b_ from (fun b_ h_ => .inl (.inl h_))) b_ h)) (fun h => ((show ∀ b_, Ac2 = some ⟨b_, 0, none⟩ → (Ac1 = some ⟨b_, 0, none⟩ ∨ Ac2 = some ⟨b_, 0, none⟩) ∨ w.heap.size ≤ b_ from (fun b_ h_ => .inl (.inr h_))) b_ h))) (fun h => .inr (by omega))), ((hB18.lo hk25).new hk48)⟩ <;> (subst hl43 hl45; unfold spec_l34Two; rw [if_pos h23] <;> rfl)
 ·refine Ws (Wr (Q (r_eqs (s := s) (r := ([108, 101, 110, 100] : List UInt8)) rfl rfl) <| Q (aB rfl) <| Qn (W.cond_d rfl (fun h53 => ?_) (fun h53 => ?_))))
  ·refine Ws (Wr (Q (lG agg37 rfl (hb6.lo hk14) rfl) <| Q (mI rfl) <| Q (mI rfl) <| Q (r_build (vs := [(0, .int .i64 2), (1, .int .i64 n), (2, .int .i64 v)]) rfl (bld106_0_1_2 _ _ _)) <| SR.call ent87 (c_spec_l34Make w12 c hm21 hm22 (⟨2, n, v, 0⟩ : LibraryStep) hdc_Library_Maps_c2 (by omega) (by omega)) rfl ?_))
   rintro e w54 ⟨A56, n57, c58, A60, n61, c62, rfl, hO59, hO63, hd64, hN65, hN66, hk55⟩
   refine ⟨_, rfl, ?_⟩
   have hz67 := hk55.size
   have hd70 : ¬ A56 = some ⟨g11, 0, none⟩ := fun e' => (hN65 g11 e').elim (fun h => h.elim (fun h => hd19 h) (fun h => hd20 h)) (fun h => by have := hb16.lt; omega)
   have hd72 : ¬ A60 = some ⟨g11, 0, none⟩ := fun e' => (hN66 g11 e').elim (fun h => h.elim (fun h => hd19 h) (fun h => hd20 h)) (fun h => by have := hb16.lt; omega)
   have hl73 := hO59.len
   have hl74 := hO59.rd.bound
   have hl75 := hO63.len
   have hl76 := hO63.rd.bound
   refine Q (xG rfl rfl) <| Q (xS rfl rfl) <| Qw (o := 0) (vs := [.slice A56 n57 c58, .slice A60 n61 c62, .int .i64 (((spec_l34Make c (⟨2, n, v, 0⟩ : LibraryStep)).1).Library.Bought), .int .i64 (((spec_l34Make c (⟨2, n, v, 0⟩ : LibraryStep)).1).Library.Dropped), .int .i64 (((spec_l34Make c (⟨2, n, v, 0⟩ : LibraryStep)).1).Library.Mended), str (((spec_l34Make c (⟨2, n, v, 0⟩ : LibraryStep)).1).Log.Durable), str (((spec_l34Make c (⟨2, n, v, 0⟩ : LibraryStep)).1).Log.Pending), .int .i64 (((spec_l34Make c (⟨2, n, v, 0⟩ : LibraryStep)).1).Log.Count)]) agg37.2 rfl rfl rfl rfl (hb16.lo hk55) ler rfl ?_
   intro w77 hk78 hs79 hb80
   refine Q (aS rfl) <| Qn (W.ret (retCT rfl rfl agg37 hb80 rfl (v := str _) rfl ?_))
   refine ⟨A56, n57, c58, A60, n61, c62, eR (eT2 (eA (eC rfl (eC rfl (eC (eI ?_) (eC (eI ?_) (eC (eI ?_) (eC (eS ?_) (eC (eS ?_) (eC (eI ?_) rfl))))))))) (eS ?_)), (SlO.eqv (hO59.kd hk78 hd70) ?_), (SlO.eqv (hO63.kd hk78 hd72) ?_), hd64, (fun b_ h_ => (hN65 b_ h_).elim (fun h => h.elim (fun h => ((show ∀ b_, Ac1 = some ⟨b_, 0, none⟩ → (Ac1 = some ⟨b_, 0, none⟩ ∨ Ac2 = some ⟨b_, 0, none⟩) ∨ w.heap.size ≤ b_ from (fun b_ h_ => .inl (.inl h_))) b_ h)) (fun h => ((show ∀ b_, Ac2 = some ⟨b_, 0, none⟩ → (Ac1 = some ⟨b_, 0, none⟩ ∨ Ac2 = some ⟨b_, 0, none⟩) ∨ w.heap.size ≤ b_ from (fun b_ h_ => .inl (.inr h_))) b_ h))) (fun h => .inr (by omega))), (fun b_ h_ => (hN66 b_ h_).elim (fun h => h.elim (fun h => ((show ∀ b_, Ac1 = some ⟨b_, 0, none⟩ → (Ac1 = some ⟨b_, 0, none⟩ ∨ Ac2 = some ⟨b_, 0, none⟩) ∨ w.heap.size ≤ b_ from (fun b_ h_ => .inl (.inl h_))) b_ h)) (fun h => ((show ∀ b_, Ac2 = some ⟨b_, 0, none⟩ → (Ac1 = some ⟨b_, 0, none⟩ ∨ Ac2 = some ⟨b_, 0, none⟩) ∨ w.heap.size ≤ b_ from (fun b_ h_ => .inl (.inr h_))) b_ h))) (fun h => .inr (by omega))), ((hB18.lo hk55).new hk78)⟩ <;> (subst hl73 hl75; unfold spec_l34Two; rw [if_neg h23, if_pos h53] <;> rfl)
  ·refine Ws (Wr (Q (r_eqs (s := s) (r := ([109, 101, 110, 100] : List UInt8)) rfl rfl) <| Q (aB rfl) <| Qn (W.cond_d rfl (fun h83 => ?_) (fun h83 => ?_))))
   ·refine Ws (Wr (Q (lG agg37 rfl (hb6.lo hk14) rfl) <| Q (mI rfl) <| Q (mI rfl) <| Q (r_build (vs := [(0, .int .i64 4), (1, .int .i64 n), (3, .int .i64 v)]) rfl (bld106_0_1_3 _ _ _)) <| SR.call ent87 (c_spec_l34Make w12 c hm21 hm22 (⟨4, n, 0, v⟩ : LibraryStep) hdc_Library_Maps_c2 (by omega) (by omega)) rfl ?_))
    rintro e w84 ⟨A86, n87, c88, A90, n91, c92, rfl, hO89, hO93, hd94, hN95, hN96, hk85⟩
    refine ⟨_, rfl, ?_⟩
    have hz97 := hk85.size
    have hd100 : ¬ A86 = some ⟨g11, 0, none⟩ := fun e' => (hN95 g11 e').elim (fun h => h.elim (fun h => hd19 h) (fun h => hd20 h)) (fun h => by have := hb16.lt; omega)
    have hd102 : ¬ A90 = some ⟨g11, 0, none⟩ := fun e' => (hN96 g11 e').elim (fun h => h.elim (fun h => hd19 h) (fun h => hd20 h)) (fun h => by have := hb16.lt; omega)
    have hl103 := hO89.len
    have hl104 := hO89.rd.bound
    have hl105 := hO93.len
    have hl106 := hO93.rd.bound
    refine Q (xG rfl rfl) <| Q (xS rfl rfl) <| Qw (o := 0) (vs := [.slice A86 n87 c88, .slice A90 n91 c92, .int .i64 (((spec_l34Make c (⟨4, n, 0, v⟩ : LibraryStep)).1).Library.Bought), .int .i64 (((spec_l34Make c (⟨4, n, 0, v⟩ : LibraryStep)).1).Library.Dropped), .int .i64 (((spec_l34Make c (⟨4, n, 0, v⟩ : LibraryStep)).1).Library.Mended), str (((spec_l34Make c (⟨4, n, 0, v⟩ : LibraryStep)).1).Log.Durable), str (((spec_l34Make c (⟨4, n, 0, v⟩ : LibraryStep)).1).Log.Pending), .int .i64 (((spec_l34Make c (⟨4, n, 0, v⟩ : LibraryStep)).1).Log.Count)]) agg37.2 rfl rfl rfl rfl (hb16.lo hk85) ler rfl ?_
    intro w107 hk108 hs109 hb110
    refine Q (aS rfl) <| Qn (W.ret (retCT rfl rfl agg37 hb110 rfl (v := str _) rfl ?_))
    refine ⟨A86, n87, c88, A90, n91, c92, eR (eT2 (eA (eC rfl (eC rfl (eC (eI ?_) (eC (eI ?_) (eC (eI ?_) (eC (eS ?_) (eC (eS ?_) (eC (eI ?_) rfl))))))))) (eS ?_)), (SlO.eqv (hO89.kd hk108 hd100) ?_), (SlO.eqv (hO93.kd hk108 hd102) ?_), hd94, (fun b_ h_ => (hN95 b_ h_).elim (fun h => h.elim (fun h => ((show ∀ b_, Ac1 = some ⟨b_, 0, none⟩ → (Ac1 = some ⟨b_, 0, none⟩ ∨ Ac2 = some ⟨b_, 0, none⟩) ∨ w.heap.size ≤ b_ from (fun b_ h_ => .inl (.inl h_))) b_ h)) (fun h => ((show ∀ b_, Ac2 = some ⟨b_, 0, none⟩ → (Ac1 = some ⟨b_, 0, none⟩ ∨ Ac2 = some ⟨b_, 0, none⟩) ∨ w.heap.size ≤ b_ from (fun b_ h_ => .inl (.inr h_))) b_ h))) (fun h => .inr (by omega))), (fun b_ h_ => (hN96 b_ h_).elim (fun h => h.elim (fun h => ((show ∀ b_, Ac1 = some ⟨b_, 0, none⟩ → (Ac1 = some ⟨b_, 0, none⟩ ∨ Ac2 = some ⟨b_, 0, none⟩) ∨ w.heap.size ≤ b_ from (fun b_ h_ => .inl (.inl h_))) b_ h)) (fun h => ((show ∀ b_, Ac2 = some ⟨b_, 0, none⟩ → (Ac1 = some ⟨b_, 0, none⟩ ∨ Ac2 = some ⟨b_, 0, none⟩) ∨ w.heap.size ≤ b_ from (fun b_ h_ => .inl (.inr h_))) b_ h))) (fun h => .inr (by omega))), ((hB18.lo hk85).new hk108)⟩ <;> (subst hl103 hl105; unfold spec_l34Two; rw [if_neg h23, if_neg h53, if_pos h83] <;> rfl)
   ·refine Ws (Wr (Q (r_eqs (s := s) (r := ([100, 114, 111, 112] : List UInt8)) rfl rfl) <| Q (aB rfl) <| Qn (W.cond_d rfl (fun h113 => ?_) (fun h113 => ?_))))
    ·refine Ws (Wr (Q (lG agg37 rfl (hb6.lo hk14) rfl) <| Q (mI rfl) <| Q (mI rfl) <| Q (r_build (vs := [(0, .int .i64 6), (1, .int .i64 n), (3, .int .i64 v)]) rfl (bld106_0_1_3 _ _ _)) <| SR.call ent87 (c_spec_l34Make w12 c hm21 hm22 (⟨6, n, 0, v⟩ : LibraryStep) hdc_Library_Maps_c2 (by omega) (by omega)) rfl ?_))
     rintro e w114 ⟨A116, n117, c118, A120, n121, c122, rfl, hO119, hO123, hd124, hN125, hN126, hk115⟩
     refine ⟨_, rfl, ?_⟩
     have hz127 := hk115.size
     have hd130 : ¬ A116 = some ⟨g11, 0, none⟩ := fun e' => (hN125 g11 e').elim (fun h => h.elim (fun h => hd19 h) (fun h => hd20 h)) (fun h => by have := hb16.lt; omega)
     have hd132 : ¬ A120 = some ⟨g11, 0, none⟩ := fun e' => (hN126 g11 e').elim (fun h => h.elim (fun h => hd19 h) (fun h => hd20 h)) (fun h => by have := hb16.lt; omega)
     have hl133 := hO119.len
     have hl134 := hO119.rd.bound
     have hl135 := hO123.len
     have hl136 := hO123.rd.bound
     refine Q (xG rfl rfl) <| Q (xS rfl rfl) <| Qw (o := 0) (vs := [.slice A116 n117 c118, .slice A120 n121 c122, .int .i64 (((spec_l34Make c (⟨6, n, 0, v⟩ : LibraryStep)).1).Library.Bought), .int .i64 (((spec_l34Make c (⟨6, n, 0, v⟩ : LibraryStep)).1).Library.Dropped), .int .i64 (((spec_l34Make c (⟨6, n, 0, v⟩ : LibraryStep)).1).Library.Mended), str (((spec_l34Make c (⟨6, n, 0, v⟩ : LibraryStep)).1).Log.Durable), str (((spec_l34Make c (⟨6, n, 0, v⟩ : LibraryStep)).1).Log.Pending), .int .i64 (((spec_l34Make c (⟨6, n, 0, v⟩ : LibraryStep)).1).Log.Count)]) agg37.2 rfl rfl rfl rfl (hb16.lo hk115) ler rfl ?_
     intro w137 hk138 hs139 hb140
     refine Q (aS rfl) <| Qn (W.ret (retCT rfl rfl agg37 hb140 rfl (v := str _) rfl ?_))
     refine ⟨A116, n117, c118, A120, n121, c122, eR (eT2 (eA (eC rfl (eC rfl (eC (eI ?_) (eC (eI ?_) (eC (eI ?_) (eC (eS ?_) (eC (eS ?_) (eC (eI ?_) rfl))))))))) (eS ?_)), (SlO.eqv (hO119.kd hk138 hd130) ?_), (SlO.eqv (hO123.kd hk138 hd132) ?_), hd124, (fun b_ h_ => (hN125 b_ h_).elim (fun h => h.elim (fun h => ((show ∀ b_, Ac1 = some ⟨b_, 0, none⟩ → (Ac1 = some ⟨b_, 0, none⟩ ∨ Ac2 = some ⟨b_, 0, none⟩) ∨ w.heap.size ≤ b_ from (fun b_ h_ => .inl (.inl h_))) b_ h)) (fun h => ((show ∀ b_, Ac2 = some ⟨b_, 0, none⟩ → (Ac1 = some ⟨b_, 0, none⟩ ∨ Ac2 = some ⟨b_, 0, none⟩) ∨ w.heap.size ≤ b_ from (fun b_ h_ => .inl (.inr h_))) b_ h))) (fun h => .inr (by omega))), (fun b_ h_ => (hN126 b_ h_).elim (fun h => h.elim (fun h => ((show ∀ b_, Ac1 = some ⟨b_, 0, none⟩ → (Ac1 = some ⟨b_, 0, none⟩ ∨ Ac2 = some ⟨b_, 0, none⟩) ∨ w.heap.size ≤ b_ from (fun b_ h_ => .inl (.inl h_))) b_ h)) (fun h => ((show ∀ b_, Ac2 = some ⟨b_, 0, none⟩ → (Ac1 = some ⟨b_, 0, none⟩ ∨ Ac2 = some ⟨b_, 0, none⟩) ∨ w.heap.size ≤ b_ from (fun b_ h_ => .inl (.inr h_))) b_ h))) (fun h => .inr (by omega))), ((hB18.lo hk115).new hk138)⟩ <;> (subst hl133 hl135; unfold spec_l34Two; rw [if_neg h23, if_neg h53, if_neg h83, if_pos h113] <;> rfl)
    ·refine Ws (Wr (Q (r_eqs (s := s) (r := ([119, 101, 97, 114] : List UInt8)) rfl rfl) <| Q (aB rfl) <| Qn (W.cond_d rfl (fun h143 => ?_) (fun h143 => ?_))))
     ·refine Ws (Wr (Q (lG agg37 rfl (hb6.lo hk14) rfl) <| Q (mI rfl) <| Q (mI rfl) <| Q (r_build (vs := [(0, .int .i64 7), (1, .int .i64 n), (3, .int .i64 v)]) rfl (bld106_0_1_3 _ _ _)) <| SR.call ent87 (c_spec_l34Make w12 c hm21 hm22 (⟨7, n, 0, v⟩ : LibraryStep) hdc_Library_Maps_c2 (by omega) (by omega)) rfl ?_))
      rintro e w144 ⟨A146, n147, c148, A150, n151, c152, rfl, hO149, hO153, hd154, hN155, hN156, hk145⟩
      refine ⟨_, rfl, ?_⟩
      have hz157 := hk145.size
      have hd160 : ¬ A146 = some ⟨g11, 0, none⟩ := fun e' => (hN155 g11 e').elim (fun h => h.elim (fun h => hd19 h) (fun h => hd20 h)) (fun h => by have := hb16.lt; omega)
      have hd162 : ¬ A150 = some ⟨g11, 0, none⟩ := fun e' => (hN156 g11 e').elim (fun h => h.elim (fun h => hd19 h) (fun h => hd20 h)) (fun h => by have := hb16.lt; omega)
      have hl163 := hO149.len
      have hl164 := hO149.rd.bound
      have hl165 := hO153.len
      have hl166 := hO153.rd.bound
      refine Q (xG rfl rfl) <| Q (xS rfl rfl) <| Qw (o := 0) (vs := [.slice A146 n147 c148, .slice A150 n151 c152, .int .i64 (((spec_l34Make c (⟨7, n, 0, v⟩ : LibraryStep)).1).Library.Bought), .int .i64 (((spec_l34Make c (⟨7, n, 0, v⟩ : LibraryStep)).1).Library.Dropped), .int .i64 (((spec_l34Make c (⟨7, n, 0, v⟩ : LibraryStep)).1).Library.Mended), str (((spec_l34Make c (⟨7, n, 0, v⟩ : LibraryStep)).1).Log.Durable), str (((spec_l34Make c (⟨7, n, 0, v⟩ : LibraryStep)).1).Log.Pending), .int .i64 (((spec_l34Make c (⟨7, n, 0, v⟩ : LibraryStep)).1).Log.Count)]) agg37.2 rfl rfl rfl rfl (hb16.lo hk145) ler rfl ?_
      intro w167 hk168 hs169 hb170
      refine Q (aS rfl) <| Qn (W.ret (retCT rfl rfl agg37 hb170 rfl (v := str _) rfl ?_))
      refine ⟨A146, n147, c148, A150, n151, c152, eR (eT2 (eA (eC rfl (eC rfl (eC (eI ?_) (eC (eI ?_) (eC (eI ?_) (eC (eS ?_) (eC (eS ?_) (eC (eI ?_) rfl))))))))) (eS ?_)), (SlO.eqv (hO149.kd hk168 hd160) ?_), (SlO.eqv (hO153.kd hk168 hd162) ?_), hd154, (fun b_ h_ => (hN155 b_ h_).elim (fun h => h.elim (fun h => ((show ∀ b_, Ac1 = some ⟨b_, 0, none⟩ → (Ac1 = some ⟨b_, 0, none⟩ ∨ Ac2 = some ⟨b_, 0, none⟩) ∨ w.heap.size ≤ b_ from (fun b_ h_ => .inl (.inl h_))) b_ h)) (fun h => ((show ∀ b_, Ac2 = some ⟨b_, 0, none⟩ → (Ac1 = some ⟨b_, 0, none⟩ ∨ Ac2 = some ⟨b_, 0, none⟩) ∨ w.heap.size ≤ b_ from (fun b_ h_ => .inl (.inr h_))) b_ h))) (fun h => .inr (by omega))), (fun b_ h_ => (hN156 b_ h_).elim (fun h => h.elim (fun h => ((show ∀ b_, Ac1 = some ⟨b_, 0, none⟩ → (Ac1 = some ⟨b_, 0, none⟩ ∨ Ac2 = some ⟨b_, 0, none⟩) ∨ w.heap.size ≤ b_ from (fun b_ h_ => .inl (.inl h_))) b_ h)) (fun h => ((show ∀ b_, Ac2 = some ⟨b_, 0, none⟩ → (Ac1 = some ⟨b_, 0, none⟩ ∨ Ac2 = some ⟨b_, 0, none⟩) ∨ w.heap.size ≤ b_ from (fun b_ h_ => .inl (.inr h_))) b_ h))) (fun h => .inr (by omega))), ((hB18.lo hk145).new hk168)⟩ <;> (subst hl163 hl165; unfold spec_l34Two; rw [if_neg h23, if_neg h53, if_neg h83, if_neg h113, if_pos h143] <;> rfl)
     ·refine W.skip (Ws (Wr (Q (lG agg37 rfl (hb6.lo hk14) rfl) <| Qw (o := 0) (vs := [.slice Ac1 nc1 cc1, .slice Ac2 nc2 cc2, .int .i64 c.Library.Bought, .int .i64 c.Library.Dropped, .int .i64 c.Library.Mended, str c.Log.Durable, str c.Log.Pending, .int .i64 c.Log.Count]) agg37.2 rfl rfl rfl rfl hb16 ler rfl ?_)))
      intro w173 hk174 hs175 hb176
      refine Q (r_as (v := str ([63] : List UInt8)) rfl) <| Qn (W.ret (retCT rfl rfl agg37 hb176 rfl (v := str _) rfl ?_))
      refine ⟨Ac1, nc1, cc1, Ac2, nc2, cc2, eR (eT2 (eA (eC rfl (eC rfl (eC (eI ?_) (eC (eI ?_) (eC (eI ?_) (eC (eS ?_) (eC (eS ?_) (eC (eI ?_) rfl))))))))) (eS ?_)), (SlO.eqv (hm21.kd hk174 hd19) ?_), (SlO.eqv (hm22.kd hk174 hd20) ?_), hdc_Library_Maps_c2, (fun b_ h_ => .inl (.inl h_)), (fun b_ h_ => .inl (.inr h_)), (hB18.new hk174)⟩ <;> (subst hlec1 hlec2; unfold spec_l34Two; rw [if_neg h23, if_neg h53, if_neg h83, if_neg h113, if_neg h143] <;> rfl)
end Go.Proofs.YtndcchndcghmoaaGreatDoor
namespace Go.Proofs.YtndcchndcghmoaaGreatDoor
open Go Go.RowKit Fw
noncomputable def runS (c : Console) (s : List UInt8) : Console × List UInt8 :=
  if AllNum ((splitB 32 s).drop 1) then
    if (numsW ((splitB 32 s).drop 1)).length = 0 then (c, spec_l34Word c.Library s)
    else if (numsW ((splitB 32 s).drop 1)).length = 1 then spec_l34One c (gt (splitB 32 s) 0) (gt (numsW ((splitB 32 s).drop 1)) 0)
    else if (numsW ((splitB 32 s).drop 1)).length = 2 then spec_l34Two c (gt (splitB 32 s) 0) (gt (numsW ((splitB 32 s).drop 1)) 0) (gt (numsW ((splitB 32 s).drop 1)) 1)
    else if (numsW ((splitB 32 s).drop 1)).length = 3 then
      if gt (splitB 32 s) 0 = [98, 97, 99, 107] then spec_l34Make c ⟨3, gt (numsW ((splitB 32 s).drop 1)) 0, gt (numsW ((splitB 32 s).drop 1)) 1, gt (numsW ((splitB 32 s).drop 1)) 2⟩
      else if gt (splitB 32 s) 0 = [104, 97, 110, 100] then spec_l34Make c ⟨5, gt (numsW ((splitB 32 s).drop 1)) 0, gt (numsW ((splitB 32 s).drop 1)) 1, gt (numsW ((splitB 32 s).drop 1)) 2⟩
      else (c, [63])
    else (c, [63])
  else (c, [63])
noncomputable def repN (x : Library) (s : List UInt8) : Library × List UInt8 × Bool :=
  if AllNum ((splitB 32 s).drop 1) then
    if (impl_stepFor (gt (splitB 32 s) 0) (numsW ((splitB 32 s).drop 1))).2 = true then
      if (impl_Library_stepped x (impl_stepFor (gt (splitB 32 s) 0) (numsW ((splitB 32 s).drop 1))).1).2 = true then
        ((impl_Library_stepped x (impl_stepFor (gt (splitB 32 s) 0) (numsW ((splitB 32 s).drop 1))).1).1, mapT (impl_Library_stepped x (impl_stepFor (gt (splitB 32 s) 0) (numsW ((splitB 32 s).drop 1))).1).1 (impl_stepFor (gt (splitB 32 s) 0) (numsW ((splitB 32 s).drop 1))).1.Id)
      else (x, [], false)
    else (x, impl_tell x (gt (splitB 32 s) 0) (numsW ((splitB 32 s).drop 1)))
  else (x, [], false)
noncomputable def ansN (x : Library) (s : List UInt8) : List UInt8 := if (repN x s).2.2 = true then (if 200 < (repN x s).2.1.length then [108, 111, 110, 103] else (repN x s).2.1) else [63]
noncomputable def libN (x : Library) (s : List UInt8) : Library := if (repN x s).2.2 = true then (repN x s).1 else x
noncomputable def execN (c : Console) (s : List UInt8) : Console × List UInt8 :=
  if ¬ ConOK c then (c, [110, 111])
  else if ¬ RecOK ⟨s, []⟩ then (c, [98, 97, 100])
  else if c.Log.Count = 60 then (c, [102, 117, 108, 108])
  else (⟨libN c.Library s, (appN c.Log ⟨s, ansN c.Library s⟩).1⟩, ansN c.Library s)
section
variable {x : Library} {s y : List UInt8} {k : Nat}
theorem notD {D : List (List UInt8)} (hx : D[k]? = some y) (hb : (!(readN y).2) = true) : ¬ AllNum D := fun h => by
  rw [h y (List.mem_of_getElem? hx)] at hb; cases hb
theorem rep_bad (hx : ((splitB 32 s).drop 1)[k]? = some y) (hb : (!(readN y).2) = true) : repN x s = (x, [], false) := if_neg (notD hx hb)
theorem rep_no (hk : ((splitB 32 s).drop 1).length ≤ k) (hA : AllNum (((splitB 32 s).drop 1).take k)) (h : (impl_stepFor (gt (splitB 32 s) 0) (numsW (((splitB 32 s).drop 1).take k))).2 = true)
    (h2 : (!(impl_Library_stepped x (impl_stepFor (gt (splitB 32 s) 0) (numsW (((splitB 32 s).drop 1).take k))).1).2) = true) : repN x s = (x, [], false) := by
  rw [List.take_of_length_le hk] at *
  unfold repN; rw [if_pos hA, if_pos h, if_neg (by simpa using h2)]
theorem rep_yes (hk : ((splitB 32 s).drop 1).length ≤ k) (hA : AllNum (((splitB 32 s).drop 1).take k)) (h : (impl_stepFor (gt (splitB 32 s) 0) (numsW (((splitB 32 s).drop 1).take k))).2 = true)
    (h2 : (!(impl_Library_stepped x (impl_stepFor (gt (splitB 32 s) 0) (numsW (((splitB 32 s).drop 1).take k))).1).2) = false) : repN x s = ((impl_Library_stepped x (impl_stepFor (gt (splitB 32 s) 0) (numsW (((splitB 32 s).drop 1).take k))).1).1, mapT (impl_Library_stepped x (impl_stepFor (gt (splitB 32 s) 0) (numsW (((splitB 32 s).drop 1).take k))).1).1 (impl_stepFor (gt (splitB 32 s) 0) (numsW (((splitB 32 s).drop 1).take k))).1.Id) := by
  rw [List.take_of_length_le hk] at *
  unfold repN; rw [if_pos hA, if_pos h, if_pos (by simpa using h2)]
theorem rep_tell (hk : ((splitB 32 s).drop 1).length ≤ k) (hA : AllNum (((splitB 32 s).drop 1).take k)) (h : (impl_stepFor (gt (splitB 32 s) 0) (numsW (((splitB 32 s).drop 1).take k))).2 = false) :
    repN x s = (x, impl_tell x (gt (splitB 32 s) 0) (numsW (((splitB 32 s).drop 1).take k))) := by
  rw [List.take_of_length_le hk] at *
  unfold repN; rw [if_pos hA, if_neg (by rw [h]; simp)]
end
section
variable {c : Console} {s y : List UInt8} {k : Nat}
theorem splitB_max (c : UInt8) : ∀ s : List UInt8, (splitB c s).length ≤ s.length + 1
  | [] => by simp [splitB]
  | b :: r => by
    have h := splitB_max c r
    unfold splitB
    split
    · simp; omega
    · simp; omega
theorem nm_one (s : List UInt8) : [] = nmW s 1 := by
  unfold nmW; cases splitB 32 s <;> rfl
theorem nm_all (hk : (splitB 32 s).length ≤ k) : nmW s k = numsW ((splitB 32 s).drop 1) := by unfold nmW; rw [List.take_of_length_le hk]
theorem not_all (h1 : 1 ≤ k) (hx : (splitB 32 s)[k]? = some y) (hb : (readN y).2 = false) : ¬ AllNum ((splitB 32 s).drop 1) := fun h => by
  have : y ∈ (splitB 32 s).drop 1 := by
    refine List.mem_of_getElem? (i := k - 1) ?_
    rw [List.getElem?_drop, show 1 + (k - 1) = k by omega]; exact hx
  rw [h y this] at hb; cases hb
theorem run_bad (h1 : 1 ≤ k) (hx : (splitB 32 s)[k]? = some y) (hb : (!(readN y).2) = true) : runS c s = (c, [63]) := if_neg (not_all h1 hx (by simpa using hb))
theorem all_of (hk : (splitB 32 s).length ≤ k) (hA : AllNum (((splitB 32 s).take k).drop 1)) : AllNum ((splitB 32 s).drop 1) := by rwa [List.take_of_length_le hk] at hA
theorem run_0 (hk : (splitB 32 s).length ≤ k) (hA : AllNum (((splitB 32 s).take k).drop 1)) (hn : (nmW s k).length = 0) : runS c s = (c, spec_l34Word c.Library s) := by
  unfold runS; rw [if_pos (all_of hk hA), ← nm_all hk, if_pos hn]
theorem run_1 (hk : (splitB 32 s).length ≤ k) (hA : AllNum (((splitB 32 s).take k).drop 1)) (hn : (nmW s k).length = 1) : runS c s = spec_l34One c (gt (splitB 32 s) 0) (gt (nmW s k) 0) := by
  unfold runS; rw [if_pos (all_of hk hA), ← nm_all hk, if_neg (by omega), if_pos hn]
theorem run_2 (hk : (splitB 32 s).length ≤ k) (hA : AllNum (((splitB 32 s).take k).drop 1)) (hn : (nmW s k).length = 2) : runS c s = spec_l34Two c (gt (splitB 32 s) 0) (gt (nmW s k) 0) (gt (nmW s k) 1) := by
  unfold runS; rw [if_pos (all_of hk hA), ← nm_all hk, if_neg (by omega), if_neg (by omega), if_pos hn]
theorem run_3 (hk : (splitB 32 s).length ≤ k) (hA : AllNum (((splitB 32 s).take k).drop 1)) (hn : (nmW s k).length = 3) (hw : gt (splitB 32 s) 0 = [98, 97, 99, 107]) : runS c s = spec_l34Make c ⟨3, gt (nmW s k) 0, gt (nmW s k) 1, gt (nmW s k) 2⟩ := by
  unfold runS; rw [if_pos (all_of hk hA), ← nm_all hk, if_neg (by omega), if_neg (by omega), if_neg (by omega), if_pos hn, if_pos hw]
theorem run_3h (hk : (splitB 32 s).length ≤ k) (hA : AllNum (((splitB 32 s).take k).drop 1)) (hn : (nmW s k).length = 3) (h1 : ¬ gt (splitB 32 s) 0 = [98, 97, 99, 107]) (hw : gt (splitB 32 s) 0 = [104, 97, 110, 100]) : runS c s = spec_l34Make c ⟨5, gt (nmW s k) 0, gt (nmW s k) 1, gt (nmW s k) 2⟩ := by
  unfold runS; rw [if_pos (all_of hk hA), ← nm_all hk, if_neg (by omega), if_neg (by omega), if_neg (by omega), if_pos hn, if_neg h1, if_pos hw]
theorem run_3n (hk : (splitB 32 s).length ≤ k) (hA : AllNum (((splitB 32 s).take k).drop 1)) (hn : (nmW s k).length = 3) (h1 : ¬ gt (splitB 32 s) 0 = [98, 97, 99, 107]) (hw : ¬ gt (splitB 32 s) 0 = [104, 97, 110, 100]) : runS c s = (c, [63]) := by
  unfold runS; rw [if_pos (all_of hk hA), ← nm_all hk, if_neg (by omega), if_neg (by omega), if_neg (by omega), if_pos hn, if_neg h1, if_neg hw]
theorem run_n (hk : (splitB 32 s).length ≤ k) (hA : AllNum (((splitB 32 s).take k).drop 1)) (hn : (nmW s k).length ≠ 0 ∧ (nmW s k).length ≠ 1 ∧ (nmW s k).length ≠ 2 ∧ (nmW s k).length ≠ 3) : runS c s = (c, [63]) := by
  unfold runS; rw [if_pos (all_of hk hA), ← nm_all hk, if_neg (by omega), if_neg (by omega), if_neg (by omega), if_neg (by omega)]
end
end Go.Proofs.YtndcchndcghmoaaGreatDoor
namespace Go.Proofs.YtndcchndcghmoaaGreatDoor
open Go Go.RowKit Fw
section
variable {x : Library} {c : Console} {s w : List UInt8} {t : LibraryStep} {n : List Int} {m : LMap} {M : List LMap} {id : Int}
theorem set_has (h : 0 ≤ idxF (hasId id) M) (hm : m.Id = (gt M (idxF (hasId id) M).toNat).Id) : 0 ≤ idxF (hasId id) (M.set (idxF (hasId id) M).toNat m) := by
  have hlt := (idx_lt (p := hasId id) (L := M)).1
  have hi : (gt M (idxF (hasId id) M).toNat).Id = id := map_at_id (x := ⟨M, [], 0, 0, 0⟩) h
  exact ex_idx.1 ⟨m, List.mem_iff_getElem?.2 ⟨(idxF (hasId id) M).toNat, by rw [List.getElem?_set_self (by omega)]⟩, hm.trans hi⟩
theorem make_has (hx : LibOK x) (hs : spec_l32Step x t = true) : 0 ≤ idxF (hasId t.Id) (spec_l32Make x t).1.Maps := by
  have hr := stepL_rng hs
  unfold spec_l32Make
  by_cases h1 : t.Kind = 1
  · rw [if_pos h1]
    by_cases h : 0 ≤ idxF (hasId t.Id) x.Maps
    · rw [bought_yes h]; exact set_has h rfl
    · rw [bought_no h]; exact ex_idx.1 ⟨⟨t.Id, t.Value, 0⟩, by simp, rfl⟩
  have hi := hr.2.1 h1
  rw [if_neg h1]
  split
  · exact set_has hi rfl
  split
  · exact set_has hi rfl
  split
  · exact set_has hi rfl
  show 0 ≤ idxF (hasId t.Id) (spec_l32Readers x t (idxF (hasId t.Id) x.Maps)).1.Maps
  unfold spec_l32Readers
  split
  · exact set_has hi rfl
  split
  · exact hi
  split
  · exact hi
  · exact set_has hi rfl
theorem stepped_has (hx : LibOK x) (hv : t.Value ≤ 9223372036854775807) (h : (impl_Library_stepped x t).2 = true) : 0 ≤ idxF (hasId t.Id) (impl_Library_stepped x t).1.Maps := by
  by_cases hs : spec_l32Step x t = true
  · rw [stepped_yesL hx hs hv] at h ⊢
    split at h
    · rw [if_pos ‹_›]; exact make_has hx hs
    · cases h
  · rw [stepped_noL hx hs] at h; cases h
theorem text_ok (hx : LibOK x) (hv : t.Value ≤ 9223372036854775807) (h : (impl_Library_stepped x t).2 = true) : (mapT (impl_Library_stepped x t).1 t.Id).2 = true := by
  rw [mapT_yes ⟨stepped_okL h, stepped_has hx hv h⟩]
theorem make_rep (hx : LibOK c.Library) (hv : t.Value ≤ 9223372036854775807) : spec_l34Make c t = if (impl_Library_stepped c.Library t).2 = true then (⟨(impl_Library_stepped c.Library t).1, c.Log⟩, (mapT (impl_Library_stepped c.Library t).1 t.Id).1) else (c, [63]) := by
  unfold spec_l34Make
  rw [step_eqL hv]
  unfold impl_StepLibrary
  rw [if_pos hx]
  by_cases h : (impl_Library_stepped c.Library t).2 = true
  · rw [if_pos h, if_neg (by simpa using h)]
    unfold spec_l34Map
    rw [if_neg (by rw [text_ok hx hv h]; simp)]
  · rw [if_neg h, if_pos (by simpa using h)]
def ofR (x : Library) (r : Library × List UInt8 × Bool) : Library × List UInt8 := if r.2.2 = true then (r.1, r.2.1) else (x, [63])
noncomputable def repW (x : Library) (w : List UInt8) (n : List Int) : Library × List UInt8 × Bool :=
  if (impl_stepFor w n).2 = true then
    if (impl_Library_stepped x (impl_stepFor w n).1).2 = true then ((impl_Library_stepped x (impl_stepFor w n).1).1, mapT (impl_Library_stepped x (impl_stepFor w n).1).1 (impl_stepFor w n).1.Id) else (x, [], false)
  else (x, impl_tell x w n)
theorem repN_all (hA : AllNum ((splitB 32 s).drop 1)) : repN x s = repW x (gt (splitB 32 s) 0) (numsW ((splitB 32 s).drop 1)) := if_pos hA
theorem repW_step (hx : LibOK c.Library) (h : impl_stepFor w n = (t, true)) (hv : t.Value ≤ 9223372036854775807) : spec_l34Make c t = (⟨(ofR c.Library (repW c.Library w n)).1, c.Log⟩, (ofR c.Library (repW c.Library w n)).2) := by
  rw [make_rep hx hv]
  unfold repW ofR
  rw [h]
  simp only [if_true]
  by_cases hs : (impl_Library_stepped c.Library t).2 = true
  · simp only [if_pos hs, text_ok hx hv hs, if_true]
  · simp only [if_neg hs]; rfl
theorem repW_tell (h : (impl_stepFor w n).2 = false) : repW x w n = (x, impl_tell x w n) := if_neg (by rw [h]; simp)
theorem ofR_tell (h : (impl_stepFor w n).2 = false) : ofR x (repW x w n) = (x, if (impl_tell x w n).2 = true then (impl_tell x w n).1 else [63]) := by
  rw [repW_tell h]; unfold ofR; split <;> simp_all
theorem for_no (h : n.length ≠ 2 ∧ n.length ≠ 3) : (impl_stepFor w n).2 = false := by
  have h2 : ¬ (n.length : Int) = 2 := by omega
  have h3 : ¬ (n.length : Int) = 3 := by omega
  unfold impl_stepFor
  simp [h2, h3]
theorem tell_no (h : 2 ≤ n.length) : impl_tell x w n = ([], false) := by
  have h1 : ¬ (n.length : Int) = 1 := by omega
  have h0 : (0 : Int) < n.length := by omega
  unfold impl_tell
  simp only [h1, and_false, if_false, if_pos h0]
theorem word_rep (hx : LibOK x) (h : n.length = 0) : spec_l34Word x w = (ofR x (repW x w n)).2 := by
  rw [ofR_tell (for_no (by omega))]
  have h1 : ¬ (n.length : Int) = 1 := by omega
  have h0 : ¬ (0 : Int) < n.length := by omega
  unfold spec_l34Word impl_tell spec_l34Number
  simp only [h1, h0, and_false, if_false, if_pos hx]
  by_cases e1 : w = [109, 97, 121]
  · subst e1; simp [hx]
  by_cases e2 : w = [116, 104, 101, 114, 101]
  · subst e2; simp [hx]
  by_cases e3 : w = [116, 111, 114, 110]
  · subst e3; simp [hx]
  by_cases e4 : w = [98, 111, 117, 103, 104, 116]
  · subst e4; simp
  by_cases e5 : w = [109, 101, 110, 100, 101, 100]
  · subst e5; simp
  simp [e1, e2, e3, e4, e5]
theorem one_rep (h : n.length = 1) : spec_l34One c w (gt n 0) = (c, (ofR c.Library (repW c.Library w n)).2) := by
  rw [ofR_tell (for_no (by omega))]
  have h1 : (n.length : Int) = 1 := by omega
  have h0 : (0 : Int) < n.length := by omega
  unfold spec_l34One impl_tell spec_l34Map
  simp only [h1, h0, and_true, if_true]
  by_cases e1 : w = [97, 116]
  · subst e1; simp
  by_cases e2 : w = [114, 101, 97, 100, 101, 114, 115]
  · subst e2; simp
  by_cases e3 : w = [116, 101, 120, 116]
  · subst e3; cases hb : (mapT c.Library (gt n 0)).2 <;> simp [hb]
  simp [e1, e2, e3]
theorem num_rng {W : List (List UInt8)} (k : Nat) : gt (numsW W) k ≤ 999999 := by
  unfold gt numsW
  rw [List.getD_eq_getElem?_getD, List.getElem?_map]
  cases W[k]? with
  | none => simp
  | some y => exact (readN_rng y).2
theorem ofR_no (h : (impl_stepFor w n).2 = false) (h2 : 2 ≤ n.length) : ofR x (repW x w n) = (x, [63]) := by
  rw [ofR_tell h, tell_no h2]; rfl
theorem two_rep (hx : LibOK c.Library) (h : n.length = 2) (h0 : gt n 0 ≤ 999999) (h1 : gt n 1 ≤ 999999) : spec_l34Two c w (gt n 0) (gt n 1) = (⟨(ofR c.Library (repW c.Library w n)).1, c.Log⟩, (ofR c.Library (repW c.Library w n)).2) := by
  have h2 : (n.length : Int) = 2 := by omega
  unfold spec_l34Two
  by_cases e1 : w = [98, 117, 121]
  · rw [if_pos e1]; exact repW_step hx (by subst e1; unfold impl_stepFor; simp [h2]) (by dsimp only; omega)
  by_cases e2 : w = [108, 101, 110, 100]
  · rw [if_neg e1, if_pos e2]; exact repW_step hx (by subst e2; unfold impl_stepFor; simp [h2]) (by dsimp only; omega)
  by_cases e3 : w = [109, 101, 110, 100]
  · rw [if_neg e1, if_neg e2, if_pos e3]; exact repW_step hx (by subst e3; unfold impl_stepFor; simp [h2]) (by dsimp only; omega)
  by_cases e4 : w = [100, 114, 111, 112]
  · rw [if_neg e1, if_neg e2, if_neg e3, if_pos e4]; exact repW_step hx (by subst e4; unfold impl_stepFor; simp [h2]) (by dsimp only; omega)
  by_cases e5 : w = [119, 101, 97, 114]
  · rw [if_neg e1, if_neg e2, if_neg e3, if_neg e4, if_pos e5]; exact repW_step hx (by subst e5; unfold impl_stepFor; simp [h2]) (by dsimp only; omega)
  rw [if_neg e1, if_neg e2, if_neg e3, if_neg e4, if_neg e5, ofR_no (by unfold impl_stepFor; simp [h2, e1, e2, e3, e4, e5]) (by omega)]
theorem three_rep (hx : LibOK c.Library) (h : n.length = 3) (h0 : gt n 2 ≤ 999999) : (if w = [98, 97, 99, 107] then spec_l34Make c ⟨3, gt n 0, gt n 1, gt n 2⟩ else if w = [104, 97, 110, 100] then spec_l34Make c ⟨5, gt n 0, gt n 1, gt n 2⟩ else (c, [63]))
    = (⟨(ofR c.Library (repW c.Library w n)).1, c.Log⟩, (ofR c.Library (repW c.Library w n)).2) := by
  have h2 : (n.length : Int) = 3 := by omega
  by_cases e1 : w = [98, 97, 99, 107]
  · rw [if_pos e1]; exact repW_step hx (by subst e1; unfold impl_stepFor; simp [h2]) (by dsimp only; omega)
  by_cases e2 : w = [104, 97, 110, 100]
  · rw [if_neg e1, if_pos e2]; exact repW_step hx (by subst e2; unfold impl_stepFor; simp [h2]) (by dsimp only; omega)
  rw [if_neg e1, if_neg e2, ofR_no (by unfold impl_stepFor; simp [h2, e1, e2]) (by omega)]
theorem one_word (h : (splitB 32 s).length = 1) : gt (splitB 32 s) 0 = s := by
  have h2 := splitB_two 32 s
  rw [splitB_none (fun hm => by have := h2.2 hm; omega)]; rfl
theorem run_lib (hx : LibOK c.Library) : runS c s = (⟨(ofR c.Library (repN c.Library s)).1, c.Log⟩, (ofR c.Library (repN c.Library s)).2) := by
  unfold runS
  by_cases hA : AllNum ((splitB 32 s).drop 1)
  · rw [if_pos hA, repN_all hA]
    have hl : (numsW ((splitB 32 s).drop 1)).length + 1 = (splitB 32 s).length := by
      have := splitB_len 32 s; unfold numsW; rw [List.length_map, List.length_drop]; omega
    have hr := fun k => num_rng (W := (splitB 32 s).drop 1) k
    have ht : ∀ {w : List UInt8} {n : List Int}, (impl_stepFor w n).2 = false → (ofR c.Library (repW c.Library w n)).1 = c.Library := fun h => by rw [ofR_tell h]
    by_cases h0 : (numsW ((splitB 32 s).drop 1)).length = 0
    · rw [if_pos h0, one_word (by omega), word_rep hx h0, ht (for_no (by omega))]
    rw [if_neg h0]
    by_cases h1 : (numsW ((splitB 32 s).drop 1)).length = 1
    · rw [if_pos h1, one_rep h1, ht (for_no (by omega))]
    rw [if_neg h1]
    by_cases h2 : (numsW ((splitB 32 s).drop 1)).length = 2
    · rw [if_pos h2]; exact two_rep hx h2 (hr 0) (hr 1)
    rw [if_neg h2]
    by_cases h3 : (numsW ((splitB 32 s).drop 1)).length = 3
    · rw [if_pos h3]; exact three_rep hx h3 (hr 2)
    rw [if_neg h3, ofR_no (for_no (by omega)) (by omega)]
  · rw [if_neg hA]; unfold repN ofR; rw [if_neg hA]; rfl
theorem rec_rngS (h : RecOK ⟨s, []⟩) : 1 ≤ (s.length : Int) ∧ (s.length : Int) ≤ 160 := (rec_rng h).1
theorem lib_of : (ofR x (repN x s)).1 = libN x s := by unfold ofR libN; split <;> rfl
theorem rep_len (hx : LibOK x) : (repN x s).1.Maps.length ≤ 8 ∧ (repN x s).1.Away.length ≤ 8 := by
  have h := lib_rng hx
  unfold repN
  split
  · split
    · split
      · exact stepped_lenL _ _
      · exact ⟨h.1, h.2.1⟩
    · exact ⟨h.1, h.2.1⟩
  · exact ⟨h.1, h.2.1⟩
theorem lib_len8 (hx : LibOK x) : (libN x s).Maps.length ≤ 8 ∧ (libN x s).Away.length ≤ 8 := by
  unfold libN; split
  · exact rep_len hx
  · have h := lib_rng hx; exact ⟨h.1, h.2.1⟩
theorem run_len (hx : LibOK c.Library) : (runS c s).1.Library.Maps.length ≤ 8 ∧ (runS c s).1.Library.Away.length ≤ 8 := by
  rw [run_lib hx, lib_of]; exact lib_len8 hx
theorem exec_no (h : ¬ ConOK c) : execN c s = (c, [110, 111]) := if_pos h
theorem exec_bad (h : ConOK c) (h2 : ¬ RecOK ⟨s, []⟩) : execN c s = (c, [98, 97, 100]) := by unfold execN; rw [if_neg (fun q => q h), if_pos h2]
theorem exec_full (h : ConOK c) (h2 : RecOK ⟨s, []⟩) (h3 : c.Log.Count = 60) : execN c s = (c, [102, 117, 108, 108]) := by unfold execN; rw [if_neg (fun q => q h), if_neg (fun q => q h2), if_pos h3]
theorem exec_yes (h : ConOK c) (h2 : RecOK ⟨s, []⟩) (h3 : ¬ c.Log.Count = 60) : execN c s = (⟨libN c.Library s, (appN c.Log ⟨s, ansN c.Library s⟩).1⟩, ansN c.Library s) := by unfold execN; rw [if_neg (fun q => q h), if_neg (fun q => q h2), if_neg h3]
theorem exec_q (h : ConOK c) (h2 : RecOK ⟨s, []⟩) (h3 : ¬ c.Log.Count = 60) (hq : (!(repN c.Library s).2.2) = true) : execN c s = (⟨c.Library, (appN c.Log ⟨s, [63]⟩).1⟩, [63]) := by
  have hn : ¬ (repN c.Library s).2.2 = true := by simpa using hq
  rw [exec_yes h h2 h3]; unfold libN ansN; rw [if_neg hn, if_neg hn]
theorem exec_l (h : ConOK c) (h2 : RecOK ⟨s, []⟩) (h3 : ¬ c.Log.Count = 60) (hq : (!(repN c.Library s).2.2) = false) (hl : 200 < (repN c.Library s).2.1.length) : execN c s = (⟨(repN c.Library s).1, (appN c.Log ⟨s, [108, 111, 110, 103]⟩).1⟩, [108, 111, 110, 103]) := by
  have hn : (repN c.Library s).2.2 = true := by simpa using hq
  rw [exec_yes h h2 h3]; unfold libN ansN; rw [if_pos hn, if_pos hn, if_pos hl]
theorem exec_y (h : ConOK c) (h2 : RecOK ⟨s, []⟩) (h3 : ¬ c.Log.Count = 60) (hq : (!(repN c.Library s).2.2) = false) (hl : ¬ 200 < (repN c.Library s).2.1.length) : execN c s = (⟨(repN c.Library s).1, (appN c.Log ⟨s, (repN c.Library s).2.1⟩).1⟩, (repN c.Library s).2.1) := by
  have hn : (repN c.Library s).2.2 = true := by simpa using hq
  rw [exec_yes h h2 h3]; unfold libN ansN; rw [if_pos hn, if_pos hn, if_neg hl]
theorem ans_run (h : ConOK c) : (if 200 < (runS c s).2.length then [108, 111, 110, 103] else (runS c s).2) = ansN c.Library s := by
  rw [run_lib h.1]; unfold ofR ansN
  split <;> simp_all
theorem exec_Sl (h : ConOK c) (h2 : RecOK ⟨s, []⟩) (h3 : ¬ c.Log.Count = 60) (hl : 200 < (runS c s).2.length) : execN c s = (⟨(runS c s).1.Library, (appN c.Log ⟨s, [108, 111, 110, 103]⟩).1⟩, [108, 111, 110, 103]) := by
  have e := ans_run (s := s) h
  rw [if_pos hl] at e
  rw [exec_yes h h2 h3, ← e, run_lib h.1, lib_of]
theorem exec_Sy (h : ConOK c) (h2 : RecOK ⟨s, []⟩) (h3 : ¬ c.Log.Count = 60) (hl : ¬ 200 < (runS c s).2.length) : execN c s = (⟨(runS c s).1.Library, (appN c.Log ⟨s, (runS c s).2⟩).1⟩, (runS c s).2) := by
  have e := ans_run (s := s) h
  rw [if_neg hl] at e
  rw [exec_yes h h2 h3, ← e]
  congr 2
  rw [run_lib h.1, lib_of]
end
end Go.Proofs.YtndcchndcghmoaaGreatDoor
namespace Go.Proofs.YtndcchndcghmoaaGreatDoor
open Go Go.RowKit Fw
section
variable {c : Console} {s : List UInt8}
theorem exec_lens (hM : c.Library.Maps.length ≤ 1048576) (hA : c.Library.Away.length ≤ 1048576) : (execN c s).1.Library.Maps.length ≤ 1048576 ∧ (execN c s).1.Library.Away.length ≤ 1048576 := by
  unfold execN
  split
  · exact ⟨hM, hA⟩
  split
  · exact ⟨hM, hA⟩
  split
  · exact ⟨hM, hA⟩
  have h : ConOK c := Classical.not_not.1 ‹_›
  have := lib_len8 (s := s) h.1
  dsimp only; omega
end
end Go.Proofs.YtndcchndcghmoaaGreatDoor
namespace Go.Proofs.YtndcchndcghmoaaGreatDoor
open Go Go.RowKit Fw
end Go.Proofs.YtndcchndcghmoaaGreatDoor
namespace Go.Proofs.YtndcchndcghmoaaGreatDoor
open Go Go.RowKit Fw
@[reducible] def mkStr (k : Int) : List UInt8 := mkT k
noncomputable def scrF (c : Console) : List (List UInt8) → List (List UInt8)
  | [] => []
  | l :: r => (execN c l).2 :: scrF (execN c l).1 r
def ScrOK (c : Console) (s : List UInt8) : Prop := ConOK c ∧ (splitB 10 s).length ≤ 30 ∧ s.length ≤ 4000
noncomputable instance (c : Console) (s : List UInt8) : Decidable (ScrOK c s) := Classical.propDecidable _
noncomputable def scrN (c : Console) (s : List UInt8) : List (List UInt8) × Bool := if ScrOK c s then (scrF c (splitB 10 s), true) else ([], false)
noncomputable def repF (c : Console) : List LogRecord → Nat
  | [] => 0
  | e :: r => if (execN c e.Command).2 = e.Reply then repF (execN c e.Command).1 r + 1 else 0
def Sml (c : Console) (b : Nat) : Prop := (c.Library.Maps.length ≤ 1048576 ∧ c.Library.Away.length ≤ 1048576) ∧ c.Log.Durable.length + c.Log.Pending.length ≤ b
section
variable {c o : Console} {s x : List UInt8} {L R : List (List UInt8)} {k n b : Nat} {E : List LogRecord} {e : LogRecord}
theorem exec_sml (h : Sml c b) : Sml (execN c s).1 (b + 406) := by
  refine ⟨exec_lens h.1.1 h.1.2, ?_⟩
  have hb := h.2
  unfold execN
  split
  · dsimp only; omega
  split
  · dsimp only; omega
  split
  · dsimp only; omega
  have := appN_len c.Log ⟨s, ansN c.Library s⟩
  dsimp only; omega
theorem sml_of (h : ConOK c) : Sml c 24360 := by
  have h1 := con_rng h; have h2 := log_rng h.2
  exact ⟨⟨by omega, by omega⟩, h2.1⟩
theorem scr_ok2 (h : ScrOK c s) : (splitB 10 s).length ≤ 30 ∧ s.length ≤ 4000 := h.2
theorem scr_okI (hn : n = (splitB 10 s).length) (h : ¬ (¬ ConOK c ∨ 30 < (n : Int) ∨ 4000 < (s.length : Int))) : ScrOK c s :=
  ⟨Classical.not_not.1 fun q => h (.inl q), Nat.not_lt.1 fun q => h (.inr (.inl (by omega))), Nat.not_lt.1 fun q => h (.inr (.inr (by omega)))⟩
theorem scr_noI (hn : n = (splitB 10 s).length) (h : ¬ ConOK c ∨ 30 < (n : Int) ∨ 4000 < (s.length : Int)) : scrN c s = ([], false) :=
  if_neg fun q => h.elim (fun h => h q.1) fun h => h.elim (fun h => by have := q.2.1; omega) fun h => by have := q.2.2; omega
theorem scr_okS (hn : n = (splitB 10 s).length) (h : ¬ (¬ ConOK c ∨ 4000 < (s.length : Int) ∨ 30 < (n : Int))) : ScrOK c s :=
  scr_okI hn fun q => h (q.elim .inl fun q => q.elim (fun q => .inr (.inr q)) fun q => .inr (.inl q))
theorem scr_noS (hn : n = (splitB 10 s).length) (h : ¬ ConOK c ∨ 4000 < (s.length : Int) ∨ 30 < (n : Int)) : scrN c s = ([], false) :=
  scr_noI hn (h.elim .inl fun q => q.elim (fun q => .inr (.inr q)) fun q => .inr (.inl q))
def STo (c : Console) (L : List (List UInt8)) (o : Console) (R : List (List UInt8)) (k : Nat) : Prop := R.length = k ∧ scrF c L = R ++ scrF o (L.drop k) ∧ Sml o (24360 + 406 * k)
theorem scrF_len : ∀ (c : Console) (L : List (List UInt8)), (scrF c L).length = L.length
  | _, [] => rfl
  | c, l :: r => by
    have := scrF_len (execN c l).1 r
    simp only [scrF, List.length_cons]; omega
theorem scr_len (c : Console) (s : List UInt8) : (scrN c s).1.length ≤ 30 := by
  unfold scrN; split
  · rename_i h; rw [scrF_len]; exact h.2.1
  · simp
theorem STo.zero (h : ConOK c) : STo c L c [] 0 := ⟨rfl, rfl, sml_of h⟩
theorem STo.next (h : STo c L o R k) (hx : L[k]? = some x) : STo c L (execN o x).1 (R ++ [(execN o x).2]) (k + 1) := by
  obtain ⟨h1, h2, h3⟩ := h
  refine ⟨by simp [h1], ?_, by have := exec_sml (s := x) h3; rwa [Nat.mul_succ, ← Nat.add_assoc]⟩
  rw [h2, List.drop_eq_getElem_cons (List.getElem?_eq_some_iff.1 hx).1, (List.getElem?_eq_some_iff.1 hx).2]
  show R ++ ((execN o x).2 :: scrF (execN o x).1 (L.drop (k + 1))) = _
  simp
theorem STo.all (h : STo c (splitB 10 s) o R k) (hk : (splitB 10 s).length ≤ k) (hs : ScrOK c s) : scrN c s = (R, true) := by
  unfold scrN
  rw [if_pos hs, h.2.1, List.drop_of_length_le hk]
  show (R ++ [], true) = _
  rw [List.append_nil]
def RTo (c : Console) (E : List LogRecord) (o : Console) (k : Nat) : Prop := repF c E = k + repF o (E.drop k) ∧ Sml o (24360 + 406 * k)
theorem RTo.zero (h : Sml c 24360) : RTo c E c 0 := ⟨by simp, h⟩
theorem rep_drop (he : E[k]? = some e) : E.drop k = e :: E.drop (k + 1) := by
  rw [List.drop_eq_getElem_cons (List.getElem?_eq_some_iff.1 he).1, (List.getElem?_eq_some_iff.1 he).2]
theorem RTo.next (h : RTo c E o k) (he : E[k]? = some e) (hr : (execN o e.Command).2 = e.Reply) : RTo c E (execN o e.Command).1 (k + 1) := by
  refine ⟨?_, by have := exec_sml (s := e.Command) h.2; rwa [Nat.mul_succ, ← Nat.add_assoc]⟩
  rw [h.1, rep_drop he]
  show k + (if (execN o e.Command).2 = e.Reply then _ else _) = _
  rw [if_pos hr]; omega
theorem RTo.stop (h : RTo c E o k) (he : E[k]? = some e) (hr : ¬ (execN o e.Command).2 = e.Reply) : repF c E = k := by
  rw [h.1, rep_drop he]
  show k + (if (execN o e.Command).2 = e.Reply then _ else _) = _
  rw [if_neg hr]; omega
theorem RTo.all (h : RTo c E o k) (hk : E.length ≤ k) (hk2 : k ≤ E.length) : repF c E = E.length := by
  rw [h.1, List.drop_of_length_le hk]
  show k + 0 = _
  omega
end
end Go.Proofs.YtndcchndcghmoaaGreatDoor
namespace Go.Proofs.YtndcchndcghmoaaGreatDoor
open Go Go.RowKit Fw
theorem c_strings_Split1 (w : World) (s : List UInt8) (p : List UInt8) (hp0 : (s.length : Int) < 4294967281) {c : UInt8} (hp1 : p = [c]) (hE : EnvW w) : Calls Tryz.prog 56 #[str s, str p] w fun e w' => ∃ (A1' : Option Addr) (n1' c1' : Nat), e = .returned (.slice A1' n1' c1') ∧ SlO w' w.heap.size encS 1 9 A1' n1' c1' (splitB c s) ∧ Lo w w' := by
  subst hp1
  have h := c_strings_Split w s [c] hp0 (by simp) hE
  rw [split_eqB] at h
  exact h
end Go.Proofs.YtndcchndcghmoaaGreatDoor
namespace Go.Proofs.YtndcchndcghmoaaGreatDoor
open Go Go.RowKit Fw
set_option maxRecDepth 10000
set_option maxHeartbeats 2000000
set_option linter.unusedVariables false
theorem bld37_0_1 (a0_0 : Value) (a0_1 : Value) (a0_2 : Value) (a0_3 : Value) (a0_4 : Value) (a1_0 : Value) (a1_1 : Value) (a1_2 : Value) : Tryz.prog.built 37 [(0, .agg (List.toArray [a0_0, a0_1, a0_2, a0_3, a0_4])), (1, .agg (List.toArray [a1_0, a1_1, a1_2]))] = some (List.toArray [a0_0, a0_1, a0_2, a0_3, a0_4, a1_0, a1_1, a1_2]) := by kernel_rfl
theorem ent83 : Ent Tryz.prog 83 := en Tryz.func83
theorem ent84 : Ent Tryz.prog 84 := en Tryz.func84
theorem ent85 : Ent Tryz.prog 85 := en Tryz.func85
theorem ent86 : Ent Tryz.prog 86 := en Tryz.func86
theorem c_spec_l34Own (w : World) (c : Console) {Ac1 : Option Addr} {nc1 cc1 Bc1 : Nat} (hc1 : SlR w Bc1 encLMap 3 Ac1 nc1 cc1 c.Library.Maps) {Ac2 : Option Addr} {nc2 cc2 Bc2 : Nat} (hc2 : SlR w Bc2 encAway 2 Ac2 nc2 cc2 c.Library.Away) (hp0 : (nc1 : Int) ≤ 1048576) (hp1 : (nc2 : Int) ≤ 1048576) : Calls Tryz.prog 41 #[.agg (List.toArray [.slice Ac1 nc1 cc1, .slice Ac2 nc2 cc2, .int .i64 c.Library.Bought, .int .i64 c.Library.Dropped, .int .i64 c.Library.Mended, str c.Log.Durable, str c.Log.Pending, .int .i64 c.Log.Count])] w fun e w' => ∃ (A1' : Option Addr) (n1' c1' : Nat) (A2' : Option Addr) (n2' c2' : Nat), e = .returned (.agg (List.toArray [.slice A1' n1' c1', .slice A2' n2' c2', .int .i64 c.Library.Bought, .int .i64 c.Library.Dropped, .int .i64 c.Library.Mended, str c.Log.Durable, str c.Log.Pending, .int .i64 c.Log.Count])) ∧ SlO w' w.heap.size encLMap 3 102 A1' n1' c1' c.Library.Maps ∧ SlO w' w.heap.size encAway 2 129 A2' n2' c2' c.Library.Away ∧ Dj A1' A2' ∧ Lo w w' := by
 refine calls_W 9 Tryz.func41 rfl rfl rfl ?_
 have hbdc1 := hc1.bound
 have hlec1 := hc1.len
 have hBbc1 := hc1.bd
 have hbdc2 := hc2.bound
 have hlec2 := hc2.len
 have hBbc2 := hc2.bd
 refine Ws (Wr (SR.box (v := .agg (List.toArray _)) (l := [.slice Ac1 nc1 cc1, .slice Ac2 nc2 cc2, .int .i64 c.Library.Bought, .int .i64 c.Library.Dropped, .int .i64 c.Library.Mended, str c.Log.Durable, str c.Log.Pending, .int .i64 c.Log.Count]) rfl rfl ?_))
 intro g1 w2 hg3 hk4 hs5 hb6
 refine SR.alloc (l := [.slice none 0 0, .slice none 0 0, .int .i64 0, .int .i64 0, .int .i64 0, str ([] : List UInt8), str ([] : List UInt8), .int .i64 0]) tz37 rfl ?_
 intro g9 w10 hg11 hk12 hs13 hb14
 refine Qn (Ws (W.regA (Kp (fun b_ => b_ = g9) w10) (fun f' w' => ∃ (A58 : Option Addr) (n59 : Nat) (c60 : Nat) (A62 : Option Addr) (n63 : Nat) (c64 : Nat), At f' [(2, .pointer (pA g9))] ∧ (Kp (fun b_ => b_ = g9) w10 w') ∧ (SlO w' w10.heap.size encLMap 3 102 A58 n59 c60 c.Library.Maps) ∧ (SlO w' w10.heap.size encAway 2 129 A62 n63 c64 c.Library.Away) ∧ (Blk w' g9 37 [.slice A58 n59 c60, .slice A62 n63 c64, .int .i64 c.Library.Bought, .int .i64 c.Library.Dropped, .int .i64 c.Library.Mended, str c.Log.Durable, str c.Log.Pending, .int .i64 c.Log.Count]) ∧ Dj A58 A62 ∧ (n59 = (c.Library.Maps).length) ∧ ((n59 : Int) ≤ 9223372036854775807) ∧ (n63 = (c.Library.Away).length) ∧ ((n63 : Int) ≤ 9223372036854775807)) mo ?_ ?_))
 ·intro w89 hk90
  have hz91 := hk90.size
  refine Ak 0 rfl (kr hk90) (fun w' hw' => fA fa37_0 rfl) <| Ak 1 rfl (kr hk90) (fun w' hw' => r_lda (l := (cLb Ac1 nc1 cc1 Ac2 nc2 cc2 c.Library)) agg34 rfl (fun _ _ hu => ((hb6.lo hk12).kn hw' (by omega)).cells (vs := (cLb Ac1 nc1 cc1 Ac2 nc2 cc2 c.Library)) rfl hu) rfl) <| Ak 3 rfl (kr hk90) (fun w' hw' => fA fa37_1 rfl) <| Ak 4 rfl (kr hk90) (fun w' hw' => r_lda (l := [str c.Log.Durable, str c.Log.Pending, .int .i64 c.Log.Count]) agg35 rfl (fun _ _ hu => ((hb6.lo hk12).kn hw' (by omega)).cells (vs := [str c.Log.Durable, str c.Log.Pending, .int .i64 c.Log.Count]) rfl hu) rfl) <| Ab 2 rfl (SR.call ent79 (c_spec_l32Own w89 c.Library (((hc1.lo hk4).lo hk12).lo hk90) (((hc2.lo hk4).lo hk12).lo hk90) (by omega) (by omega)) rfl ?_)
  rintro e w93 ⟨A95, n96, c97, A99, n100, c101, rfl, hO98, hO102, hd103, hk94⟩
  refine ⟨_, rfl, ?_⟩
  have hz104 := hk94.size
  have hS106 := ((Kp.refl w10 : Kp (fun b_ => b_ = g9) w10 w10).lo hk90).lo hk94
  have hl107 := hO98.len
  have hl108 := hO98.rd.bound
  have hl109 := hO102.len
  have hl110 := hO102.rd.bound
  refine Qn ⟨hS106, _, rfl, (Ak 5 rfl hS106 (fun w' hw' => r_build (vs := [(0, .agg (List.toArray (cLb A95 n96 c97 A99 n100 c101 c.Library))), (1, .agg (List.toArray [str c.Log.Durable, str c.Log.Pending, .int .i64 c.Log.Count]))]) rfl (bld37_0_1 _ _ _ _ _ _ _ _)) <| Ab 6 rfl (Qw (o := 0) (vs := [.slice A95 n96 c97, .slice A99 n100 c101, .int .i64 c.Library.Bought, .int .i64 c.Library.Dropped, .int .i64 c.Library.Mended, str c.Log.Durable, str c.Log.Pending, .int .i64 c.Log.Count]) agg37.2 rfl rfl rfl rfl ((hb14.lo hk90).lo hk94) ler rfl ?_))⟩
  intro w111 hk112 hs113 hb114
  have hS117 := hS106.step hk112 (fun _ _ e => e)
  refine Qn ⟨hS117, _, rfl, (AH.done (by kernel_rfl) (⟨A95, n96, c97, A99, n100, c101, ⟨rfl, trivial⟩, hS117, ((hO98.kn hk112).down), ((hO102.kn hk112).down), hb114, hd103, hl107, hl108, hl109, hl110⟩))⟩
 rintro f119 w120 ⟨A58, n59, c60, A62, n63, c64, hat122, hR121, hm85, hm86, hm87, hd88, hl70, hl71, hl72, hl73⟩
 rw [← sets_of_at hat122]
 have hz123 := hR121.size
 refine W.ret (retC rfl rfl agg37 hm87 rfl (⟨A58, n59, c60, A62, n63, c64, eR rfl, (hm85.down), (hm86.down), hd88, ((((Lo.refl w).lo hk4).lo hk12).new hR121 (by omega))⟩))
theorem c_spec_l34Run (w : World) (c : Console) {Ac1 : Option Addr} {nc1 cc1 Bc1 : Nat} (hc1 : SlO w Bc1 encLMap 3 102 Ac1 nc1 cc1 c.Library.Maps) {Ac2 : Option Addr} {nc2 cc2 Bc2 : Nat} (hc2 : SlO w Bc2 encAway 2 129 Ac2 nc2 cc2 c.Library.Away) (s : List UInt8) (hdc_Library_Maps_c2 : Dj Ac1 Ac2) (hp0 : (nc1 : Int) ≤ 8) (hp1 : (nc2 : Int) ≤ 8) (hp2 : LibOK c.Library) (hp3 : (s.length : Int) ≤ 200) : Calls Tryz.prog 44 #[.agg (List.toArray [.slice Ac1 nc1 cc1, .slice Ac2 nc2 cc2, .int .i64 c.Library.Bought, .int .i64 c.Library.Dropped, .int .i64 c.Library.Mended, str c.Log.Durable, str c.Log.Pending, .int .i64 c.Log.Count]), str s] w fun e w' => ∃ (A1' : Option Addr) (n1' c1' : Nat) (A2' : Option Addr) (n2' c2' : Nat), e = .returned (.tuple (List.toArray [.agg (List.toArray [.slice A1' n1' c1', .slice A2' n2' c2', .int .i64 (((runS c s).1).Library.Bought), .int .i64 (((runS c s).1).Library.Dropped), .int .i64 (((runS c s).1).Library.Mended), str (((runS c s).1).Log.Durable), str (((runS c s).1).Log.Pending), .int .i64 (((runS c s).1).Log.Count)]), str ((runS c s).2)])) ∧ SlO w' Bc1 encLMap 3 102 A1' n1' c1' (((runS c s).1).Library.Maps) ∧ SlO w' Bc2 encAway 2 129 A2' n2' c2' (((runS c s).1).Library.Away) ∧ Dj A1' A2' ∧ (∀ b_, A1' = some ⟨b_, 0, none⟩ → (Ac1 = some ⟨b_, 0, none⟩ ∨ Ac2 = some ⟨b_, 0, none⟩) ∨ w.heap.size ≤ b_) ∧ (∀ b_, A2' = some ⟨b_, 0, none⟩ → (Ac1 = some ⟨b_, 0, none⟩ ∨ Ac2 = some ⟨b_, 0, none⟩) ∨ w.heap.size ≤ b_) ∧ Lo w w' := by
 refine calls_W 109 Tryz.func44 rfl rfl rfl ?_
 have hcpc1 := hc1.rd.cap
 have hbbc1 := hc1.rd.bd
 have hbdc1 := hc1.rd.bound
 have hlec1 := hc1.len
 have hBbc1 := hc1.bd
 have hcpc2 := hc2.rd.cap
 have hbbc2 := hc2.rd.bd
 have hbdc2 := hc2.rd.bound
 have hlec2 := hc2.len
 have hBbc2 := hc2.bd
 refine Ws (Wr (SR.box (v := .agg (List.toArray _)) (l := [.slice Ac1 nc1 cc1, .slice Ac2 nc2 cc2, .int .i64 c.Library.Bought, .int .i64 c.Library.Dropped, .int .i64 c.Library.Mended, str c.Log.Durable, str c.Log.Pending, .int .i64 c.Log.Count]) rfl rfl ?_))
 intro g1 w2 hg3 hk4 hs5 hb6
 have hd9 := SlO.ne (g := g1) hc1
 have hd10 := SlO.ne (g := g1) hc2
 refine SR.alloc (l := [.slice none 0 0, .slice none 0 0, .int .i64 0, .int .i64 0, .int .i64 0, str ([] : List UInt8), str ([] : List UInt8), .int .i64 0]) tz37 rfl ?_
 intro g11 w12 hg13 hk14 hs15 hb16
 have hd19 := SlO.ne (g := g11) (hc1.lo hk4)
 have hd20 := SlO.ne (g := g11) (hc2.lo hk4)
 refine Q (r_as (v := str ([] : List UInt8)) rfl) <| Qn (Ws ?_)
 have hm21 := (hc1.lo hk4).lo hk14
 have hm22 := (hc2.lo hk4).lo hk14
 refine Wr (Q (mS rfl) <| SR.call ent55 (c_spec_l1Split w12 s (32 : UInt8) (by first | omega | (simp only [List.length_append, List.length_cons, List.length_nil, List.length_take, List.length_drop]; omega))) rfl ?_)
 rintro e w23 ⟨A25, n26, c27, rfl, hO28, hk24⟩
 refine ⟨_, rfl, ?_⟩
 have hz29 := hk24.size
 have hl31 := hO28.len
 have hl32 := hO28.rd.bound
 have hq33 := splitB_len (32 : UInt8) s
 refine Q (aL rfl) <| Qn (Ws (Wr (SR.lit (vs := []) (L := ([] : List Int)) (enc := encI) tel93 (fun _ => rfl) rfl rfl rfl (by decide) ?_)))
 intro g35 w36 hg37 hk38 hO39
 have hz40 := hk38.size
 refine Q (aL rfl) <| Qn (Ws (Ws (Wr (Q (aI rfl) <| Qn (W.block (W.loop (σ := Nat × (Option Addr) × Nat × Nat) (fun g => [(1, str s), (2, .pointer (pA g1)), (4, .pointer (pA g11)), (6, .slice A25 n26 c27), (7, .slice g.2.1 g.2.2.1 g.2.2.2), (8, .int .i64 (g.1 : Int))]) (fun g w' => (Lo w w') ∧ (Blk w' g1 37 [.slice Ac1 nc1 cc1, .slice Ac2 nc2 cc2, .int .i64 c.Library.Bought, .int .i64 c.Library.Dropped, .int .i64 c.Library.Mended, str c.Log.Durable, str c.Log.Pending, .int .i64 c.Log.Count]) ∧ (SlO w' Bc1 encLMap 3 102 Ac1 nc1 cc1 c.Library.Maps) ∧ (SlO w' Bc2 encAway 2 129 Ac2 nc2 cc2 c.Library.Away) ∧ (Blk w' g11 37 [.slice none 0 0, .slice none 0 0, .int .i64 0, .int .i64 0, .int .i64 0, str ([] : List UInt8), str ([] : List UInt8), .int .i64 0]) ∧ (SlO w' w12.heap.size encS 1 9 A25 n26 c27 (splitB (32 : UInt8) s)) ∧ (SlO w' w.heap.size encI 1 3 g.2.1 g.2.2.1 g.2.2.2 (nmW s g.1)) ∧ (¬ g.2.1 = some ⟨g1, 0, none⟩) ∧ (∀ b_, g.2.1 = some ⟨b_, 0, none⟩ → ¬ Ac1 = some ⟨b_, 0, none⟩) ∧ (∀ b_, g.2.1 = some ⟨b_, 0, none⟩ → ¬ Ac2 = some ⟨b_, 0, none⟩) ∧ (¬ g.2.1 = some ⟨g11, 0, none⟩) ∧ (∀ b_, g.2.1 = some ⟨b_, 0, none⟩ → ¬ A25 = some ⟨b_, 0, none⟩) ∧ ((1 ≤ g.1 ∧ g.1 ≤ (splitB (32 : UInt8) s).length) ∧ AllNum (((splitB (32 : UInt8) s).take g.1).drop 1))) (fun g => (splitB (32 : UInt8) s).length - g.1) (1, (pA g35), 0, 0) ?_ ?_ ?_))))))
 ·exact (At.r rfl)
 ·show (Lo w w36) ∧ (Blk w36 g1 37 [.slice Ac1 nc1 cc1, .slice Ac2 nc2 cc2, .int .i64 c.Library.Bought, .int .i64 c.Library.Dropped, .int .i64 c.Library.Mended, str c.Log.Durable, str c.Log.Pending, .int .i64 c.Log.Count]) ∧ (SlO w36 Bc1 encLMap 3 102 Ac1 nc1 cc1 c.Library.Maps) ∧ (SlO w36 Bc2 encAway 2 129 Ac2 nc2 cc2 c.Library.Away) ∧ (Blk w36 g11 37 [.slice none 0 0, .slice none 0 0, .int .i64 0, .int .i64 0, .int .i64 0, str ([] : List UInt8), str ([] : List UInt8), .int .i64 0]) ∧ (SlO w36 w12.heap.size encS 1 9 A25 n26 c27 (splitB (32 : UInt8) s)) ∧ (SlO w36 w.heap.size encI 1 3 (pA g35) 0 0 (nmW s 1)) ∧ (¬ (pA g35) = some ⟨g1, 0, none⟩) ∧ (∀ b_, (pA g35) = some ⟨b_, 0, none⟩ → ¬ Ac1 = some ⟨b_, 0, none⟩) ∧ (∀ b_, (pA g35) = some ⟨b_, 0, none⟩ → ¬ Ac2 = some ⟨b_, 0, none⟩) ∧ (¬ (pA g35) = some ⟨g11, 0, none⟩) ∧ (∀ b_, (pA g35) = some ⟨b_, 0, none⟩ → ¬ A25 = some ⟨b_, 0, none⟩) ∧ ((1 ≤ 1 ∧ 1 ≤ (splitB (32 : UInt8) s).length) ∧ AllNum (((splitB (32 : UInt8) s).take 1).drop 1))
  exact ⟨(((((Lo.refl w).lo hk4).lo hk14).lo hk24).lo hk38), ((hb6.lo hk14).lo hk24).lo hk38, ((hm21.lo hk24).lo hk38), ((hm22.lo hk24).lo hk38), ((hb16.lo hk24).lo hk38), hO28.lo hk38, (SlO.eqv (hO39.down) (by exact nm_one s)), (fun e' => by have := hO39.base_le e'; omega), (fun b_ h h' => (SlO.ne (g := g35) (hm21.lo hk24)) (h'.trans h.symm)), (fun b_ h h' => (SlO.ne (g := g35) (hm22.lo hk24)) (h'.trans h.symm)), (fun e' => by have := hO39.base_le e'; omega), (fun b_ h h' => (SlO.ne (g := g35) hO28) (h'.trans h.symm)), (by (try dsimp only); exact ⟨by omega, allN_zero _⟩)⟩
 ·rintro ⟨k, A48, n48, c48⟩ f49 w50 hP52
  obtain ⟨hB51, hm53, hm54, hm55, hm56, hm57, hO58, hd60, hd61, hd62, hd63, hd64, hi59⟩ : (Lo w w50) ∧ (Blk w50 g1 37 [.slice Ac1 nc1 cc1, .slice Ac2 nc2 cc2, .int .i64 c.Library.Bought, .int .i64 c.Library.Dropped, .int .i64 c.Library.Mended, str c.Log.Durable, str c.Log.Pending, .int .i64 c.Log.Count]) ∧ (SlO w50 Bc1 encLMap 3 102 Ac1 nc1 cc1 c.Library.Maps) ∧ (SlO w50 Bc2 encAway 2 129 Ac2 nc2 cc2 c.Library.Away) ∧ (Blk w50 g11 37 [.slice none 0 0, .slice none 0 0, .int .i64 0, .int .i64 0, .int .i64 0, str ([] : List UInt8), str ([] : List UInt8), .int .i64 0]) ∧ (SlO w50 w12.heap.size encS 1 9 A25 n26 c27 (splitB (32 : UInt8) s)) ∧ (SlO w50 w.heap.size encI 1 3 A48 n48 c48 (nmW s k)) ∧ (¬ A48 = some ⟨g1, 0, none⟩) ∧ Dj A48 Ac1 ∧ Dj A48 Ac2 ∧ (¬ A48 = some ⟨g11, 0, none⟩) ∧ Dj A48 A25 ∧ ((1 ≤ k ∧ k ≤ (splitB (32 : UInt8) s).length) ∧ AllNum (((splitB (32 : UInt8) s).take k).drop 1)) := hP52
  refine (?_ : W _ _ _ _ _ (act _ (sets f49 [(1, str s), (2, .pointer (pA g1)), (4, .pointer (pA g11)), (6, .slice A25 n26 c27), (7, .slice A48 n48 c48), (8, .int .i64 (k : Int))])) _)
  have hzw50 := hB51.size
  have hl65 := hm53.lt
  have hl66 := hm56.lt
  have hl67 := hO58.len
  have hl68 := hO58.rd.bound
  have hq69 : 1 ≤ k ∧ k ≤ (splitB (32 : UInt8) s).length := hi59.1
  have hq70 : (nmW s k).length + 1 = k := nums_len (s := s) (k := k) (by omega)
  have hq71 : (splitB (32 : UInt8) s).length ≤ s.length + 1 := splitB_max (32 : UInt8) s
  refine Ws (Ws (Wr (Q (mI rfl) <| Q (mL rfl) <| Q (r_len und44 rfl) <| Q (r_lt rfl rfl) <| Qn (W.cond_d rfl (fun h72 => ?_) (fun h72 => ?_)))))
  ·refine W.skip (Ws (W.block (Ws (Wr (Q (mL rfl) <| Q (mI rfl) <| ?_)))))
   have hx74 := (hm57.rd).elem (i := k) (by omega)
   have hq75 := splitB_el hx74
   refine Q (r_ixR tsl44 (hm57.rd) rfl rfl (by omega)) <| Q (r_ld (v := str (gt (splitB (32 : UInt8) s) k)) sca9 rfl ((hm57.rd).cell0 hx74 rfl)) <| Qv ent83 (c_spec_ParseInt w50 (gt (splitB (32 : UInt8) s) k)) rfl fun w76 hk77 hz78 => ?_
   have hB79 := hB51.lo hk77
   have hq80 : -999999 ≤ (readN (gt (splitB (32 : UInt8) s) k)).1 ∧ (readN (gt (splitB (32 : UInt8) s) k)).1 ≤ 999999 := readN_rng (gt (splitB (32 : UInt8) s) k)
   refine Q (mT rfl) <| Q (xI rfl rfl) <| Q (xB rfl rfl) <| Q (aI rfl) <| Q (aB rfl) <| Qn (Ws (Ws (Wr (Q (mB rfl) <| Q (r_not rfl) <| Qn (W.cond_b rfl (fun h81 => ?_) (fun h81 => ?_))))))
   ·have hq82 := bnot_t h81
    refine Ws (Wr (Q (lG agg37 rfl (hm53.lo hk77) rfl) <| Qw (o := 0) (vs := [.slice Ac1 nc1 cc1, .slice Ac2 nc2 cc2, .int .i64 c.Library.Bought, .int .i64 c.Library.Dropped, .int .i64 c.Library.Mended, str c.Log.Durable, str c.Log.Pending, .int .i64 c.Log.Count]) agg37.2 rfl rfl rfl rfl (hm56.lo hk77) ler rfl ?_))
    intro w83 hk84 hs85 hb86
    refine Q (r_as (v := str ([63] : List UInt8)) rfl) <| Qn (W.ret (retCT rfl rfl agg37 hb86 rfl (v := str _) rfl ?_))
    refine ⟨Ac1, nc1, cc1, Ac2, nc2, cc2, eR (eT2 (eA (eC rfl (eC rfl (eC (eI ?_) (eC (eI ?_) (eC (eI ?_) (eC (eS ?_) (eC (eS ?_) (eC (eI ?_) rfl))))))))) (eS ?_)), (SlO.eqv ((hm54.lo hk77).kd hk84 hd19) ?_), (SlO.eqv ((hm55.lo hk77).kd hk84 hd20) ?_), hdc_Library_Maps_c2, (fun b_ h_ => .inl (.inl h_)), (fun b_ h_ => .inl (.inr h_)), (hB79.new hk84)⟩ <;> (rw [run_bad (k := k) (by omega) ‹_[_]? = some _› ‹(!_) = true›]; try rfl)
   ·have hq89 := bnot_f h81
    refine W.skip (Wr (Q (mL rfl) <| Q (mI rfl) <| SR.lit (vs := [.int .i64 ((readN (gt (splitB (32 : UInt8) s) k)).1)]) (L := ([(readN (gt (splitB (32 : UInt8) s) k)).1] : List Int)) (enc := encI) tel93 (fun _ => rfl) rfl rfl rfl (by decide) ?_))
    intro g90 w91 hg92 hk93 hO94
    have hz95 := hk93.size
    refine SR.app tel93 rfl rfl ((hO58.lo hk77).lo hk93) (hO94.rd) (fun _ => rfl) (by omega) (by omega) ?_
    intro A101 c102 w103 hk104 hO105 hN106
    have hz107 := hk104.size
    have hd109 : Dj A101 Ac1 := fun b_ e' h' => (hN106 b_ e').elim (fun h => hd61 b_ (h.trans e') h') (fun h => by have := ((hm54.lo hk77).lo hk93).base_le h'; omega)
    have hd110 : Dj A101 Ac2 := fun b_ e' h' => (hN106 b_ e').elim (fun h => hd62 b_ (h.trans e') h') (fun h => by have := ((hm55.lo hk77).lo hk93).base_le h'; omega)
    have hd111 : ¬ A101 = some ⟨g1, 0, none⟩ := fun e' => (hN106 g1 e').elim (fun h => hd60 (h.trans e')) (fun h => by have := ((hm53.lo hk77).lo hk93).lt; omega)
    have hd112 : ¬ A101 = some ⟨g11, 0, none⟩ := fun e' => (hN106 g11 e').elim (fun h => hd63 (h.trans e')) (fun h => by have := ((hm56.lo hk77).lo hk93).lt; omega)
    have hd113 : Dj A101 A25 := fun b_ e' h' => (hN106 b_ e').elim (fun h => hd64 b_ (h.trans e') h') (fun h => by have := ((hm57.lo hk77).lo hk93).base_le h'; omega)
    refine Q (aL rfl) <| Qn (Wr (Q (mI rfl) <| Q (r_add rfl rfl (by omega)) <| Q (aI rfl) <| Qn (⟨(k + 1, A101, n48 + 1, c102), _, rfl, (At.r rfl), (show (Lo w w103) ∧ (Blk w103 g1 37 [.slice Ac1 nc1 cc1, .slice Ac2 nc2 cc2, .int .i64 c.Library.Bought, .int .i64 c.Library.Dropped, .int .i64 c.Library.Mended, str c.Log.Durable, str c.Log.Pending, .int .i64 c.Log.Count]) ∧ (SlO w103 Bc1 encLMap 3 102 Ac1 nc1 cc1 c.Library.Maps) ∧ (SlO w103 Bc2 encAway 2 129 Ac2 nc2 cc2 c.Library.Away) ∧ (Blk w103 g11 37 [.slice none 0 0, .slice none 0 0, .int .i64 0, .int .i64 0, .int .i64 0, str ([] : List UInt8), str ([] : List UInt8), .int .i64 0]) ∧ (SlO w103 w12.heap.size encS 1 9 A25 n26 c27 (splitB (32 : UInt8) s)) ∧ (SlO w103 w.heap.size encI 1 3 A101 (n48 + 1) c102 (nmW s (k + 1))) ∧ (¬ A101 = some ⟨g1, 0, none⟩) ∧ Dj A101 Ac1 ∧ Dj A101 Ac2 ∧ (¬ A101 = some ⟨g11, 0, none⟩) ∧ Dj A101 A25 ∧ ((1 ≤ k + 1 ∧ k + 1 ≤ (splitB (32 : UInt8) s).length) ∧ AllNum (((splitB (32 : UInt8) s).take (k + 1)).drop 1)) from ⟨((hB79.lo hk93).step hk104 (fun i_ hi_ e' => by have := ((hO58.lo hk77).lo hk93).base_le e'; first | omega | exact e' | exact .inl e' | exact .inr e')), (((hm53.lo hk77).lo hk93).kp hk104 (fun e' => hd60 e')), (((hm54.lo hk77).lo hk93).kp hk104 (fun b_ hb e' => hd61 b_ e' hb)), (((hm55.lo hk77).lo hk93).kp hk104 (fun b_ hb e' => hd62 b_ e' hb)), (((hm56.lo hk77).lo hk93).kp hk104 (fun e' => hd63 e')), (((hm57.lo hk77).lo hk93).kp hk104 (fun b_ hb e' => hd64 b_ e' hb)), (SlO.eqv hO105 (by exact nums_next (by omega) ‹_[_]? = some _›)), hd111, hd109, hd110, hd112, hd113, ?_⟩), ?_⟩)))
    ·exact (by (try dsimp only); exact ⟨by omega, allN_next (by omega) (And.right ‹_ ∧ AllNum _›) ‹_[_]? = some _› (by simpa using ‹_›)⟩)
    ·exact (by (try dsimp only); omega)
  ·refine W.exit (xin_here (Ws (Ws (Wr (Q (mL rfl) <| Q (r_len und93 rfl) <| Qn (W.block (Ws (Wr (Q (r_eq rfl rfl) <| Q (aB rfl) <| Qn (W.cond_d rfl (fun h120 => ?_) (fun h120 => ?_)))))))))))
   ·refine Ws (W.regA (Kp (fun b_ => b_ = g11) w50) (fun f' w' => At f' [(2, .pointer (pA g1)), (4, .pointer (pA g11)), (5, str (spec_l34Word c.Library s))] ∧ (Kp (fun b_ => b_ = g11) w50 w') ∧ (Blk w' g11 37 [.slice Ac1 nc1 cc1, .slice Ac2 nc2 cc2, .int .i64 c.Library.Bought, .int .i64 c.Library.Dropped, .int .i64 c.Library.Mended, str c.Log.Durable, str c.Log.Pending, .int .i64 c.Log.Count])) mo ?_ ?_)
    ·intro w156 hk157
     have hz158 := hk157.size
     refine Ak 0 rfl (kr hk157) (fun w' hw' => r_lda (l := [.slice Ac1 nc1 cc1, .slice Ac2 nc2 cc2, .int .i64 c.Library.Bought, .int .i64 c.Library.Dropped, .int .i64 c.Library.Mended, str c.Log.Durable, str c.Log.Pending, .int .i64 c.Log.Count]) agg37 rfl (fun _ _ hu => (hm53.kn hw' (by omega)).cell hu) rfl) <| Ak 1 rfl (kr hk157) (fun w' hw' => fA fa37_0 rfl) <| Ak 2 rfl (kr hk157) (fun w' hw' => r_lda (l := (cLb Ac1 nc1 cc1 Ac2 nc2 cc2 c.Library)) agg34 rfl (fun _ _ hu => (hm53.kn hw' (by omega)).cells (vs := (cLb Ac1 nc1 cc1 Ac2 nc2 cc2 c.Library)) rfl hu) rfl) <| Ak 3 rfl (kr hk157) (fun w' hw' => r_mv (v := str _) rfl) <| Ab 4 rfl (Qv ent84 (c_spec_l34Word w156 c.Library ((hm54.lo hk157).rd) ((hm55.lo hk157).rd) s (by omega) (by omega) (by assumption)) rfl fun w160 hk161 hz162 => ?_)
     have hS164 := ((Kp.refl w50 : Kp (fun b_ => b_ = g11) w50 w50).lo hk157).lo hk161
     refine Qn ⟨hS164, _, rfl, (Ab 5 rfl (Qw (o := 0) (vs := [.slice Ac1 nc1 cc1, .slice Ac2 nc2 cc2, .int .i64 c.Library.Bought, .int .i64 c.Library.Dropped, .int .i64 c.Library.Mended, str c.Log.Durable, str c.Log.Pending, .int .i64 c.Log.Count]) agg37.2 rfl rfl rfl rfl ((hm56.lo hk157).lo hk161) ler rfl ?_))⟩
     intro w165 hk166 hs167 hb168
     have hS171 := hS164.step hk166 (fun _ _ e => e)
     refine Qn ⟨hS171, _, rfl, (Ak 6 rfl hS171 (fun w' hw' => r_as (v := str _) rfl) <| AH.done (by kernel_rfl) (⟨(At.r rfl), hS171, hb168⟩))⟩
    rintro f172 w173 ⟨hat175, hR174, hm155⟩
    rw [← sets_of_at hat175]
    have hz176 := hR174.size
    refine W.ret (retCT rfl rfl agg37 hm155 rfl (v := str _) rfl ?_)
    refine ⟨Ac1, nc1, cc1, Ac2, nc2, cc2, eR (eT2 (eA (eC rfl (eC rfl (eC (eI ?_) (eC (eI ?_) (eC (eI ?_) (eC (eS ?_) (eC (eS ?_) (eC (eI ?_) rfl))))))))) (eS ?_)), (SlO.eqv (hm54.kd hR174 hd19) ?_), (SlO.eqv (hm55.kd hR174 hd20) ?_), hdc_Library_Maps_c2, (fun b_ h_ => .inl (.inl h_)), (fun b_ h_ => .inl (.inr h_)), (hB51.new hR174 (by omega))⟩ <;> (rw [run_0 (k := k) (by omega) (And.right ‹_ ∧ AllNum _›) (by omega)]; try rfl)
   ·refine Ws (Wr (Q (r_eq rfl rfl) <| Q (aB rfl) <| Qn (W.cond_d rfl (fun h178 => ?_) (fun h178 => ?_))))
    ·refine Ws (W.regA (Kp (fun b_ => b_ = g11) w50) (fun f' w' => ∃ (A250 : Option Addr) (n251 : Nat) (c252 : Nat) (A254 : Option Addr) (n255 : Nat) (c256 : Nat), At f' [(2, .pointer (pA g1)), (4, .pointer (pA g11)), (5, str ((spec_l34One c (gt (splitB (32 : UInt8) s) 0) (gt (nmW s k) 0)).2))] ∧ (Kp (fun b_ => b_ = g11) w50 w') ∧ (SlO w' Bc1 encLMap 3 102 A250 n251 c252 (((spec_l34One c (gt (splitB (32 : UInt8) s) 0) (gt (nmW s k) 0)).1).Library.Maps)) ∧ (∀ b_, A250 = some ⟨b_, 0, none⟩ → (Ac1 = some ⟨b_, 0, none⟩ ∨ Ac2 = some ⟨b_, 0, none⟩) ∨ w.heap.size ≤ b_) ∧ (SlO w' Bc2 encAway 2 129 A254 n255 c256 (((spec_l34One c (gt (splitB (32 : UInt8) s) 0) (gt (nmW s k) 0)).1).Library.Away)) ∧ (∀ b_, A254 = some ⟨b_, 0, none⟩ → (Ac1 = some ⟨b_, 0, none⟩ ∨ Ac2 = some ⟨b_, 0, none⟩) ∨ w.heap.size ≤ b_) ∧ (Blk w' g11 37 [.slice A250 n251 c252, .slice A254 n255 c256, .int .i64 (((spec_l34One c (gt (splitB (32 : UInt8) s) 0) (gt (nmW s k) 0)).1).Library.Bought), .int .i64 (((spec_l34One c (gt (splitB (32 : UInt8) s) 0) (gt (nmW s k) 0)).1).Library.Dropped), .int .i64 (((spec_l34One c (gt (splitB (32 : UInt8) s) 0) (gt (nmW s k) 0)).1).Library.Mended), str (((spec_l34One c (gt (splitB (32 : UInt8) s) 0) (gt (nmW s k) 0)).1).Log.Durable), str (((spec_l34One c (gt (splitB (32 : UInt8) s) 0) (gt (nmW s k) 0)).1).Log.Pending), .int .i64 (((spec_l34One c (gt (splitB (32 : UInt8) s) 0) (gt (nmW s k) 0)).1).Log.Count)]) ∧ (¬ A250 = some ⟨g1, 0, none⟩) ∧ (¬ A250 = some ⟨g11, 0, none⟩) ∧ (¬ A254 = some ⟨g1, 0, none⟩) ∧ (¬ A254 = some ⟨g11, 0, none⟩) ∧ Dj A250 A25 ∧ Dj A250 A48 ∧ Dj A250 A254 ∧ Dj A254 A25 ∧ Dj A254 A48 ∧ ((splitB (32 : UInt8) s)[0]? = some (gt (splitB (32 : UInt8) s) 0)) ∧ ((gt (splitB (32 : UInt8) s) 0).length ≤ s.length) ∧ ((gt (splitB (32 : UInt8) s) 0).length ≤ s.length) ∧ ((nmW s k)[0]? = some (gt (nmW s k) 0)) ∧ (n251 = (((spec_l34One c (gt (splitB (32 : UInt8) s) 0) (gt (nmW s k) 0)).1).Library.Maps).length) ∧ ((n251 : Int) ≤ 9223372036854775807) ∧ (n255 = (((spec_l34One c (gt (splitB (32 : UInt8) s) 0) (gt (nmW s k) 0)).1).Library.Away).length) ∧ ((n255 : Int) ≤ 9223372036854775807)) mo ?_ ?_)
     ·intro w311 hk312
      have hz313 := hk312.size
      refine Ak 0 rfl (kr hk312) (fun w' hw' => r_lda (l := [.slice Ac1 nc1 cc1, .slice Ac2 nc2 cc2, .int .i64 c.Library.Bought, .int .i64 c.Library.Dropped, .int .i64 c.Library.Mended, str c.Log.Durable, str c.Log.Pending, .int .i64 c.Log.Count]) agg37 rfl (fun _ _ hu => (hm53.kn hw' (by omega)).cell hu) rfl) <| Ak 1 rfl (kr hk312) (fun w' hw' => r_mv (v := .slice _ _ _) rfl) <| ?_
      have hx316 := ((hm57.lo hk312).rd).elem (i := 0) (by omega)
      have hq317 := splitB_gt (32 : UInt8) s
      have hq318 := splitB_el hx316
      refine Ak 2 rfl (kr hk312) (fun w' hw' => r_ixR tsl44 ((hm57.kn hw' (by omega)).rd) rfl rfl (by omega)) <| Ak 3 rfl (kr hk312) (fun w' hw' => r_ld (v := str (gt (splitB (32 : UInt8) s) 0)) sca9 rfl (((hm57.kn hw' (by omega)).rd).cell0 hx316 rfl)) <| Ak 4 rfl (kr hk312) (fun w' hw' => r_mv (v := .slice _ _ _) rfl) <| ?_
      have hx320 := ((hO58.lo hk312).rd).elem (i := 0) (by omega)
      refine Ak 5 rfl (kr hk312) (fun w' hw' => r_ixR tsl93 ((hO58.kd hw' hd63).rd) rfl rfl (by omega)) <| Ak 6 rfl (kr hk312) (fun w' hw' => r_ld (v := .int .i64 (gt (nmW s k) 0)) sca3 rfl (((hO58.kd hw' hd63).rd).cell0 hx320 rfl)) <| Ab 7 rfl (SR.call ent85 (c_spec_l34One w311 c (hm54.lo hk312) (hm55.lo hk312) (gt (splitB (32 : UInt8) s) 0) (gt (nmW s k) 0) hdc_Library_Maps_c2 (by omega) (by omega)) rfl ?_)
      rintro e w321 ⟨A323, n324, c325, A327, n328, c329, rfl, hO326, hO330, hd331, hN332, hN333, hk322⟩
      refine ⟨_, rfl, ?_⟩
      have hz334 := hk322.size
      have hS336 := ((Kp.refl w50 : Kp (fun b_ => b_ = g11) w50 w50).lo hk312).lo hk322
      have hd337 : Dj A323 A25 := fun b_ e' h' => (hN332 b_ e').elim (fun h => h.elim (fun h => (fun b_ h h' => by have h1 := hm21.base_le h; have h2 := (hm57.lo hk312).base_le h'; omega) b_ h h') (fun h => (fun b_ h h' => by have h1 := hm22.base_le h; have h2 := (hm57.lo hk312).base_le h'; omega) b_ h h')) (fun h => by have := (hm57.lo hk312).base_le h'; omega)
      have hd338 : Dj A323 A48 := fun b_ e' h' => (hN332 b_ e').elim (fun h => h.elim (fun h => (fun b_ h h' => hd61 b_ h' h) b_ h h') (fun h => (fun b_ h h' => hd62 b_ h' h) b_ h h')) (fun h => by have := (hO58.lo hk312).base_le h'; omega)
      have hd339 : ¬ A323 = some ⟨g1, 0, none⟩ := fun e' => (hN332 g1 e').elim (fun h => h.elim (fun h => hd9 h) (fun h => hd10 h)) (fun h => by have := (hm53.lo hk312).lt; omega)
      have hd340 : ¬ A323 = some ⟨g11, 0, none⟩ := fun e' => (hN332 g11 e').elim (fun h => h.elim (fun h => hd19 h) (fun h => hd20 h)) (fun h => by have := (hm56.lo hk312).lt; omega)
      have hd341 : Dj A327 A25 := fun b_ e' h' => (hN333 b_ e').elim (fun h => h.elim (fun h => (fun b_ h h' => by have h1 := hm21.base_le h; have h2 := (hm57.lo hk312).base_le h'; omega) b_ h h') (fun h => (fun b_ h h' => by have h1 := hm22.base_le h; have h2 := (hm57.lo hk312).base_le h'; omega) b_ h h')) (fun h => by have := (hm57.lo hk312).base_le h'; omega)
      have hd342 : Dj A327 A48 := fun b_ e' h' => (hN333 b_ e').elim (fun h => h.elim (fun h => (fun b_ h h' => hd61 b_ h' h) b_ h h') (fun h => (fun b_ h h' => hd62 b_ h' h) b_ h h')) (fun h => by have := (hO58.lo hk312).base_le h'; omega)
      have hd343 : ¬ A327 = some ⟨g1, 0, none⟩ := fun e' => (hN333 g1 e').elim (fun h => h.elim (fun h => hd9 h) (fun h => hd10 h)) (fun h => by have := (hm53.lo hk312).lt; omega)
      have hd344 : ¬ A327 = some ⟨g11, 0, none⟩ := fun e' => (hN333 g11 e').elim (fun h => h.elim (fun h => hd19 h) (fun h => hd20 h)) (fun h => by have := (hm56.lo hk312).lt; omega)
      have hl345 := hO326.len
      have hl346 := hO326.rd.bound
      have hl347 := hO330.len
      have hl348 := hO330.rd.bound
      refine Qn ⟨hS336, _, rfl, (Ak 8 rfl hS336 (fun w' hw' => r_ext (v := .agg (List.toArray _)) rfl rfl) <| Ak 9 rfl hS336 (fun w' hw' => r_ext (v := str _) rfl rfl) <| Ab 10 rfl (Qw (o := 0) (vs := [.slice A323 n324 c325, .slice A327 n328 c329, .int .i64 (((spec_l34One c (gt (splitB (32 : UInt8) s) 0) (gt (nmW s k) 0)).1).Library.Bought), .int .i64 (((spec_l34One c (gt (splitB (32 : UInt8) s) 0) (gt (nmW s k) 0)).1).Library.Dropped), .int .i64 (((spec_l34One c (gt (splitB (32 : UInt8) s) 0) (gt (nmW s k) 0)).1).Library.Mended), str (((spec_l34One c (gt (splitB (32 : UInt8) s) 0) (gt (nmW s k) 0)).1).Log.Durable), str (((spec_l34One c (gt (splitB (32 : UInt8) s) 0) (gt (nmW s k) 0)).1).Log.Pending), .int .i64 (((spec_l34One c (gt (splitB (32 : UInt8) s) 0) (gt (nmW s k) 0)).1).Log.Count)]) agg37.2 rfl rfl rfl rfl ((hm56.lo hk312).lo hk322) ler rfl ?_))⟩
      intro w349 hk350 hs351 hb352
      have hS355 := hS336.step hk350 (fun _ _ e => e)
      refine Qn ⟨hS355, _, rfl, (Ak 11 rfl hS355 (fun w' hw' => r_as (v := str _) rfl) <| AH.done (by kernel_rfl) (⟨A323, n324, c325, A327, n328, c329, (At.r rfl), hS355, (hO326.kd hk350 hd340), (fun b_ h_ => (hN332 b_ h_).elim (fun h => h.elim (fun h => ((show ∀ b_, Ac1 = some ⟨b_, 0, none⟩ → (Ac1 = some ⟨b_, 0, none⟩ ∨ Ac2 = some ⟨b_, 0, none⟩) ∨ w.heap.size ≤ b_ from (fun b_ h_ => .inl (.inl h_))) b_ h)) (fun h => ((show ∀ b_, Ac2 = some ⟨b_, 0, none⟩ → (Ac1 = some ⟨b_, 0, none⟩ ∨ Ac2 = some ⟨b_, 0, none⟩) ∨ w.heap.size ≤ b_ from (fun b_ h_ => .inl (.inr h_))) b_ h))) (fun h => .inr (by omega))), (hO330.kd hk350 hd344), (fun b_ h_ => (hN333 b_ h_).elim (fun h => h.elim (fun h => ((show ∀ b_, Ac1 = some ⟨b_, 0, none⟩ → (Ac1 = some ⟨b_, 0, none⟩ ∨ Ac2 = some ⟨b_, 0, none⟩) ∨ w.heap.size ≤ b_ from (fun b_ h_ => .inl (.inl h_))) b_ h)) (fun h => ((show ∀ b_, Ac2 = some ⟨b_, 0, none⟩ → (Ac1 = some ⟨b_, 0, none⟩ ∨ Ac2 = some ⟨b_, 0, none⟩) ∨ w.heap.size ≤ b_ from (fun b_ h_ => .inl (.inr h_))) b_ h))) (fun h => .inr (by omega))), hb352, hd339, hd340, hd343, hd344, hd337, hd338, hd331, hd341, hd342, hx316, hq318, hq318, hx320, hl345, hl346, hl347, hl348⟩))⟩
     rintro f365 w366 ⟨A250, n251, c252, A254, n255, c256, hat368, hR367, hm297, hN298, hm299, hN300, hm301, hd302, hd303, hd304, hd305, hd306, hd307, hd308, hd309, hd310, hx242, hq243, hq244, hx246, hl272, hl273, hl274, hl275⟩
     rw [← sets_of_at hat368]
     have hz369 := hR367.size
     refine W.ret (retCT rfl rfl agg37 hm301 rfl (v := str _) rfl ?_)
     refine ⟨A250, n251, c252, A254, n255, c256, eR (eT2 (eA (eC rfl (eC rfl (eC (eI ?_) (eC (eI ?_) (eC (eI ?_) (eC (eS ?_) (eC (eS ?_) (eC (eI ?_) rfl))))))))) (eS ?_)), (SlO.eqv hm297 ?_), (SlO.eqv hm299 ?_), hd308, hN298, hN300, (hB51.new hR367 (by omega))⟩ <;> (rw [run_1 (k := k) (by omega) (And.right ‹_ ∧ AllNum _›) (by omega)]; try rfl)
    ·refine Ws (Wr (Q (r_eq rfl rfl) <| Q (aB rfl) <| Qn (W.cond_d rfl (fun h371 => ?_) (fun h371 => ?_))))
     ·refine Ws (W.regA (Kp (fun b_ => b_ = g11) w50) (fun f' w' => ∃ (A447 : Option Addr) (n448 : Nat) (c449 : Nat) (A451 : Option Addr) (n452 : Nat) (c453 : Nat), At f' [(2, .pointer (pA g1)), (4, .pointer (pA g11)), (5, str ((spec_l34Two c (gt (splitB (32 : UInt8) s) 0) (gt (nmW s k) 0) (gt (nmW s k) 1)).2))] ∧ (Kp (fun b_ => b_ = g11) w50 w') ∧ (SlO w' Bc1 encLMap 3 102 A447 n448 c449 (((spec_l34Two c (gt (splitB (32 : UInt8) s) 0) (gt (nmW s k) 0) (gt (nmW s k) 1)).1).Library.Maps)) ∧ (∀ b_, A447 = some ⟨b_, 0, none⟩ → (Ac1 = some ⟨b_, 0, none⟩ ∨ Ac2 = some ⟨b_, 0, none⟩) ∨ w.heap.size ≤ b_) ∧ (SlO w' Bc2 encAway 2 129 A451 n452 c453 (((spec_l34Two c (gt (splitB (32 : UInt8) s) 0) (gt (nmW s k) 0) (gt (nmW s k) 1)).1).Library.Away)) ∧ (∀ b_, A451 = some ⟨b_, 0, none⟩ → (Ac1 = some ⟨b_, 0, none⟩ ∨ Ac2 = some ⟨b_, 0, none⟩) ∨ w.heap.size ≤ b_) ∧ (Blk w' g11 37 [.slice A447 n448 c449, .slice A451 n452 c453, .int .i64 (((spec_l34Two c (gt (splitB (32 : UInt8) s) 0) (gt (nmW s k) 0) (gt (nmW s k) 1)).1).Library.Bought), .int .i64 (((spec_l34Two c (gt (splitB (32 : UInt8) s) 0) (gt (nmW s k) 0) (gt (nmW s k) 1)).1).Library.Dropped), .int .i64 (((spec_l34Two c (gt (splitB (32 : UInt8) s) 0) (gt (nmW s k) 0) (gt (nmW s k) 1)).1).Library.Mended), str (((spec_l34Two c (gt (splitB (32 : UInt8) s) 0) (gt (nmW s k) 0) (gt (nmW s k) 1)).1).Log.Durable), str (((spec_l34Two c (gt (splitB (32 : UInt8) s) 0) (gt (nmW s k) 0) (gt (nmW s k) 1)).1).Log.Pending), .int .i64 (((spec_l34Two c (gt (splitB (32 : UInt8) s) 0) (gt (nmW s k) 0) (gt (nmW s k) 1)).1).Log.Count)]) ∧ (¬ A447 = some ⟨g1, 0, none⟩) ∧ (¬ A447 = some ⟨g11, 0, none⟩) ∧ (¬ A451 = some ⟨g1, 0, none⟩) ∧ (¬ A451 = some ⟨g11, 0, none⟩) ∧ Dj A447 A25 ∧ Dj A447 A48 ∧ Dj A447 A451 ∧ Dj A451 A25 ∧ Dj A451 A48 ∧ ((splitB (32 : UInt8) s)[0]? = some (gt (splitB (32 : UInt8) s) 0)) ∧ ((gt (splitB (32 : UInt8) s) 0).length ≤ s.length) ∧ ((gt (splitB (32 : UInt8) s) 0).length ≤ s.length) ∧ ((nmW s k)[0]? = some (gt (nmW s k) 0)) ∧ ((nmW s k)[1]? = some (gt (nmW s k) 1)) ∧ (n448 = (((spec_l34Two c (gt (splitB (32 : UInt8) s) 0) (gt (nmW s k) 0) (gt (nmW s k) 1)).1).Library.Maps).length) ∧ ((n448 : Int) ≤ 9223372036854775807) ∧ (n452 = (((spec_l34Two c (gt (splitB (32 : UInt8) s) 0) (gt (nmW s k) 0) (gt (nmW s k) 1)).1).Library.Away).length) ∧ ((n452 : Int) ≤ 9223372036854775807)) mo ?_ ?_)
      ·intro w508 hk509
       have hz510 := hk509.size
       refine Ak 0 rfl (kr hk509) (fun w' hw' => r_lda (l := [.slice Ac1 nc1 cc1, .slice Ac2 nc2 cc2, .int .i64 c.Library.Bought, .int .i64 c.Library.Dropped, .int .i64 c.Library.Mended, str c.Log.Durable, str c.Log.Pending, .int .i64 c.Log.Count]) agg37 rfl (fun _ _ hu => (hm53.kn hw' (by omega)).cell hu) rfl) <| Ak 1 rfl (kr hk509) (fun w' hw' => r_mv (v := .slice _ _ _) rfl) <| ?_
       have hx513 := ((hm57.lo hk509).rd).elem (i := 0) (by omega)
       have hq514 := splitB_gt (32 : UInt8) s
       have hq515 := splitB_el hx513
       refine Ak 2 rfl (kr hk509) (fun w' hw' => r_ixR tsl44 ((hm57.kn hw' (by omega)).rd) rfl rfl (by omega)) <| Ak 3 rfl (kr hk509) (fun w' hw' => r_ld (v := str (gt (splitB (32 : UInt8) s) 0)) sca9 rfl (((hm57.kn hw' (by omega)).rd).cell0 hx513 rfl)) <| Ak 4 rfl (kr hk509) (fun w' hw' => r_mv (v := .slice _ _ _) rfl) <| ?_
       have hx517 := ((hO58.lo hk509).rd).elem (i := 0) (by omega)
       refine Ak 5 rfl (kr hk509) (fun w' hw' => r_ixR tsl93 ((hO58.kd hw' hd63).rd) rfl rfl (by omega)) <| Ak 6 rfl (kr hk509) (fun w' hw' => r_ld (v := .int .i64 (gt (nmW s k) 0)) sca3 rfl (((hO58.kd hw' hd63).rd).cell0 hx517 rfl)) <| Ak 7 rfl (kr hk509) (fun w' hw' => r_mv (v := .slice _ _ _) rfl) <| ?_
       have hx519 := ((hO58.lo hk509).rd).elem (i := 1) (by omega)
       refine Ak 8 rfl (kr hk509) (fun w' hw' => r_ixR tsl93 ((hO58.kd hw' hd63).rd) rfl rfl (by omega)) <| Ak 9 rfl (kr hk509) (fun w' hw' => r_ld (v := .int .i64 (gt (nmW s k) 1)) sca3 rfl (((hO58.kd hw' hd63).rd).cell0 hx519 rfl)) <| Ab 10 rfl (SR.call ent86 (c_spec_l34Two w508 c (hm54.lo hk509) (hm55.lo hk509) (gt (splitB (32 : UInt8) s) 0) (gt (nmW s k) 0) (gt (nmW s k) 1) hdc_Library_Maps_c2 (by omega) (by omega)) rfl ?_)
       rintro e w520 ⟨A522, n523, c524, A526, n527, c528, rfl, hO525, hO529, hd530, hN531, hN532, hk521⟩
       refine ⟨_, rfl, ?_⟩
       have hz533 := hk521.size
       have hS535 := ((Kp.refl w50 : Kp (fun b_ => b_ = g11) w50 w50).lo hk509).lo hk521
       have hd536 : Dj A522 A25 := fun b_ e' h' => (hN531 b_ e').elim (fun h => h.elim (fun h => (fun b_ h h' => by have h1 := hm21.base_le h; have h2 := (hm57.lo hk509).base_le h'; omega) b_ h h') (fun h => (fun b_ h h' => by have h1 := hm22.base_le h; have h2 := (hm57.lo hk509).base_le h'; omega) b_ h h')) (fun h => by have := (hm57.lo hk509).base_le h'; omega)
       have hd537 : Dj A522 A48 := fun b_ e' h' => (hN531 b_ e').elim (fun h => h.elim (fun h => (fun b_ h h' => hd61 b_ h' h) b_ h h') (fun h => (fun b_ h h' => hd62 b_ h' h) b_ h h')) (fun h => by have := (hO58.lo hk509).base_le h'; omega)
       have hd538 : ¬ A522 = some ⟨g1, 0, none⟩ := fun e' => (hN531 g1 e').elim (fun h => h.elim (fun h => hd9 h) (fun h => hd10 h)) (fun h => by have := (hm53.lo hk509).lt; omega)
       have hd539 : ¬ A522 = some ⟨g11, 0, none⟩ := fun e' => (hN531 g11 e').elim (fun h => h.elim (fun h => hd19 h) (fun h => hd20 h)) (fun h => by have := (hm56.lo hk509).lt; omega)
       have hd540 : Dj A526 A25 := fun b_ e' h' => (hN532 b_ e').elim (fun h => h.elim (fun h => (fun b_ h h' => by have h1 := hm21.base_le h; have h2 := (hm57.lo hk509).base_le h'; omega) b_ h h') (fun h => (fun b_ h h' => by have h1 := hm22.base_le h; have h2 := (hm57.lo hk509).base_le h'; omega) b_ h h')) (fun h => by have := (hm57.lo hk509).base_le h'; omega)
       have hd541 : Dj A526 A48 := fun b_ e' h' => (hN532 b_ e').elim (fun h => h.elim (fun h => (fun b_ h h' => hd61 b_ h' h) b_ h h') (fun h => (fun b_ h h' => hd62 b_ h' h) b_ h h')) (fun h => by have := (hO58.lo hk509).base_le h'; omega)
       have hd542 : ¬ A526 = some ⟨g1, 0, none⟩ := fun e' => (hN532 g1 e').elim (fun h => h.elim (fun h => hd9 h) (fun h => hd10 h)) (fun h => by have := (hm53.lo hk509).lt; omega)
       have hd543 : ¬ A526 = some ⟨g11, 0, none⟩ := fun e' => (hN532 g11 e').elim (fun h => h.elim (fun h => hd19 h) (fun h => hd20 h)) (fun h => by have := (hm56.lo hk509).lt; omega)
       have hl544 := hO525.len
       have hl545 := hO525.rd.bound
       have hl546 := hO529.len
       have hl547 := hO529.rd.bound
       refine Qn ⟨hS535, _, rfl, (Ak 11 rfl hS535 (fun w' hw' => r_ext (v := .agg (List.toArray _)) rfl rfl) <| Ak 12 rfl hS535 (fun w' hw' => r_ext (v := str _) rfl rfl) <| Ab 13 rfl (Qw (o := 0) (vs := [.slice A522 n523 c524, .slice A526 n527 c528, .int .i64 (((spec_l34Two c (gt (splitB (32 : UInt8) s) 0) (gt (nmW s k) 0) (gt (nmW s k) 1)).1).Library.Bought), .int .i64 (((spec_l34Two c (gt (splitB (32 : UInt8) s) 0) (gt (nmW s k) 0) (gt (nmW s k) 1)).1).Library.Dropped), .int .i64 (((spec_l34Two c (gt (splitB (32 : UInt8) s) 0) (gt (nmW s k) 0) (gt (nmW s k) 1)).1).Library.Mended), str (((spec_l34Two c (gt (splitB (32 : UInt8) s) 0) (gt (nmW s k) 0) (gt (nmW s k) 1)).1).Log.Durable), str (((spec_l34Two c (gt (splitB (32 : UInt8) s) 0) (gt (nmW s k) 0) (gt (nmW s k) 1)).1).Log.Pending), .int .i64 (((spec_l34Two c (gt (splitB (32 : UInt8) s) 0) (gt (nmW s k) 0) (gt (nmW s k) 1)).1).Log.Count)]) agg37.2 rfl rfl rfl rfl ((hm56.lo hk509).lo hk521) ler rfl ?_))⟩
       intro w548 hk549 hs550 hb551
       have hS554 := hS535.step hk549 (fun _ _ e => e)
       refine Qn ⟨hS554, _, rfl, (Ak 14 rfl hS554 (fun w' hw' => r_as (v := str _) rfl) <| AH.done (by kernel_rfl) (⟨A522, n523, c524, A526, n527, c528, (At.r rfl), hS554, (hO525.kd hk549 hd539), (fun b_ h_ => (hN531 b_ h_).elim (fun h => h.elim (fun h => ((show ∀ b_, Ac1 = some ⟨b_, 0, none⟩ → (Ac1 = some ⟨b_, 0, none⟩ ∨ Ac2 = some ⟨b_, 0, none⟩) ∨ w.heap.size ≤ b_ from (fun b_ h_ => .inl (.inl h_))) b_ h)) (fun h => ((show ∀ b_, Ac2 = some ⟨b_, 0, none⟩ → (Ac1 = some ⟨b_, 0, none⟩ ∨ Ac2 = some ⟨b_, 0, none⟩) ∨ w.heap.size ≤ b_ from (fun b_ h_ => .inl (.inr h_))) b_ h))) (fun h => .inr (by omega))), (hO529.kd hk549 hd543), (fun b_ h_ => (hN532 b_ h_).elim (fun h => h.elim (fun h => ((show ∀ b_, Ac1 = some ⟨b_, 0, none⟩ → (Ac1 = some ⟨b_, 0, none⟩ ∨ Ac2 = some ⟨b_, 0, none⟩) ∨ w.heap.size ≤ b_ from (fun b_ h_ => .inl (.inl h_))) b_ h)) (fun h => ((show ∀ b_, Ac2 = some ⟨b_, 0, none⟩ → (Ac1 = some ⟨b_, 0, none⟩ ∨ Ac2 = some ⟨b_, 0, none⟩) ∨ w.heap.size ≤ b_ from (fun b_ h_ => .inl (.inr h_))) b_ h))) (fun h => .inr (by omega))), hb551, hd538, hd539, hd542, hd543, hd536, hd537, hd530, hd540, hd541, hx513, hq515, hq515, hx517, hx519, hl544, hl545, hl546, hl547⟩))⟩
      rintro f564 w565 ⟨A447, n448, c449, A451, n452, c453, hat567, hR566, hm494, hN495, hm496, hN497, hm498, hd499, hd500, hd501, hd502, hd503, hd504, hd505, hd506, hd507, hx437, hq438, hq439, hx441, hx443, hl469, hl470, hl471, hl472⟩
      rw [← sets_of_at hat567]
      have hz568 := hR566.size
      refine W.ret (retCT rfl rfl agg37 hm498 rfl (v := str _) rfl ?_)
      refine ⟨A447, n448, c449, A451, n452, c453, eR (eT2 (eA (eC rfl (eC rfl (eC (eI ?_) (eC (eI ?_) (eC (eI ?_) (eC (eS ?_) (eC (eS ?_) (eC (eI ?_) rfl))))))))) (eS ?_)), (SlO.eqv hm494 ?_), (SlO.eqv hm496 ?_), hd505, hN495, hN497, (hB51.new hR566 (by omega))⟩ <;> (rw [run_2 (k := k) (by omega) (And.right ‹_ ∧ AllNum _›) (by omega)]; try rfl)
     ·refine Ws (Wr (Q (r_eq rfl rfl) <| Q (aB rfl) <| Qn (W.cond_d rfl (fun h570 => ?_) (fun h570 => ?_))))
      ·refine Ws (Wr (Q (mL rfl) <| ?_))
       have hx572 := (hm57.rd).elem (i := 0) (by omega)
       have hq573 := splitB_gt (32 : UInt8) s
       have hq574 := splitB_el hx572
       refine Q (r_ixR tsl44 (hm57.rd) rfl rfl (by omega)) <| Q (r_ld (v := str (gt (splitB (32 : UInt8) s) 0)) sca9 rfl ((hm57.rd).cell0 hx572 rfl)) <| Qn (W.block (Ws (Wr (Q (r_eqs (s := (gt (splitB (32 : UInt8) s) 0)) (r := ([98, 97, 99, 107] : List UInt8)) rfl rfl) <| Q (aB rfl) <| Qn (W.cond_d rfl (fun h575 => ?_) (fun h575 => ?_))))))
       ·refine Ws (W.regA (Kp (fun b_ => b_ = g11) w50) (fun f' w' => ∃ (A647 : Option Addr) (n648 : Nat) (c649 : Nat) (A651 : Option Addr) (n652 : Nat) (c653 : Nat), At f' [(2, .pointer (pA g1)), (4, .pointer (pA g11)), (5, str ((spec_l34Make c (⟨3, (gt (nmW s k) 0), (gt (nmW s k) 1), (gt (nmW s k) 2)⟩ : LibraryStep)).2))] ∧ (Kp (fun b_ => b_ = g11) w50 w') ∧ (SlO w' Bc1 encLMap 3 102 A647 n648 c649 (((spec_l34Make c (⟨3, (gt (nmW s k) 0), (gt (nmW s k) 1), (gt (nmW s k) 2)⟩ : LibraryStep)).1).Library.Maps)) ∧ (∀ b_, A647 = some ⟨b_, 0, none⟩ → (Ac1 = some ⟨b_, 0, none⟩ ∨ Ac2 = some ⟨b_, 0, none⟩) ∨ w.heap.size ≤ b_) ∧ (SlO w' Bc2 encAway 2 129 A651 n652 c653 (((spec_l34Make c (⟨3, (gt (nmW s k) 0), (gt (nmW s k) 1), (gt (nmW s k) 2)⟩ : LibraryStep)).1).Library.Away)) ∧ (∀ b_, A651 = some ⟨b_, 0, none⟩ → (Ac1 = some ⟨b_, 0, none⟩ ∨ Ac2 = some ⟨b_, 0, none⟩) ∨ w.heap.size ≤ b_) ∧ (Blk w' g11 37 [.slice A647 n648 c649, .slice A651 n652 c653, .int .i64 (((spec_l34Make c (⟨3, (gt (nmW s k) 0), (gt (nmW s k) 1), (gt (nmW s k) 2)⟩ : LibraryStep)).1).Library.Bought), .int .i64 (((spec_l34Make c (⟨3, (gt (nmW s k) 0), (gt (nmW s k) 1), (gt (nmW s k) 2)⟩ : LibraryStep)).1).Library.Dropped), .int .i64 (((spec_l34Make c (⟨3, (gt (nmW s k) 0), (gt (nmW s k) 1), (gt (nmW s k) 2)⟩ : LibraryStep)).1).Library.Mended), str (((spec_l34Make c (⟨3, (gt (nmW s k) 0), (gt (nmW s k) 1), (gt (nmW s k) 2)⟩ : LibraryStep)).1).Log.Durable), str (((spec_l34Make c (⟨3, (gt (nmW s k) 0), (gt (nmW s k) 1), (gt (nmW s k) 2)⟩ : LibraryStep)).1).Log.Pending), .int .i64 (((spec_l34Make c (⟨3, (gt (nmW s k) 0), (gt (nmW s k) 1), (gt (nmW s k) 2)⟩ : LibraryStep)).1).Log.Count)]) ∧ (¬ A647 = some ⟨g1, 0, none⟩) ∧ (¬ A647 = some ⟨g11, 0, none⟩) ∧ (¬ A651 = some ⟨g1, 0, none⟩) ∧ (¬ A651 = some ⟨g11, 0, none⟩) ∧ Dj A647 A25 ∧ Dj A647 A48 ∧ Dj A647 A651 ∧ Dj A651 A25 ∧ Dj A651 A48 ∧ ((nmW s k)[0]? = some (gt (nmW s k) 0)) ∧ ((nmW s k)[1]? = some (gt (nmW s k) 1)) ∧ ((nmW s k)[2]? = some (gt (nmW s k) 2)) ∧ (n648 = (((spec_l34Make c (⟨3, (gt (nmW s k) 0), (gt (nmW s k) 1), (gt (nmW s k) 2)⟩ : LibraryStep)).1).Library.Maps).length) ∧ ((n648 : Int) ≤ 9223372036854775807) ∧ (n652 = (((spec_l34Make c (⟨3, (gt (nmW s k) 0), (gt (nmW s k) 1), (gt (nmW s k) 2)⟩ : LibraryStep)).1).Library.Away).length) ∧ ((n652 : Int) ≤ 9223372036854775807)) mo ?_ ?_)
        ·intro w708 hk709
         have hz710 := hk709.size
         refine Ak 0 rfl (kr hk709) (fun w' hw' => r_lda (l := [.slice Ac1 nc1 cc1, .slice Ac2 nc2 cc2, .int .i64 c.Library.Bought, .int .i64 c.Library.Dropped, .int .i64 c.Library.Mended, str c.Log.Durable, str c.Log.Pending, .int .i64 c.Log.Count]) agg37 rfl (fun _ _ hu => (hm53.kn hw' (by omega)).cell hu) rfl) <| Ak 1 rfl (kr hk709) (fun w' hw' => r_mv (v := .slice _ _ _) rfl) <| ?_
         have hx713 := ((hO58.lo hk709).rd).elem (i := 0) (by omega)
         refine Ak 2 rfl (kr hk709) (fun w' hw' => r_ixR tsl93 ((hO58.kd hw' hd63).rd) rfl rfl (by omega)) <| Ak 3 rfl (kr hk709) (fun w' hw' => r_ld (v := .int .i64 (gt (nmW s k) 0)) sca3 rfl (((hO58.kd hw' hd63).rd).cell0 hx713 rfl)) <| Ak 4 rfl (kr hk709) (fun w' hw' => r_mv (v := .slice _ _ _) rfl) <| ?_
         have hx715 := ((hO58.lo hk709).rd).elem (i := 1) (by omega)
         refine Ak 5 rfl (kr hk709) (fun w' hw' => r_ixR tsl93 ((hO58.kd hw' hd63).rd) rfl rfl (by omega)) <| Ak 6 rfl (kr hk709) (fun w' hw' => r_ld (v := .int .i64 (gt (nmW s k) 1)) sca3 rfl (((hO58.kd hw' hd63).rd).cell0 hx715 rfl)) <| Ak 7 rfl (kr hk709) (fun w' hw' => r_mv (v := .slice _ _ _) rfl) <| ?_
         have hx717 := ((hO58.lo hk709).rd).elem (i := 2) (by omega)
         refine Ak 8 rfl (kr hk709) (fun w' hw' => r_ixR tsl93 ((hO58.kd hw' hd63).rd) rfl rfl (by omega)) <| Ak 9 rfl (kr hk709) (fun w' hw' => r_ld (v := .int .i64 (gt (nmW s k) 2)) sca3 rfl (((hO58.kd hw' hd63).rd).cell0 hx717 rfl)) <| Ak 10 rfl (kr hk709) (fun w' hw' => r_build (vs := [(0, .int .i64 3), (1, .int .i64 (gt (nmW s k) 0)), (2, .int .i64 (gt (nmW s k) 1)), (3, .int .i64 (gt (nmW s k) 2))]) rfl (bld106_0_1_2_3 _ _ _ _)) <| Ab 11 rfl (SR.call ent87 (c_spec_l34Make w708 c (hm54.lo hk709) (hm55.lo hk709) (⟨3, (gt (nmW s k) 0), (gt (nmW s k) 1), (gt (nmW s k) 2)⟩ : LibraryStep) hdc_Library_Maps_c2 (by omega) (by omega)) rfl ?_)
         rintro e w718 ⟨A720, n721, c722, A724, n725, c726, rfl, hO723, hO727, hd728, hN729, hN730, hk719⟩
         refine ⟨_, rfl, ?_⟩
         have hz731 := hk719.size
         have hS733 := ((Kp.refl w50 : Kp (fun b_ => b_ = g11) w50 w50).lo hk709).lo hk719
         have hd734 : Dj A720 A25 := fun b_ e' h' => (hN729 b_ e').elim (fun h => h.elim (fun h => (fun b_ h h' => by have h1 := hm21.base_le h; have h2 := (hm57.lo hk709).base_le h'; omega) b_ h h') (fun h => (fun b_ h h' => by have h1 := hm22.base_le h; have h2 := (hm57.lo hk709).base_le h'; omega) b_ h h')) (fun h => by have := (hm57.lo hk709).base_le h'; omega)
         have hd735 : Dj A720 A48 := fun b_ e' h' => (hN729 b_ e').elim (fun h => h.elim (fun h => (fun b_ h h' => hd61 b_ h' h) b_ h h') (fun h => (fun b_ h h' => hd62 b_ h' h) b_ h h')) (fun h => by have := (hO58.lo hk709).base_le h'; omega)
         have hd736 : ¬ A720 = some ⟨g1, 0, none⟩ := fun e' => (hN729 g1 e').elim (fun h => h.elim (fun h => hd9 h) (fun h => hd10 h)) (fun h => by have := (hm53.lo hk709).lt; omega)
         have hd737 : ¬ A720 = some ⟨g11, 0, none⟩ := fun e' => (hN729 g11 e').elim (fun h => h.elim (fun h => hd19 h) (fun h => hd20 h)) (fun h => by have := (hm56.lo hk709).lt; omega)
         have hd738 : Dj A724 A25 := fun b_ e' h' => (hN730 b_ e').elim (fun h => h.elim (fun h => (fun b_ h h' => by have h1 := hm21.base_le h; have h2 := (hm57.lo hk709).base_le h'; omega) b_ h h') (fun h => (fun b_ h h' => by have h1 := hm22.base_le h; have h2 := (hm57.lo hk709).base_le h'; omega) b_ h h')) (fun h => by have := (hm57.lo hk709).base_le h'; omega)
         have hd739 : Dj A724 A48 := fun b_ e' h' => (hN730 b_ e').elim (fun h => h.elim (fun h => (fun b_ h h' => hd61 b_ h' h) b_ h h') (fun h => (fun b_ h h' => hd62 b_ h' h) b_ h h')) (fun h => by have := (hO58.lo hk709).base_le h'; omega)
         have hd740 : ¬ A724 = some ⟨g1, 0, none⟩ := fun e' => (hN730 g1 e').elim (fun h => h.elim (fun h => hd9 h) (fun h => hd10 h)) (fun h => by have := (hm53.lo hk709).lt; omega)
         have hd741 : ¬ A724 = some ⟨g11, 0, none⟩ := fun e' => (hN730 g11 e').elim (fun h => h.elim (fun h => hd19 h) (fun h => hd20 h)) (fun h => by have := (hm56.lo hk709).lt; omega)
         have hl742 := hO723.len
         have hl743 := hO723.rd.bound
         have hl744 := hO727.len
         have hl745 := hO727.rd.bound
         refine Qn ⟨hS733, _, rfl, (Ak 12 rfl hS733 (fun w' hw' => r_ext (v := .agg (List.toArray _)) rfl rfl) <| Ak 13 rfl hS733 (fun w' hw' => r_ext (v := str _) rfl rfl) <| Ab 14 rfl (Qw (o := 0) (vs := [.slice A720 n721 c722, .slice A724 n725 c726, .int .i64 (((spec_l34Make c (⟨3, (gt (nmW s k) 0), (gt (nmW s k) 1), (gt (nmW s k) 2)⟩ : LibraryStep)).1).Library.Bought), .int .i64 (((spec_l34Make c (⟨3, (gt (nmW s k) 0), (gt (nmW s k) 1), (gt (nmW s k) 2)⟩ : LibraryStep)).1).Library.Dropped), .int .i64 (((spec_l34Make c (⟨3, (gt (nmW s k) 0), (gt (nmW s k) 1), (gt (nmW s k) 2)⟩ : LibraryStep)).1).Library.Mended), str (((spec_l34Make c (⟨3, (gt (nmW s k) 0), (gt (nmW s k) 1), (gt (nmW s k) 2)⟩ : LibraryStep)).1).Log.Durable), str (((spec_l34Make c (⟨3, (gt (nmW s k) 0), (gt (nmW s k) 1), (gt (nmW s k) 2)⟩ : LibraryStep)).1).Log.Pending), .int .i64 (((spec_l34Make c (⟨3, (gt (nmW s k) 0), (gt (nmW s k) 1), (gt (nmW s k) 2)⟩ : LibraryStep)).1).Log.Count)]) agg37.2 rfl rfl rfl rfl ((hm56.lo hk709).lo hk719) ler rfl ?_))⟩
         intro w746 hk747 hs748 hb749
         have hS752 := hS733.step hk747 (fun _ _ e => e)
         refine Qn ⟨hS752, _, rfl, (Ak 15 rfl hS752 (fun w' hw' => r_as (v := str _) rfl) <| AH.done (by kernel_rfl) (⟨A720, n721, c722, A724, n725, c726, (At.r rfl), hS752, (hO723.kd hk747 hd737), (fun b_ h_ => (hN729 b_ h_).elim (fun h => h.elim (fun h => ((show ∀ b_, Ac1 = some ⟨b_, 0, none⟩ → (Ac1 = some ⟨b_, 0, none⟩ ∨ Ac2 = some ⟨b_, 0, none⟩) ∨ w.heap.size ≤ b_ from (fun b_ h_ => .inl (.inl h_))) b_ h)) (fun h => ((show ∀ b_, Ac2 = some ⟨b_, 0, none⟩ → (Ac1 = some ⟨b_, 0, none⟩ ∨ Ac2 = some ⟨b_, 0, none⟩) ∨ w.heap.size ≤ b_ from (fun b_ h_ => .inl (.inr h_))) b_ h))) (fun h => .inr (by omega))), (hO727.kd hk747 hd741), (fun b_ h_ => (hN730 b_ h_).elim (fun h => h.elim (fun h => ((show ∀ b_, Ac1 = some ⟨b_, 0, none⟩ → (Ac1 = some ⟨b_, 0, none⟩ ∨ Ac2 = some ⟨b_, 0, none⟩) ∨ w.heap.size ≤ b_ from (fun b_ h_ => .inl (.inl h_))) b_ h)) (fun h => ((show ∀ b_, Ac2 = some ⟨b_, 0, none⟩ → (Ac1 = some ⟨b_, 0, none⟩ ∨ Ac2 = some ⟨b_, 0, none⟩) ∨ w.heap.size ≤ b_ from (fun b_ h_ => .inl (.inr h_))) b_ h))) (fun h => .inr (by omega))), hb749, hd736, hd737, hd740, hd741, hd734, hd735, hd728, hd738, hd739, hx713, hx715, hx717, hl742, hl743, hl744, hl745⟩))⟩
        rintro f762 w763 ⟨A647, n648, c649, A651, n652, c653, hat765, hR764, hm694, hN695, hm696, hN697, hm698, hd699, hd700, hd701, hd702, hd703, hd704, hd705, hd706, hd707, hx639, hx641, hx643, hl669, hl670, hl671, hl672⟩
        rw [← sets_of_at hat765]
        have hz766 := hR764.size
        refine W.ret (retCT rfl rfl agg37 hm698 rfl (v := str _) rfl ?_)
        refine ⟨A647, n648, c649, A651, n652, c653, eR (eT2 (eA (eC rfl (eC rfl (eC (eI ?_) (eC (eI ?_) (eC (eI ?_) (eC (eS ?_) (eC (eS ?_) (eC (eI ?_) rfl))))))))) (eS ?_)), (SlO.eqv hm694 ?_), (SlO.eqv hm696 ?_), hd705, hN695, hN697, (hB51.new hR764 (by omega))⟩ <;> (rw [run_3 (k := k) (by omega) (And.right ‹_ ∧ AllNum _›) (by omega) (by assumption)]; try rfl)
       ·refine Ws (Wr (Q (r_eqs (s := (gt (splitB (32 : UInt8) s) 0)) (r := ([104, 97, 110, 100] : List UInt8)) rfl rfl) <| Q (aB rfl) <| Qn (W.cond_d rfl (fun h768 => ?_) (fun h768 => ?_))))
        ·refine Ws (W.regA (Kp (fun b_ => b_ = g11) w50) (fun f' w' => ∃ (A840 : Option Addr) (n841 : Nat) (c842 : Nat) (A844 : Option Addr) (n845 : Nat) (c846 : Nat), At f' [(2, .pointer (pA g1)), (4, .pointer (pA g11)), (5, str ((spec_l34Make c (⟨5, (gt (nmW s k) 0), (gt (nmW s k) 1), (gt (nmW s k) 2)⟩ : LibraryStep)).2))] ∧ (Kp (fun b_ => b_ = g11) w50 w') ∧ (SlO w' Bc1 encLMap 3 102 A840 n841 c842 (((spec_l34Make c (⟨5, (gt (nmW s k) 0), (gt (nmW s k) 1), (gt (nmW s k) 2)⟩ : LibraryStep)).1).Library.Maps)) ∧ (∀ b_, A840 = some ⟨b_, 0, none⟩ → (Ac1 = some ⟨b_, 0, none⟩ ∨ Ac2 = some ⟨b_, 0, none⟩) ∨ w.heap.size ≤ b_) ∧ (SlO w' Bc2 encAway 2 129 A844 n845 c846 (((spec_l34Make c (⟨5, (gt (nmW s k) 0), (gt (nmW s k) 1), (gt (nmW s k) 2)⟩ : LibraryStep)).1).Library.Away)) ∧ (∀ b_, A844 = some ⟨b_, 0, none⟩ → (Ac1 = some ⟨b_, 0, none⟩ ∨ Ac2 = some ⟨b_, 0, none⟩) ∨ w.heap.size ≤ b_) ∧ (Blk w' g11 37 [.slice A840 n841 c842, .slice A844 n845 c846, .int .i64 (((spec_l34Make c (⟨5, (gt (nmW s k) 0), (gt (nmW s k) 1), (gt (nmW s k) 2)⟩ : LibraryStep)).1).Library.Bought), .int .i64 (((spec_l34Make c (⟨5, (gt (nmW s k) 0), (gt (nmW s k) 1), (gt (nmW s k) 2)⟩ : LibraryStep)).1).Library.Dropped), .int .i64 (((spec_l34Make c (⟨5, (gt (nmW s k) 0), (gt (nmW s k) 1), (gt (nmW s k) 2)⟩ : LibraryStep)).1).Library.Mended), str (((spec_l34Make c (⟨5, (gt (nmW s k) 0), (gt (nmW s k) 1), (gt (nmW s k) 2)⟩ : LibraryStep)).1).Log.Durable), str (((spec_l34Make c (⟨5, (gt (nmW s k) 0), (gt (nmW s k) 1), (gt (nmW s k) 2)⟩ : LibraryStep)).1).Log.Pending), .int .i64 (((spec_l34Make c (⟨5, (gt (nmW s k) 0), (gt (nmW s k) 1), (gt (nmW s k) 2)⟩ : LibraryStep)).1).Log.Count)]) ∧ (¬ A840 = some ⟨g1, 0, none⟩) ∧ (¬ A840 = some ⟨g11, 0, none⟩) ∧ (¬ A844 = some ⟨g1, 0, none⟩) ∧ (¬ A844 = some ⟨g11, 0, none⟩) ∧ Dj A840 A25 ∧ Dj A840 A48 ∧ Dj A840 A844 ∧ Dj A844 A25 ∧ Dj A844 A48 ∧ ((nmW s k)[0]? = some (gt (nmW s k) 0)) ∧ ((nmW s k)[1]? = some (gt (nmW s k) 1)) ∧ ((nmW s k)[2]? = some (gt (nmW s k) 2)) ∧ (n841 = (((spec_l34Make c (⟨5, (gt (nmW s k) 0), (gt (nmW s k) 1), (gt (nmW s k) 2)⟩ : LibraryStep)).1).Library.Maps).length) ∧ ((n841 : Int) ≤ 9223372036854775807) ∧ (n845 = (((spec_l34Make c (⟨5, (gt (nmW s k) 0), (gt (nmW s k) 1), (gt (nmW s k) 2)⟩ : LibraryStep)).1).Library.Away).length) ∧ ((n845 : Int) ≤ 9223372036854775807)) mo ?_ ?_)
         ·intro w901 hk902
          have hz903 := hk902.size
          refine Ak 0 rfl (kr hk902) (fun w' hw' => r_lda (l := [.slice Ac1 nc1 cc1, .slice Ac2 nc2 cc2, .int .i64 c.Library.Bought, .int .i64 c.Library.Dropped, .int .i64 c.Library.Mended, str c.Log.Durable, str c.Log.Pending, .int .i64 c.Log.Count]) agg37 rfl (fun _ _ hu => (hm53.kn hw' (by omega)).cell hu) rfl) <| Ak 1 rfl (kr hk902) (fun w' hw' => r_mv (v := .slice _ _ _) rfl) <| ?_
          have hx906 := ((hO58.lo hk902).rd).elem (i := 0) (by omega)
          refine Ak 2 rfl (kr hk902) (fun w' hw' => r_ixR tsl93 ((hO58.kd hw' hd63).rd) rfl rfl (by omega)) <| Ak 3 rfl (kr hk902) (fun w' hw' => r_ld (v := .int .i64 (gt (nmW s k) 0)) sca3 rfl (((hO58.kd hw' hd63).rd).cell0 hx906 rfl)) <| Ak 4 rfl (kr hk902) (fun w' hw' => r_mv (v := .slice _ _ _) rfl) <| ?_
          have hx908 := ((hO58.lo hk902).rd).elem (i := 1) (by omega)
          refine Ak 5 rfl (kr hk902) (fun w' hw' => r_ixR tsl93 ((hO58.kd hw' hd63).rd) rfl rfl (by omega)) <| Ak 6 rfl (kr hk902) (fun w' hw' => r_ld (v := .int .i64 (gt (nmW s k) 1)) sca3 rfl (((hO58.kd hw' hd63).rd).cell0 hx908 rfl)) <| Ak 7 rfl (kr hk902) (fun w' hw' => r_mv (v := .slice _ _ _) rfl) <| ?_
          have hx910 := ((hO58.lo hk902).rd).elem (i := 2) (by omega)
          refine Ak 8 rfl (kr hk902) (fun w' hw' => r_ixR tsl93 ((hO58.kd hw' hd63).rd) rfl rfl (by omega)) <| Ak 9 rfl (kr hk902) (fun w' hw' => r_ld (v := .int .i64 (gt (nmW s k) 2)) sca3 rfl (((hO58.kd hw' hd63).rd).cell0 hx910 rfl)) <| Ak 10 rfl (kr hk902) (fun w' hw' => r_build (vs := [(0, .int .i64 5), (1, .int .i64 (gt (nmW s k) 0)), (2, .int .i64 (gt (nmW s k) 1)), (3, .int .i64 (gt (nmW s k) 2))]) rfl (bld106_0_1_2_3 _ _ _ _)) <| Ab 11 rfl (SR.call ent87 (c_spec_l34Make w901 c (hm54.lo hk902) (hm55.lo hk902) (⟨5, (gt (nmW s k) 0), (gt (nmW s k) 1), (gt (nmW s k) 2)⟩ : LibraryStep) hdc_Library_Maps_c2 (by omega) (by omega)) rfl ?_)
          rintro e w911 ⟨A913, n914, c915, A917, n918, c919, rfl, hO916, hO920, hd921, hN922, hN923, hk912⟩
          refine ⟨_, rfl, ?_⟩
          have hz924 := hk912.size
          have hS926 := ((Kp.refl w50 : Kp (fun b_ => b_ = g11) w50 w50).lo hk902).lo hk912
          have hd927 : Dj A913 A25 := fun b_ e' h' => (hN922 b_ e').elim (fun h => h.elim (fun h => (fun b_ h h' => by have h1 := hm21.base_le h; have h2 := (hm57.lo hk902).base_le h'; omega) b_ h h') (fun h => (fun b_ h h' => by have h1 := hm22.base_le h; have h2 := (hm57.lo hk902).base_le h'; omega) b_ h h')) (fun h => by have := (hm57.lo hk902).base_le h'; omega)
          have hd928 : Dj A913 A48 := fun b_ e' h' => (hN922 b_ e').elim (fun h => h.elim (fun h => (fun b_ h h' => hd61 b_ h' h) b_ h h') (fun h => (fun b_ h h' => hd62 b_ h' h) b_ h h')) (fun h => by have := (hO58.lo hk902).base_le h'; omega)
          have hd929 : ¬ A913 = some ⟨g1, 0, none⟩ := fun e' => (hN922 g1 e').elim (fun h => h.elim (fun h => hd9 h) (fun h => hd10 h)) (fun h => by have := (hm53.lo hk902).lt; omega)
          have hd930 : ¬ A913 = some ⟨g11, 0, none⟩ := fun e' => (hN922 g11 e').elim (fun h => h.elim (fun h => hd19 h) (fun h => hd20 h)) (fun h => by have := (hm56.lo hk902).lt; omega)
          have hd931 : Dj A917 A25 := fun b_ e' h' => (hN923 b_ e').elim (fun h => h.elim (fun h => (fun b_ h h' => by have h1 := hm21.base_le h; have h2 := (hm57.lo hk902).base_le h'; omega) b_ h h') (fun h => (fun b_ h h' => by have h1 := hm22.base_le h; have h2 := (hm57.lo hk902).base_le h'; omega) b_ h h')) (fun h => by have := (hm57.lo hk902).base_le h'; omega)
          have hd932 : Dj A917 A48 := fun b_ e' h' => (hN923 b_ e').elim (fun h => h.elim (fun h => (fun b_ h h' => hd61 b_ h' h) b_ h h') (fun h => (fun b_ h h' => hd62 b_ h' h) b_ h h')) (fun h => by have := (hO58.lo hk902).base_le h'; omega)
          have hd933 : ¬ A917 = some ⟨g1, 0, none⟩ := fun e' => (hN923 g1 e').elim (fun h => h.elim (fun h => hd9 h) (fun h => hd10 h)) (fun h => by have := (hm53.lo hk902).lt; omega)
          have hd934 : ¬ A917 = some ⟨g11, 0, none⟩ := fun e' => (hN923 g11 e').elim (fun h => h.elim (fun h => hd19 h) (fun h => hd20 h)) (fun h => by have := (hm56.lo hk902).lt; omega)
          have hl935 := hO916.len
          have hl936 := hO916.rd.bound
          have hl937 := hO920.len
          have hl938 := hO920.rd.bound
          refine Qn ⟨hS926, _, rfl, (Ak 12 rfl hS926 (fun w' hw' => r_ext (v := .agg (List.toArray _)) rfl rfl) <| Ak 13 rfl hS926 (fun w' hw' => r_ext (v := str _) rfl rfl) <| Ab 14 rfl (Qw (o := 0) (vs := [.slice A913 n914 c915, .slice A917 n918 c919, .int .i64 (((spec_l34Make c (⟨5, (gt (nmW s k) 0), (gt (nmW s k) 1), (gt (nmW s k) 2)⟩ : LibraryStep)).1).Library.Bought), .int .i64 (((spec_l34Make c (⟨5, (gt (nmW s k) 0), (gt (nmW s k) 1), (gt (nmW s k) 2)⟩ : LibraryStep)).1).Library.Dropped), .int .i64 (((spec_l34Make c (⟨5, (gt (nmW s k) 0), (gt (nmW s k) 1), (gt (nmW s k) 2)⟩ : LibraryStep)).1).Library.Mended), str (((spec_l34Make c (⟨5, (gt (nmW s k) 0), (gt (nmW s k) 1), (gt (nmW s k) 2)⟩ : LibraryStep)).1).Log.Durable), str (((spec_l34Make c (⟨5, (gt (nmW s k) 0), (gt (nmW s k) 1), (gt (nmW s k) 2)⟩ : LibraryStep)).1).Log.Pending), .int .i64 (((spec_l34Make c (⟨5, (gt (nmW s k) 0), (gt (nmW s k) 1), (gt (nmW s k) 2)⟩ : LibraryStep)).1).Log.Count)]) agg37.2 rfl rfl rfl rfl ((hm56.lo hk902).lo hk912) ler rfl ?_))⟩
          intro w939 hk940 hs941 hb942
          have hS945 := hS926.step hk940 (fun _ _ e => e)
          refine Qn ⟨hS945, _, rfl, (Ak 15 rfl hS945 (fun w' hw' => r_as (v := str _) rfl) <| AH.done (by kernel_rfl) (⟨A913, n914, c915, A917, n918, c919, (At.r rfl), hS945, (hO916.kd hk940 hd930), (fun b_ h_ => (hN922 b_ h_).elim (fun h => h.elim (fun h => ((show ∀ b_, Ac1 = some ⟨b_, 0, none⟩ → (Ac1 = some ⟨b_, 0, none⟩ ∨ Ac2 = some ⟨b_, 0, none⟩) ∨ w.heap.size ≤ b_ from (fun b_ h_ => .inl (.inl h_))) b_ h)) (fun h => ((show ∀ b_, Ac2 = some ⟨b_, 0, none⟩ → (Ac1 = some ⟨b_, 0, none⟩ ∨ Ac2 = some ⟨b_, 0, none⟩) ∨ w.heap.size ≤ b_ from (fun b_ h_ => .inl (.inr h_))) b_ h))) (fun h => .inr (by omega))), (hO920.kd hk940 hd934), (fun b_ h_ => (hN923 b_ h_).elim (fun h => h.elim (fun h => ((show ∀ b_, Ac1 = some ⟨b_, 0, none⟩ → (Ac1 = some ⟨b_, 0, none⟩ ∨ Ac2 = some ⟨b_, 0, none⟩) ∨ w.heap.size ≤ b_ from (fun b_ h_ => .inl (.inl h_))) b_ h)) (fun h => ((show ∀ b_, Ac2 = some ⟨b_, 0, none⟩ → (Ac1 = some ⟨b_, 0, none⟩ ∨ Ac2 = some ⟨b_, 0, none⟩) ∨ w.heap.size ≤ b_ from (fun b_ h_ => .inl (.inr h_))) b_ h))) (fun h => .inr (by omega))), hb942, hd929, hd930, hd933, hd934, hd927, hd928, hd921, hd931, hd932, hx906, hx908, hx910, hl935, hl936, hl937, hl938⟩))⟩
         rintro f955 w956 ⟨A840, n841, c842, A844, n845, c846, hat958, hR957, hm887, hN888, hm889, hN890, hm891, hd892, hd893, hd894, hd895, hd896, hd897, hd898, hd899, hd900, hx832, hx834, hx836, hl862, hl863, hl864, hl865⟩
         rw [← sets_of_at hat958]
         have hz959 := hR957.size
         refine W.ret (retCT rfl rfl agg37 hm891 rfl (v := str _) rfl ?_)
         refine ⟨A840, n841, c842, A844, n845, c846, eR (eT2 (eA (eC rfl (eC rfl (eC (eI ?_) (eC (eI ?_) (eC (eI ?_) (eC (eS ?_) (eC (eS ?_) (eC (eI ?_) rfl))))))))) (eS ?_)), (SlO.eqv hm887 ?_), (SlO.eqv hm889 ?_), hd898, hN888, hN890, (hB51.new hR957 (by omega))⟩ <;> (rw [run_3h (k := k) (by omega) (And.right ‹_ ∧ AllNum _›) (by omega) (by assumption) (by assumption)]; try rfl)
        ·refine W.skip (Ws (Wr (Q (lG agg37 rfl hm53 rfl) <| Qw (o := 0) (vs := [.slice Ac1 nc1 cc1, .slice Ac2 nc2 cc2, .int .i64 c.Library.Bought, .int .i64 c.Library.Dropped, .int .i64 c.Library.Mended, str c.Log.Durable, str c.Log.Pending, .int .i64 c.Log.Count]) agg37.2 rfl rfl rfl rfl hm56 ler rfl ?_)))
         intro w961 hk962 hs963 hb964
         refine Q (r_as (v := str ([63] : List UInt8)) rfl) <| Qn (W.ret (retCT rfl rfl agg37 hb964 rfl (v := str _) rfl ?_))
         refine ⟨Ac1, nc1, cc1, Ac2, nc2, cc2, eR (eT2 (eA (eC rfl (eC rfl (eC (eI ?_) (eC (eI ?_) (eC (eI ?_) (eC (eS ?_) (eC (eS ?_) (eC (eI ?_) rfl))))))))) (eS ?_)), (SlO.eqv (hm54.kd hk962 hd19) ?_), (SlO.eqv (hm55.kd hk962 hd20) ?_), hdc_Library_Maps_c2, (fun b_ h_ => .inl (.inl h_)), (fun b_ h_ => .inl (.inr h_)), (hB51.new hk962)⟩ <;> (rw [run_3n (k := k) (by omega) (And.right ‹_ ∧ AllNum _›) (by omega) (by assumption) (by assumption)]; try rfl)
      ·refine W.skip (Ws (Wr (Q (lG agg37 rfl hm53 rfl) <| Qw (o := 0) (vs := [.slice Ac1 nc1 cc1, .slice Ac2 nc2 cc2, .int .i64 c.Library.Bought, .int .i64 c.Library.Dropped, .int .i64 c.Library.Mended, str c.Log.Durable, str c.Log.Pending, .int .i64 c.Log.Count]) agg37.2 rfl rfl rfl rfl hm56 ler rfl ?_)))
       intro w967 hk968 hs969 hb970
       refine Q (r_as (v := str ([63] : List UInt8)) rfl) <| Qn (W.ret (retCT rfl rfl agg37 hb970 rfl (v := str _) rfl ?_))
       refine ⟨Ac1, nc1, cc1, Ac2, nc2, cc2, eR (eT2 (eA (eC rfl (eC rfl (eC (eI ?_) (eC (eI ?_) (eC (eI ?_) (eC (eS ?_) (eC (eS ?_) (eC (eI ?_) rfl))))))))) (eS ?_)), (SlO.eqv (hm54.kd hk968 hd19) ?_), (SlO.eqv (hm55.kd hk968 hd20) ?_), hdc_Library_Maps_c2, (fun b_ h_ => .inl (.inl h_)), (fun b_ h_ => .inl (.inr h_)), (hB51.new hk968)⟩ <;> (rw [run_n (k := k) (by omega) (And.right ‹_ ∧ AllNum _›) (by omega)]; try rfl)
end Go.Proofs.YtndcchndcghmoaaGreatDoor
namespace Go.Proofs.YtndcchndcghmoaaGreatDoor
open Go Go.RowKit Fw
set_option maxRecDepth 10000
set_option maxHeartbeats 2000000
set_option linter.unusedVariables false
theorem ent56 : Ent Tryz.prog 56 := en Tryz.func56
theorem ent95 : Ent Tryz.prog 95 := en Tryz.func95
theorem ent96 : Ent Tryz.prog 96 := en Tryz.func96
theorem ent97 : Ent Tryz.prog 97 := en Tryz.func97
theorem ent98 : Ent Tryz.prog 98 := en Tryz.func98
theorem c_impl_reply (w : World) (x : Library) {Ax1 : Option Addr} {nx1 cx1 Bx1 : Nat} (hx1 : SlO w Bx1 encLMap 3 102 Ax1 nx1 cx1 x.Maps) {Ax2 : Option Addr} {nx2 cx2 Bx2 : Nat} (hx2 : SlO w Bx2 encAway 2 129 Ax2 nx2 cx2 x.Away) (s : List UInt8) (hdx_Maps_x2 : Dj Ax1 Ax2) (hp0 : (nx1 : Int) ≤ 8) (hp1 : (nx2 : Int) ≤ 8) (hp2 : LibOK x) (hp3 : (s.length : Int) ≤ 200) (hE : EnvW w) : Calls Tryz.prog 49 #[.agg (List.toArray (cLb Ax1 nx1 cx1 Ax2 nx2 cx2 x)), str s] w fun e w' => ∃ (A1' : Option Addr) (n1' c1' : Nat) (A2' : Option Addr) (n2' c2' : Nat), e = .returned (.tuple (List.toArray [.agg (List.toArray [.slice A1' n1' c1', .slice A2' n2' c2', .int .i64 (((repN x s).1).Bought), .int .i64 (((repN x s).1).Dropped), .int .i64 (((repN x s).1).Mended)]), str ((repN x s).2.1), .bool ((repN x s).2.2)])) ∧ SlO w' Bx1 encLMap 3 102 A1' n1' c1' (((repN x s).1).Maps) ∧ SlO w' Bx2 encAway 2 129 A2' n2' c2' (((repN x s).1).Away) ∧ Dj A1' A2' ∧ (∀ b_, A1' = some ⟨b_, 0, none⟩ → (Ax1 = some ⟨b_, 0, none⟩ ∨ Ax2 = some ⟨b_, 0, none⟩) ∨ w.heap.size ≤ b_) ∧ (∀ b_, A2' = some ⟨b_, 0, none⟩ → (Ax1 = some ⟨b_, 0, none⟩ ∨ Ax2 = some ⟨b_, 0, none⟩) ∨ w.heap.size ≤ b_) ∧ Lo w w' := by
 refine calls_W 82 Tryz.func49 rfl rfl rfl ?_
 have hcpx1 := hx1.rd.cap
 have hbbx1 := hx1.rd.bd
 have hbdx1 := hx1.rd.bound
 have hlex1 := hx1.len
 have hBbx1 := hx1.bd
 have hcpx2 := hx2.rd.cap
 have hbbx2 := hx2.rd.bd
 have hbdx2 := hx2.rd.bound
 have hlex2 := hx2.len
 have hBbx2 := hx2.bd
 refine Ws (Wr (SR.box (v := .agg (List.toArray _)) (l := (cLb Ax1 nx1 cx1 Ax2 nx2 cx2 x)) rfl rfl ?_))
 intro g1 w2 hg3 hk4 hs5 hb6
 refine SR.alloc (l := [.slice none 0 0, .slice none 0 0, .int .i64 0, .int .i64 0, .int .i64 0]) tz34 rfl ?_
 intro g11 w12 hg13 hk14 hs15 hb16
 have hB18 := ((Lo.refl w).lo hk4).lo hk14
 have hd19 := SlO.ne (g := g11) (hx1.lo hk4)
 have hd20 := SlO.ne (g := g11) (hx2.lo hk4)
 refine Q (r_as (v := str ([] : List UInt8)) rfl) <| Q (aB rfl) <| Qn (Ws (Wr (Q (mS rfl) <| SR.call ent56 (c_strings_Split1 w12 s ([32] : List UInt8) (by omega) rfl (hE.lo hB18)) rfl ?_)))
 rintro e w23 ⟨A25, n26, c27, rfl, hO28, hk24⟩
 refine ⟨_, rfl, ?_⟩
 have hz29 := hk24.size
 have hl31 := hO28.len
 have hl32 := hO28.rd.bound
 have hq33 := splitB_len (32 : UInt8) s
 refine Q (aL rfl) <| Qn (Ws (Wr (Q (r_as (v := .slice none 0 0) rfl) <| Qn (Ws (Ws (Wr (Q (mL rfl) <| Q (r_cutl (l := 1) tsl44 rfl rfl rfl (by omega)) <| Q (r_len und44 rfl) <| Q (r_mv (v := .int .i64 0) rfl) <| Qn (W.block (W.loop (σ := Nat × (Option Addr) × Nat × Nat) (fun g => [(2, .pointer (pA g1)), (4, .pointer (pA g11)), (7, .slice A25 n26 c27), (8, .slice g.2.1 g.2.2.1 g.2.2.2), (23, .slice (cutA A25 c27 1 1) (n26 - 1) (c27 - 1)), (24, .int .i64 ((n26 - 1 : Nat) : Int)), (25, .int .i64 (g.1 : Int))]) (fun g w' => (Lo w w') ∧ (Blk w' g1 34 (cLb Ax1 nx1 cx1 Ax2 nx2 cx2 x)) ∧ (SlO w' Bx1 encLMap 3 102 Ax1 nx1 cx1 x.Maps) ∧ (SlO w' Bx2 encAway 2 129 Ax2 nx2 cx2 x.Away) ∧ (Blk w' g11 34 [.slice none 0 0, .slice none 0 0, .int .i64 0, .int .i64 0, .int .i64 0]) ∧ (SlO w' w12.heap.size encS 1 9 A25 n26 c27 (splitB (32 : UInt8) s)) ∧ (SlR w' w23.heap.size encS 1 (cutA A25 c27 1 1) (n26 - 1) (c27 - 1) ((splitB (32 : UInt8) s).drop 1)) ∧ (SlO w' w.heap.size encI 1 3 g.2.1 g.2.2.1 g.2.2.2 (numsW (((splitB (32 : UInt8) s).drop 1).take g.1))) ∧ (¬ g.2.1 = some ⟨g1, 0, none⟩) ∧ (∀ b_, g.2.1 = some ⟨b_, 0, none⟩ → ¬ Ax1 = some ⟨b_, 0, none⟩) ∧ (∀ b_, g.2.1 = some ⟨b_, 0, none⟩ → ¬ Ax2 = some ⟨b_, 0, none⟩) ∧ (¬ g.2.1 = some ⟨g11, 0, none⟩) ∧ (∀ b_, g.2.1 = some ⟨b_, 0, none⟩ → ¬ A25 = some ⟨b_, 0, none⟩) ∧ (g.1 ≤ ((splitB (32 : UInt8) s).drop 1).length ∧ AllNum (((splitB (32 : UInt8) s).drop 1).take g.1))) (fun g => ((splitB (32 : UInt8) s).drop 1).length - g.1) (0, (none : Option Addr), 0, 0) ?_ ?_ ?_)))))))))
 ·exact (At.r rfl)
 ·show (Lo w w23) ∧ (Blk w23 g1 34 (cLb Ax1 nx1 cx1 Ax2 nx2 cx2 x)) ∧ (SlO w23 Bx1 encLMap 3 102 Ax1 nx1 cx1 x.Maps) ∧ (SlO w23 Bx2 encAway 2 129 Ax2 nx2 cx2 x.Away) ∧ (Blk w23 g11 34 [.slice none 0 0, .slice none 0 0, .int .i64 0, .int .i64 0, .int .i64 0]) ∧ (SlO w23 w12.heap.size encS 1 9 A25 n26 c27 (splitB (32 : UInt8) s)) ∧ (SlR w23 w23.heap.size encS 1 (cutA A25 c27 1 1) (n26 - 1) (c27 - 1) ((splitB (32 : UInt8) s).drop 1)) ∧ (SlO w23 w.heap.size encI 1 3 (none : Option Addr) 0 0 (numsW (((splitB (32 : UInt8) s).drop 1).take 0))) ∧ (¬ (none : Option Addr) = some ⟨g1, 0, none⟩) ∧ (∀ b_, (none : Option Addr) = some ⟨b_, 0, none⟩ → ¬ Ax1 = some ⟨b_, 0, none⟩) ∧ (∀ b_, (none : Option Addr) = some ⟨b_, 0, none⟩ → ¬ Ax2 = some ⟨b_, 0, none⟩) ∧ (¬ (none : Option Addr) = some ⟨g11, 0, none⟩) ∧ (∀ b_, (none : Option Addr) = some ⟨b_, 0, none⟩ → ¬ A25 = some ⟨b_, 0, none⟩) ∧ (0 ≤ ((splitB (32 : UInt8) s).drop 1).length ∧ AllNum (((splitB (32 : UInt8) s).drop 1).take 0))
  exact ⟨(hB18.lo hk24), ((hb6.lo hk14).lo hk24), ((hx1.lo hk4).lo hk14).lo hk24, ((hx2.lo hk4).lo hk14).lo hk24, hb16.lo hk24, hO28, hO28.rd.cutl (l := 1) (by omega), (SlO.eqv (SlO.nil (base := w.heap.size) (e := 3) (enc := encI) (fun _ => rfl) (by omega)) (by rfl)), (fun e => by cases e), (fun b_ h => by cases h), (fun b_ h => by cases h), (fun e => by cases e), (fun b_ h => by cases h), (by (try dsimp only); exact ⟨Nat.zero_le _, fun _ h => by simp at h⟩)⟩
 ·rintro ⟨k, A35, n35, c35⟩ f36 w37 hP39
  obtain ⟨hB38, hm40, hm41, hm42, hm43, hm44, hm45, hO46, hd48, hd49, hd50, hd51, hd52, hi47⟩ : (Lo w w37) ∧ (Blk w37 g1 34 (cLb Ax1 nx1 cx1 Ax2 nx2 cx2 x)) ∧ (SlO w37 Bx1 encLMap 3 102 Ax1 nx1 cx1 x.Maps) ∧ (SlO w37 Bx2 encAway 2 129 Ax2 nx2 cx2 x.Away) ∧ (Blk w37 g11 34 [.slice none 0 0, .slice none 0 0, .int .i64 0, .int .i64 0, .int .i64 0]) ∧ (SlO w37 w12.heap.size encS 1 9 A25 n26 c27 (splitB (32 : UInt8) s)) ∧ (SlR w37 w23.heap.size encS 1 (cutA A25 c27 1 1) (n26 - 1) (c27 - 1) ((splitB (32 : UInt8) s).drop 1)) ∧ (SlO w37 w.heap.size encI 1 3 A35 n35 c35 (numsW (((splitB (32 : UInt8) s).drop 1).take k))) ∧ (¬ A35 = some ⟨g1, 0, none⟩) ∧ Dj A35 Ax1 ∧ Dj A35 Ax2 ∧ (¬ A35 = some ⟨g11, 0, none⟩) ∧ Dj A35 A25 ∧ (k ≤ ((splitB (32 : UInt8) s).drop 1).length ∧ AllNum (((splitB (32 : UInt8) s).drop 1).take k)) := hP39
  refine (?_ : W _ _ _ _ _ (act _ (sets f36 [(2, .pointer (pA g1)), (4, .pointer (pA g11)), (7, .slice A25 n26 c27), (8, .slice A35 n35 c35), (23, .slice (cutA A25 c27 1 1) (n26 - 1) (c27 - 1)), (24, .int .i64 ((n26 - 1 : Nat) : Int)), (25, .int .i64 (k : Int))])) _)
  have hzw37 := hB38.size
  have hl53 := hm40.lt
  have hl54 := hm43.lt
  have hl55 := hO46.len
  have hl56 := hO46.rd.bound
  have hq57 : k ≤ ((splitB (32 : UInt8) s).drop 1).length := hi47.1
  have hq58 : (numsW (((splitB (32 : UInt8) s).drop 1).take k)).length = k := nmD_len (D := ((splitB (32 : UInt8) s).drop 1)) (k := k) (by omega)
  have hq59 : (splitB (32 : UInt8) s).length ≤ s.length + 1 := splitB_max (32 : UInt8) s
  have hq60 : ((splitB (32 : UInt8) s).drop 1).length + 1 = (splitB (32 : UInt8) s).length ∨ (splitB (32 : UInt8) s).length = 0 := drop_len (splitB (32 : UInt8) s)
  refine Ws (Wr (Q (r_lt rfl rfl) <| Qn (Ws (W.cond_d rfl (fun h61 => ?_) (fun h61 => ?_)))))
  ·refine W.skip (Ws (W.block (Ws ?_)))
   have hx63 := hm45.elem (i := k) (by omega)
   have hq64 := dropB_el hx63
   refine Wr (Q (r_ixR tsl44 hm45 rfl rfl (by omega)) <| Q (r_ld (v := str (gt ((splitB (32 : UInt8) s).drop 1) k)) sca9 rfl (hm45.cell0 hx63 rfl)) <| Q (aS rfl) <| Qn (Ws (Wr (Q (mS rfl) <| Qv ent95 (c_impl_ParseInt w37 (gt ((splitB (32 : UInt8) s).drop 1) k) (by omega) (hE.lo hB38)) rfl fun w65 hk66 hz67 => ?_))))
   have hB68 := hB38.lo hk66
   have hq69 : -999999 ≤ (readN (gt ((splitB (32 : UInt8) s).drop 1) k)).1 ∧ (readN (gt ((splitB (32 : UInt8) s).drop 1) k)).1 ≤ 999999 := readN_rng (gt ((splitB (32 : UInt8) s).drop 1) k)
   refine Q (mT rfl) <| Q (xI rfl rfl) <| Q (xB rfl rfl) <| Q (aI rfl) <| Q (aB rfl) <| Qn (Ws (Ws (Wr (Q (mB rfl) <| Q (r_not rfl) <| Qn (W.cond_b rfl (fun h70 => ?_) (fun h70 => ?_))))))
   ·have hq71 := bnot_t h70
    refine Ws (Wr (Q (lG agg34 rfl (hm40.lo hk66) rfl) <| Qw (o := 0) (vs := (cLb Ax1 nx1 cx1 Ax2 nx2 cx2 x)) agg34.2 rfl rfl rfl rfl (hm43.lo hk66) ler rfl ?_))
    intro w72 hk73 hs74 hb75
    refine Q (r_as (v := str ([] : List UInt8)) rfl) <| Q (aB rfl) <| Qn (W.ret (retCTT rfl rfl agg34 hb75 rfl (v := str _) rfl (v' := .bool _) rfl ?_))
    refine ⟨Ax1, nx1, cx1, Ax2, nx2, cx2, eR (eT3 (eA (eC rfl (eC rfl (eC (eI ?_) (eC (eI ?_) (eC (eI ?_) rfl)))))) (eS ?_) (eB ?_)), (SlO.eqv ((hm41.lo hk66).kd hk73 hd19) ?_), (SlO.eqv ((hm42.lo hk66).kd hk73 hd20) ?_), hdx_Maps_x2, (fun b_ h_ => .inl (.inl h_)), (fun b_ h_ => .inl (.inr h_)), (hB68.new hk73)⟩ <;> (rw [rep_bad ‹_[_]? = some _› ‹(!_) = true›]; try rfl)
   ·have hq78 := bnot_f h70
    refine W.skip (Wr (Q (mL rfl) <| Q (mI rfl) <| SR.lit (vs := [.int .i64 ((readN (gt ((splitB (32 : UInt8) s).drop 1) k)).1)]) (L := ([(readN (gt ((splitB (32 : UInt8) s).drop 1) k)).1] : List Int)) (enc := encI) tel93 (fun _ => rfl) rfl rfl rfl (by decide) ?_))
    intro g79 w80 hg81 hk82 hO83
    have hz84 := hk82.size
    refine SR.app tel93 rfl rfl ((hO46.lo hk66).lo hk82) (hO83.rd) (fun _ => rfl) (by omega) (by omega) ?_
    intro A90 c91 w92 hk93 hO94 hN95
    have hz96 := hk93.size
    have hd98 : Dj A90 Ax1 := fun b_ e' h' => (hN95 b_ e').elim (fun h => hd49 b_ (h.trans e') h') (fun h => by have := ((hm41.lo hk66).lo hk82).base_le h'; omega)
    have hd99 : Dj A90 Ax2 := fun b_ e' h' => (hN95 b_ e').elim (fun h => hd50 b_ (h.trans e') h') (fun h => by have := ((hm42.lo hk66).lo hk82).base_le h'; omega)
    have hd100 : ¬ A90 = some ⟨g1, 0, none⟩ := fun e' => (hN95 g1 e').elim (fun h => hd48 (h.trans e')) (fun h => by have := ((hm40.lo hk66).lo hk82).lt; omega)
    have hd101 : ¬ A90 = some ⟨g11, 0, none⟩ := fun e' => (hN95 g11 e').elim (fun h => hd51 (h.trans e')) (fun h => by have := ((hm43.lo hk66).lo hk82).lt; omega)
    have hd102 : Dj A90 A25 := fun b_ e' h' => (hN95 b_ e').elim (fun h => hd52 b_ (h.trans e') h') (fun h => by have := ((hm44.lo hk66).lo hk82).base_le h'; omega)
    refine Q (aL rfl) <| Qn ?_
    have hm109 := ((hm45.lo hk66).lo hk82).kpb hk93 (fun hn_ e' => hd52 _ e' (((hm44.lo hk66).lo hk82).cutb (by omega)))
    refine Wr (Q (r_add rfl rfl (by omega)) <| Q (mI rfl) <| Qn (⟨(k + 1, A90, n35 + 1, c91), _, rfl, (At.r rfl), (show (Lo w w92) ∧ (Blk w92 g1 34 (cLb Ax1 nx1 cx1 Ax2 nx2 cx2 x)) ∧ (SlO w92 Bx1 encLMap 3 102 Ax1 nx1 cx1 x.Maps) ∧ (SlO w92 Bx2 encAway 2 129 Ax2 nx2 cx2 x.Away) ∧ (Blk w92 g11 34 [.slice none 0 0, .slice none 0 0, .int .i64 0, .int .i64 0, .int .i64 0]) ∧ (SlO w92 w12.heap.size encS 1 9 A25 n26 c27 (splitB (32 : UInt8) s)) ∧ (SlR w92 w23.heap.size encS 1 (cutA A25 c27 1 1) (n26 - 1) (c27 - 1) ((splitB (32 : UInt8) s).drop 1)) ∧ (SlO w92 w.heap.size encI 1 3 A90 (n35 + 1) c91 (numsW (((splitB (32 : UInt8) s).drop 1).take (k + 1)))) ∧ (¬ A90 = some ⟨g1, 0, none⟩) ∧ Dj A90 Ax1 ∧ Dj A90 Ax2 ∧ (¬ A90 = some ⟨g11, 0, none⟩) ∧ Dj A90 A25 ∧ (k + 1 ≤ ((splitB (32 : UInt8) s).drop 1).length ∧ AllNum (((splitB (32 : UInt8) s).drop 1).take (k + 1))) from ⟨((hB68.lo hk82).step hk93 (fun i_ hi_ e' => by have := ((hO46.lo hk66).lo hk82).base_le e'; first | omega | exact e' | exact .inl e' | exact .inr e')), (((hm40.lo hk66).lo hk82).kp hk93 (fun e' => hd48 e')), (((hm41.lo hk66).lo hk82).kp hk93 (fun b_ hb e' => hd49 b_ e' hb)), (((hm42.lo hk66).lo hk82).kp hk93 (fun b_ hb e' => hd50 b_ e' hb)), (((hm43.lo hk66).lo hk82).kp hk93 (fun e' => hd51 e')), (((hm44.lo hk66).lo hk82).kp hk93 (fun b_ hb e' => hd52 b_ e' hb)), hm109, (SlO.eqv hO94 (by exact nmD_next ‹_[_]? = some _›)), hd100, hd98, hd99, hd101, hd102, ?_⟩), ?_⟩))
    ·exact (by (try dsimp only); exact ⟨by omega, allD_next (And.right ‹_ ∧ AllNum _›) ‹_[_]? = some _› ‹(!_) = false›⟩)
    ·exact (by (try dsimp only); omega)
  ·refine W.exit (xin_here (Ws (Ws (Wr (Q (mL rfl) <| ?_)))))
   have hx111 := (hm44.rd).elem (i := 0) (by omega)
   have hq112 := splitB_gt (32 : UInt8) s
   have hq113 := splitB_el hx111
   refine Q (r_ixR tsl44 (hm44.rd) rfl rfl (by omega)) <| Q (r_ld (v := str (gt (splitB (32 : UInt8) s) 0)) sca9 rfl ((hm44.rd).cell0 hx111 rfl)) <| Q (mL rfl) <| Qv ent96 (c_impl_stepFor w37 (gt (splitB (32 : UInt8) s) 0) (numsW (((splitB (32 : UInt8) s).drop 1).take k)) (hO46.rd)) rfl fun w114 hk115 hz116 => (Q (mT rfl) <| Q (xG rfl rfl) <| Q (xB rfl rfl) <| SR.alloc (l := [.int .i64 0, .int .i64 0, .int .i64 0, .int .i64 0]) tz106 rfl ?_)
   intro g118 w119 hg120 hk121 hs122 hb123
   refine Qw (o := 0) (vs := [.int .i64 (((impl_stepFor (gt (splitB (32 : UInt8) s) 0) (numsW (((splitB (32 : UInt8) s).drop 1).take k))).1).Kind), .int .i64 (((impl_stepFor (gt (splitB (32 : UInt8) s) 0) (numsW (((splitB (32 : UInt8) s).drop 1).take k))).1).Id), .int .i64 (((impl_stepFor (gt (splitB (32 : UInt8) s) 0) (numsW (((splitB (32 : UInt8) s).drop 1).take k))).1).Reader), .int .i64 (((impl_stepFor (gt (splitB (32 : UInt8) s) 0) (numsW (((splitB (32 : UInt8) s).drop 1).take k))).1).Value)]) agg106.2 rfl rfl rfl rfl hb123 ler rfl ?_
   intro w130 hk131 hs132 hb133
   have hB135 := ((hB38.lo hk115).lo hk121).new hk131
   refine Q (aB rfl) <| Qn (Ws ?_)
   have hm136 := ((hm40.lo hk115).lo hk121).kn hk131
   have hm137 := ((hm41.lo hk115).lo hk121).kd hk131 (SlO.ne (g := g118) (hm41.lo hk115))
   have hm138 := ((hm42.lo hk115).lo hk121).kd hk131 (SlO.ne (g := g118) (hm42.lo hk115))
   have hm139 := ((hm43.lo hk115).lo hk121).kn hk131
   have hm140 := ((hm44.lo hk115).lo hk121).kd hk131 (SlO.ne (g := g118) (hm44.lo hk115))
   refine Wr (Q (mB rfl) <| Qn (W.cond_b rfl (fun h142 => ?_) (fun h142 => ?_)))
   ·refine Ws (Wr (Q (lG agg34 rfl hm136 rfl) <| Q (lG agg106 rfl hb133 rfl) <| SR.call ent97 (c__impl_Library__stepped w130 x (hm137.rd) (hm138.rd) ((impl_stepFor (gt (splitB (32 : UInt8) s) 0) (numsW (((splitB (32 : UInt8) s).drop 1).take k))).1) (by omega) (by omega)) rfl ?_))
    rintro e w143 ⟨A145, n146, c147, A149, n150, c151, rfl, hO148, hO152, hd153, hk144⟩
    refine ⟨_, rfl, ?_⟩
    have hz154 := hk144.size
    have hl156 := hO148.len
    have hl157 := hO148.rd.bound
    have hq158 := (stepped_lenL x ((impl_stepFor (gt (splitB (32 : UInt8) s) 0) (numsW (((splitB (32 : UInt8) s).drop 1).take k))).1)).1
    have hl159 := hO152.len
    have hl160 := hO152.rd.bound
    have hq161 := (stepped_lenL x ((impl_stepFor (gt (splitB (32 : UInt8) s) 0) (numsW (((splitB (32 : UInt8) s).drop 1).take k))).1)).2
    refine Q (mT rfl) <| Q (xG rfl rfl) <| Q (xB rfl rfl) <| SR.alloc (l := [.slice none 0 0, .slice none 0 0, .int .i64 0, .int .i64 0, .int .i64 0]) tz34 rfl ?_
    intro g162 w163 hg164 hk165 hs166 hb167
    refine Qw (o := 0) (vs := [.slice A145 n146 c147, .slice A149 n150 c151, .int .i64 (((impl_Library_stepped x ((impl_stepFor (gt (splitB (32 : UInt8) s) 0) (numsW (((splitB (32 : UInt8) s).drop 1).take k))).1)).1).Bought), .int .i64 (((impl_Library_stepped x ((impl_stepFor (gt (splitB (32 : UInt8) s) 0) (numsW (((splitB (32 : UInt8) s).drop 1).take k))).1)).1).Dropped), .int .i64 (((impl_Library_stepped x ((impl_stepFor (gt (splitB (32 : UInt8) s) 0) (numsW (((splitB (32 : UInt8) s).drop 1).take k))).1)).1).Mended)]) agg34.2 rfl rfl rfl rfl hb167 ler rfl ?_
    intro w176 hk177 hs178 hb179
    have hB181 := ((hB135.lo hk144).lo hk165).new hk177
    refine Q (aB rfl) <| Qn (Ws (Ws ?_))
    have hm185 := ((hm139.lo hk144).lo hk165).kn hk177
    have hm189 := (hO148.lo hk165).kd hk177 (SlO.ne (g := g162) hO148)
    have hm190 := (hO152.lo hk165).kd hk177 (SlO.ne (g := g162) hO152)
    refine Wr (Q (mB rfl) <| Q (r_not rfl) <| Qn (W.cond_b rfl (fun h191 => ?_) (fun h191 => ?_)))
    ·have hq192 := bnot_t h191
     refine Ws (Wr (Q (lG agg34 rfl (((hm136.lo hk144).lo hk165).kn hk177) rfl) <| Qw (o := 0) (vs := (cLb Ax1 nx1 cx1 Ax2 nx2 cx2 x)) agg34.2 rfl rfl rfl rfl hm185 ler rfl ?_))
     intro w193 hk194 hs195 hb196
     refine Q (r_as (v := str ([] : List UInt8)) rfl) <| Q (aB rfl) <| Qn (W.ret (retCTT rfl rfl agg34 hb196 rfl (v := str _) rfl (v' := .bool _) rfl ?_))
     refine ⟨Ax1, nx1, cx1, Ax2, nx2, cx2, eR (eT3 (eA (eC rfl (eC rfl (eC (eI ?_) (eC (eI ?_) (eC (eI ?_) rfl)))))) (eS ?_) (eB ?_)), (SlO.eqv ((((hm137.lo hk144).lo hk165).kd hk177 (SlO.ne (g := g162) (hm137.lo hk144))).kd hk194 hd19) ?_), (SlO.eqv ((((hm138.lo hk144).lo hk165).kd hk177 (SlO.ne (g := g162) (hm138.lo hk144))).kd hk194 hd20) ?_), hdx_Maps_x2, (fun b_ h_ => .inl (.inl h_)), (fun b_ h_ => .inl (.inr h_)), (hB181.new hk194)⟩ <;> (rw [rep_no (k := k) (by omega) (And.right ‹_ ∧ AllNum _›) (by assumption) (by assumption)]; try rfl)
    ·have hq199 := bnot_f h191
     refine W.skip (Ws (Wr (Q (lG agg34 rfl hb179 rfl) <| Q (fA fa106_1 rfl) <| Q (lB sca3 rfl (((hb133.lo hk144).lo hk165).kn hk177) rfl) <| Qv ent73 (c_impl_MapText w176 ((impl_Library_stepped x ((impl_stepFor (gt (splitB (32 : UInt8) s) 0) (numsW (((splitB (32 : UInt8) s).drop 1).take k))).1)).1) (hm189.rd) (hm190.rd) (((impl_stepFor (gt (splitB (32 : UInt8) s) 0) (numsW (((splitB (32 : UInt8) s).drop 1).take k))).1).Id) (by omega) (hE.lo hB181)) rfl fun w200 hk201 hz202 => ?_)))
     have hq204 : (mapT ((impl_Library_stepped x ((impl_stepFor (gt (splitB (32 : UInt8) s) 0) (numsW (((splitB (32 : UInt8) s).drop 1).take k))).1)).1) (((impl_stepFor (gt (splitB (32 : UInt8) s) 0) (numsW (((splitB (32 : UInt8) s).drop 1).take k))).1).Id)).1.length ≤ 75 := mapT_len ((impl_Library_stepped x ((impl_stepFor (gt (splitB (32 : UInt8) s) 0) (numsW (((splitB (32 : UInt8) s).drop 1).take k))).1)).1) (((impl_stepFor (gt (splitB (32 : UInt8) s) 0) (numsW (((splitB (32 : UInt8) s).drop 1).take k))).1).Id)
     refine Q (mT rfl) <| Q (xS rfl rfl) <| Q (xB rfl rfl) <| Q (aS rfl) <| Q (aB rfl) <| Qn (Ws (Wr (Q (lG agg34 rfl (hb179.lo hk201) rfl) <| Q (mS rfl) <| Q (mB rfl) <| Qw (o := 0) (vs := [.slice A145 n146 c147, .slice A149 n150 c151, .int .i64 (((impl_Library_stepped x ((impl_stepFor (gt (splitB (32 : UInt8) s) 0) (numsW (((splitB (32 : UInt8) s).drop 1).take k))).1)).1).Bought), .int .i64 (((impl_Library_stepped x ((impl_stepFor (gt (splitB (32 : UInt8) s) 0) (numsW (((splitB (32 : UInt8) s).drop 1).take k))).1)).1).Dropped), .int .i64 (((impl_Library_stepped x ((impl_stepFor (gt (splitB (32 : UInt8) s) 0) (numsW (((splitB (32 : UInt8) s).drop 1).take k))).1)).1).Mended)]) agg34.2 rfl rfl rfl rfl (hm185.lo hk201) ler rfl ?_)))
     intro w205 hk206 hs207 hb208
     refine Q (aS rfl) <| Q (aB rfl) <| Qn (W.ret (retCTT rfl rfl agg34 hb208 rfl (v := str _) rfl (v' := .bool _) rfl ?_))
     refine ⟨A145, n146, c147, A149, n150, c151, eR (eT3 (eA (eC rfl (eC rfl (eC (eI ?_) (eC (eI ?_) (eC (eI ?_) rfl)))))) (eS ?_) (eB ?_)), (SlO.eqv (((hm189.lo hk201).kn hk206).down) ?_), (SlO.eqv (((hm190.lo hk201).kn hk206).down) ?_), hd153, (fun b_ h => .inr (by have := ((hm189.lo hk201).kn hk206).base_le h; omega)), (fun b_ h => .inr (by have := ((hm190.lo hk201).kn hk206).base_le h; omega)), ((hB181.lo hk201).new hk206)⟩ <;> (rw [rep_yes (k := k) (by omega) (And.right ‹_ ∧ AllNum _›) (by assumption) (by assumption)]; try rfl)
   ·refine W.skip (Ws (W.regD mo (by kernel_rfl) (QR.q' (fun w' hw' => r_lda (l := (cLb Ax1 nx1 cx1 Ax2 nx2 cx2 x)) agg34 rfl (fun _ _ hu => (hm136.lo hw').cell hu) rfl) <| QR.q' (fun w' hw' => r_mv (v := .slice _ _ _) rfl) <| QR.q' (fun w' hw' => r_ixR tsl44 ((hm140.lo hw').rd) rfl rfl (by omega)) <| QR.q' (fun w' hw' => r_ld (v := str (gt (splitB (32 : UInt8) s) 0)) sca9 rfl (((hm140.lo hw').rd).cell0 hx111 rfl)) <| QR.q' (fun w' hw' => r_mv (v := .slice _ _ _) rfl) <| QR.call ent98 (fun w' hw' => (c_impl_tell w' x ((hm137.lo hw').rd) ((hm138.lo hw').rd) (gt (splitB (32 : UInt8) s) 0) (numsW (((splitB (32 : UInt8) s).drop 1).take k)) (((((hO46.lo hk115).lo hk121).kd hk131 (SlO.ne (g := g118) (hO46.lo hk115))).lo hw').rd) (by omega) (by omega) (by omega) (by assumption) (by exact ‹LibOK _›.1.1) (hE.lo (hB135.trans hw'))).mono fun _ _ h => ⟨h.1, hw'.trans h.2⟩) rfl <| QR.q' (fun w' hw' => r_mv (v := .tuple (List.toArray _)) rfl) <| QR.q' (fun w' hw' => r_ext (v := str _) rfl rfl) <| QR.q' (fun w' hw' => r_ext (v := .bool _) rfl rfl) <| QR.q' (fun w' hw' => r_as (v := str _) rfl) <| QR.q' (fun w' hw' => r_as (v := .bool _) rfl) <| QR.nil ?_)))
    intro w211 hk212
    have hz213 := hk212.size
    refine Ws (Wr (Q (lG agg34 rfl (hm136.lo hk212) rfl) <| Q (mS rfl) <| Q (mB rfl) <| Qw (o := 0) (vs := (cLb Ax1 nx1 cx1 Ax2 nx2 cx2 x)) agg34.2 rfl rfl rfl rfl (hm139.lo hk212) ler rfl ?_))
    intro w215 hk216 hs217 hb218
    refine Q (aS rfl) <| Q (aB rfl) <| Qn (W.ret (retCTT rfl rfl agg34 hb218 rfl (v := str _) rfl (v' := .bool _) rfl ?_))
    refine ⟨Ax1, nx1, cx1, Ax2, nx2, cx2, eR (eT3 (eA (eC rfl (eC rfl (eC (eI ?_) (eC (eI ?_) (eC (eI ?_) rfl)))))) (eS ?_) (eB ?_)), (SlO.eqv ((hm137.lo hk212).kd hk216 hd19) ?_), (SlO.eqv ((hm138.lo hk212).kd hk216 hd20) ?_), hdx_Maps_x2, (fun b_ h_ => .inl (.inl h_)), (fun b_ h_ => .inl (.inr h_)), ((hB135.lo hk212).new hk216)⟩ <;> (rw [rep_tell (k := k) (by omega) (And.right ‹_ ∧ AllNum _›) (by assumption)]; try rfl)
end Go.Proofs.YtndcchndcghmoaaGreatDoor
