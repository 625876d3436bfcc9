/- Walks, printed by a program of this claim's author. -/
import Derived.Test.YtdldiiboanhabaaDoorChecked
import Derived.Test.YtdldiiboanhabaaDoorVb
import Derived.Test.YtdldiiboanhabaaDoorSi
import Derived.Test.YtdldiiboanhabaaDoorG33l
namespace Go.Proofs.YtdldiiboanhabaaDoor
open Go Go.RowKit Fw
set_option maxRecDepth 10000
set_option linter.unusedVariables false
theorem ent19 : Ent Tryd.prog 19 := ent_of Tryd.func19 (by decide +kernel) rfl
theorem ent20 : Ent Tryd.prog 20 := ent_of Tryd.func20 (by decide +kernel) rfl
theorem ent21 : Ent Tryd.prog 21 := ent_of Tryd.func21 (by decide +kernel) rfl
theorem ent22 : Ent Tryd.prog 22 := ent_of Tryd.func22 (by decide +kernel) rfl
theorem ent23 : Ent Tryd.prog 23 := ent_of Tryd.func23 (by decide +kernel) rfl
theorem ent56 : Ent Tryd.prog 56 := ent_of Tryd.func56 (by decide +kernel) rfl
theorem ent57 : Ent Tryd.prog 57 := ent_of Tryd.func57 (by decide +kernel) rfl
theorem ent58 : Ent Tryd.prog 58 := ent_of Tryd.func58 (by decide +kernel) rfl

theorem z_c_spec_LibReport_14 (L : List LibRow) (nL : Nat) (hbdL : (nL : Int) ≤ 9223372036854775807) (hleL : nL = L.length) (n4 : Nat) (hl9 : n4 = (totL L).length) (hl10 : (n4 : Int) ≤ 9223372036854775807) (hq11 : (totL L).length ≤ 4) (hq12 : RowsOK L → (totL L).length = 4) (h13 : ¬ (RowsOK L)) : ([] : List UInt8) = reportF L := by
  subst hleL; unfold reportF; first | (rw [if_neg ‹_›]; done) | (rw [if_pos ‹RowsOK L›, show k = L.length by omega]; have e1 := ‹_ = lentS L›; rw [e1]; done)
theorem z_c_spec_LibReport_15 (L : List LibRow) (nL : Nat) (hbdL : (nL : Int) ≤ 9223372036854775807) (hleL : nL = L.length) (n4 : Nat) (hl9 : n4 = (totL L).length) (hl10 : (n4 : Int) ≤ 9223372036854775807) (hq11 : (totL L).length ≤ 4) (hq12 : RowsOK L → (totL L).length = 4) (h13 : ¬ (RowsOK L)) : ¬ (RowsOK L) := by
  first | assumption | trivial
theorem z_c_spec_LibReport_18 (L : List LibRow) (nL : Nat) (hbdL : (nL : Int) ≤ 9223372036854775807) (hleL : nL = L.length) (n4 : Nat) (hl9 : n4 = (totL L).length) (hl10 : (n4 : Int) ≤ 9223372036854775807) (hq11 : (totL L).length ≤ 4) (hq12 : RowsOK L → (totL L).length = 4) (h13 : RowsOK L) (hq16 : L.length ≤ 12) (hq17 : (totL L).length = 4) : 0 ≤ nL := by
  omega
theorem z_c_spec_LibReport_36 (L : List LibRow) (nL : Nat) (hbdL : (nL : Int) ≤ 9223372036854775807) (hleL : nL = L.length) (n4 : Nat) (hl9 : n4 = (totL L).length) (hl10 : (n4 : Int) ≤ 9223372036854775807) (hq11 : (totL L).length ≤ 4) (hq12 : RowsOK L → (totL L).length = 4) (h13 : RowsOK L) (hq16 : L.length ≤ 12) (hq17 : (totL L).length = 4) (k : Nat) (hi25 : k ≤ nL) (hq26 : (repT L k).length ≤ 301 * k) (h27 : (k : Int) < (nL : Int)) (x28 : LibRow) (hx29 : L[k]? = some x28) (hq30 : ((1 : Int) ≤ x28.Month ∧ x28.Month ≤ 1200) ∧ ((0 : Int) ≤ x28.Lent ∧ x28.Lent ≤ 9999) ∧ ((0 : Int) ≤ x28.Copied ∧ x28.Copied ≤ 9999) ∧ ((0 : Int) ≤ x28.Given ∧ x28.Given ≤ 999) ∧ ((0 : Int) ≤ x28.Fines ∧ x28.Fines ≤ 99999)) (hq35 : (lineT x28).length ≤ 300) : k + 1 ≤ nL := by
  omega
theorem z_c_spec_LibReport_37 (L : List LibRow) (nL : Nat) (hbdL : (nL : Int) ≤ 9223372036854775807) (hleL : nL = L.length) (n4 : Nat) (hl9 : n4 = (totL L).length) (hl10 : (n4 : Int) ≤ 9223372036854775807) (hq11 : (totL L).length ≤ 4) (hq12 : RowsOK L → (totL L).length = 4) (h13 : RowsOK L) (hq16 : L.length ≤ 12) (hq17 : (totL L).length = 4) (k : Nat) (hi25 : k ≤ nL) (hq26 : (repT L k).length ≤ 301 * k) (h27 : (k : Int) < (nL : Int)) (x28 : LibRow) (hx29 : L[k]? = some x28) (hq30 : ((1 : Int) ≤ x28.Month ∧ x28.Month ≤ 1200) ∧ ((0 : Int) ≤ x28.Lent ∧ x28.Lent ≤ 9999) ∧ ((0 : Int) ≤ x28.Copied ∧ x28.Copied ≤ 9999) ∧ ((0 : Int) ≤ x28.Given ∧ x28.Given ≤ 999) ∧ ((0 : Int) ≤ x28.Fines ∧ x28.Fines ≤ 99999)) (hq35 : (lineT x28).length ≤ 300) : nL - (k + 1) < nL - k := by
  omega
theorem z_c_spec_LibReport_47 (L : List LibRow) (nL : Nat) (hbdL : (nL : Int) ≤ 9223372036854775807) (hleL : nL = L.length) (n4 : Nat) (hl9 : n4 = (totL L).length) (hl10 : (n4 : Int) ≤ 9223372036854775807) (hq11 : (totL L).length ≤ 4) (hq12 : RowsOK L → (totL L).length = 4) (h13 : RowsOK L) (hq16 : L.length ≤ 12) (hq17 : (totL L).length = 4) (k : Nat) (hi25 : k ≤ nL) (hq26 : (repT L k).length ≤ 301 * k) (h27 : ¬ ((k : Int) < (nL : Int))) (x38 : Int) (hx39 : (totL L)[0]? = some x38) (hq40 : x38 = lentS L) (hq41 : 0 ≤ lentS L ∧ lentS L ≤ 1000000) (hq46 : (Lib.itoa x38).length ≤ 21) : ((repT L k) ++ ([108, 101, 110, 116, 32] : List UInt8)) ++ (Lib.itoa x38) = reportF L := by
  subst hleL; unfold reportF; first | (rw [if_neg ‹_›]; done) | (rw [if_pos ‹RowsOK L›, show k = L.length by omega]; have e1 := ‹_ = lentS L›; rw [e1]; done)
theorem z_c_spec_LibReport_48 (L : List LibRow) (nL : Nat) (hbdL : (nL : Int) ≤ 9223372036854775807) (hleL : nL = L.length) (n4 : Nat) (hl9 : n4 = (totL L).length) (hl10 : (n4 : Int) ≤ 9223372036854775807) (hq11 : (totL L).length ≤ 4) (hq12 : RowsOK L → (totL L).length = 4) (h13 : RowsOK L) (hq16 : L.length ≤ 12) (hq17 : (totL L).length = 4) (k : Nat) (hi25 : k ≤ nL) (hq26 : (repT L k).length ≤ 301 * k) (h27 : ¬ ((k : Int) < (nL : Int))) (x38 : Int) (hx39 : (totL L)[0]? = some x38) (hq40 : x38 = lentS L) (hq41 : 0 ≤ lentS L ∧ lentS L ≤ 1000000) (hq46 : (Lib.itoa x38).length ≤ 21) : RowsOK L := by
  first | assumption | trivial
theorem c_spec_LibReport (w : World) {AL : Option Addr} {nL cL BL : Nat}  (L : List LibRow) (hL : SlR w BL encLibRow 5 AL nL cL L) : Calls Tryd.prog 20 #[.slice AL nL cL] w fun e w' => e = .returned (.tuple (List.toArray [str (reportF L), .bool (decide (RowsOK L))])) ∧ Lo w w' := by
  refine calls_W 36 Tryd.func20 rfl rfl rfl ?_
  have hbdL := hL.bound
  have hleL := hL.len
  have hBbL := hL.bd
  refine W.seq ?_
  refine W.regS (SR.q' (r_as (v := str ([] : List UInt8)) rfl) <| SR.q' (r_as (v := .bool false) rfl) <| SR.nil ?_)
  refine W.seq ?_
  refine W.regS (SR.q' (r_mv (v := .slice _ _ _) rfl) <| SR.call ent56 (c_spec_LibTotals w L ((hL))) rfl ?_)
  rintro e w1 ⟨A3, n4, c5, rfl, hO6, hk2⟩
  refine ⟨_, rfl, ?_⟩
  have hz7 := hk2.size
  have hB8 := (Lo.refl w).lo hk2
  have hl9 := hO6.len
  have hl10 := hO6.rd.bound
  have hq11 := totL_len L
  have hq12 := totL_len4 L
  refine SR.q' (r_mv (v := .tuple (List.toArray _)) rfl) <| SR.q' (r_ext (v := .slice _ _ _) rfl rfl) <| SR.q' (r_ext (v := .bool _) rfl rfl) <| SR.q' (r_as (v := .slice _ _ _) rfl) <| SR.q' (r_as (v := .bool _) rfl) <| SR.nil ?_
  refine W.seq ?_
  refine W.seq ?_
  refine W.regS (SR.q' (r_mv (v := .bool _) rfl) <| SR.q' (r_not rfl) <| SR.nil ?_)
  refine W.cond_n rfl (fun h13 => ?_) (fun h13 => ?_)
  · refine W.seq ?_
    refine W.regS (SR.q' (r_as (v := str ([] : List UInt8)) rfl) <| SR.q' (r_as (v := .bool false) rfl) <| SR.nil ?_)
    refine W.ret ?_
    refine ret2 rfl (v := str _) (v' := .bool _) rfl rfl ?_
    exact ⟨eR (eT2 (eS (z_c_spec_LibReport_14 L nL hbdL hleL n4 hl9 hl10 hq11 hq12 h13)) (eDF (z_c_spec_LibReport_15 L nL hbdL hleL n4 hl9 hl10 hq11 hq12 h13))), hB8⟩
  · have hq16 := rows_len h13
    have hq17 := totL_len4 _ h13
    refine W.skip ?_
    refine W.seq ?_
    refine W.regS (SR.q' (r_as (v := str ([] : List UInt8)) rfl) <| SR.nil ?_)
    refine W.seq ?_
    refine W.seq ?_
    refine W.regS (SR.q' (r_as (v := .int .i64 0) rfl) <| SR.nil ?_)
    refine W.block ?_
    refine W.loop (σ := Nat) (fun g => [(0, .slice AL nL cL), (2, str ([] : List UInt8)), (3, .bool false), (4, .slice A3 n4 c5), (6, str (repT L g)), (7, .int .i64 (g : Int))]) (fun g w' => (Lo w w') ∧ (SlR w' BL encLibRow 5 AL nL cL L) ∧ (SlO w' w.heap.size encI 1 3 A3 n4 c5 (totL L)) ∧ (g ≤ nL)) (fun g => nL - g) 0 ?_ ?_ ?_
    · exact ⟨rfl, rfl, rfl, rfl, (eS (by first | (first | omega | rfl | (rw [show repT L (k + 1) = repT L k ++ (lineT (gt L k) ++ [10]) from rfl, gt_eq ‹L[k]? = some _›]; first | done | (simp only [List.append_assoc]; done))) | (dsimp only; (first | omega | rfl | (rw [show repT L (k + 1) = repT L k ++ (lineT (gt L k) ++ [10]) from rfl, gt_eq ‹L[k]? = some _›]; first | done | (simp only [List.append_assoc]; done)))))), (eI (by first | (first | omega | rfl | (rw [show repT L (k + 1) = repT L k ++ (lineT (gt L k) ++ [10]) from rfl, gt_eq ‹L[k]? = some _›]; first | done | (simp only [List.append_assoc]; done))) | (dsimp only; (first | omega | rfl | (rw [show repT L (k + 1) = repT L k ++ (lineT (gt L k) ++ [10]) from rfl, gt_eq ‹L[k]? = some _›]; first | done | (simp only [List.append_assoc]; done)))))), trivial⟩
    · exact ⟨hB8, (hL).lo hk2, hO6, (z_c_spec_LibReport_18 L nL hbdL hleL n4 hl9 hl10 hq11 hq12 h13 hq16 hq17)⟩
    · rintro k f19 w20 hP22
      obtain ⟨hB21, hm23, hm24, hi25⟩ : (Lo w w20) ∧ (SlR w20 BL encLibRow 5 AL nL cL L) ∧ (SlO w20 w.heap.size encI 1 3 A3 n4 c5 (totL L)) ∧ (k ≤ nL) := hP22
      refine (?_ : W _ _ _ _ _ (act _ (sets f19 [(0, .slice AL nL cL), (2, str ([] : List UInt8)), (3, .bool false), (4, .slice A3 n4 c5), (6, str (repT L k)), (7, .int .i64 (k : Int))])) _)
      have hzw20 := hB21.size
      have hq26 : (repT L k).length ≤ 301 * k := rep_len ‹RowsOK L› k (by omega)
      refine W.seq ?_
      refine W.seq ?_
      refine W.regS (SR.q' (r_mv (v := .int .i64 _) rfl) <| SR.q' (r_mv (v := .slice _ _ _) rfl) <| SR.q' (r_len und38 rfl) <| SR.q' (r_lt rfl rfl) <| SR.nil ?_)
      refine W.cond_d rfl (fun h27 => ?_) (fun h27 => ?_)
      · refine W.skip ?_
        refine W.seq ?_
        refine W.block ?_
        refine W.regS (SR.q' (r_mv (v := str _) rfl) <| SR.q' (r_mv (v := .slice _ _ _) rfl) <| SR.q' (r_mv (v := .int .i64 _) rfl) <| ?_)
        obtain ⟨x28, hx29⟩ := (hm23).get (i := k) (by omega)
        have hq30 := rows_rng h13 hx29
        refine SR.q' (r_ixR tsl38 (hm23) rfl rfl (by omega)) <| SR.q' (r_lda (l := encLibRow x28) agg32 rfl (fun _ _ hu => (hm23).cell hx29 hu) ((hm23).esz _)) <| SR.call ent53 (c_spec_l31Line w20 x28 (by first | assumption | exact rows_row ‹RowsOK L› ‹_[_]? = some _›)) rfl ?_
        rintro e w31 ⟨rfl, hk32⟩
        refine ⟨_, rfl, ?_⟩
        have hz33 := hk32.size
        have hB34 := hB21.lo hk32
        have hq35 : (lineT x28).length ≤ 300 := line_len (by first | assumption | exact rows_row ‹RowsOK L› ‹_[_]? = some _›)
        refine SR.q' (r_cat rfl rfl (by first | omega | (simp only [List.length_append, List.length_cons, List.length_nil, List.length_take, List.length_drop]; omega))) <| SR.q' (r_cat rfl rfl (by first | omega | (simp only [List.length_append, List.length_cons, List.length_nil, List.length_take, List.length_drop]; omega))) <| SR.q' (r_as (v := str _) rfl) <| SR.nil ?_
        refine W.regS (SR.q' (r_mv (v := .int .i64 _) rfl) <| SR.q' (r_add rfl rfl (by omega)) <| SR.q' (r_as (v := .int .i64 _) rfl) <| SR.nil ?_)
        refine ⟨k + 1, _, rfl, ⟨rfl, rfl, rfl, rfl, (eS (by first | (first | omega | rfl | (rw [show repT L (k + 1) = repT L k ++ (lineT (gt L k) ++ [10]) from rfl, gt_eq ‹L[k]? = some _›]; first | done | (simp only [List.append_assoc]; done))) | (dsimp only; (first | omega | rfl | (rw [show repT L (k + 1) = repT L k ++ (lineT (gt L k) ++ [10]) from rfl, gt_eq ‹L[k]? = some _›]; first | done | (simp only [List.append_assoc]; done)))))), (eI (by first | (first | omega | rfl | (rw [show repT L (k + 1) = repT L k ++ (lineT (gt L k) ++ [10]) from rfl, gt_eq ‹L[k]? = some _›]; first | done | (simp only [List.append_assoc]; done))) | (dsimp only; (first | omega | rfl | (rw [show repT L (k + 1) = repT L k ++ (lineT (gt L k) ++ [10]) from rfl, gt_eq ‹L[k]? = some _›]; first | done | (simp only [List.append_assoc]; done)))))), trivial⟩, ⟨hB34, (hm23).lo hk32, (hm24).lo hk32, ?_⟩, ?_⟩
        · exact (z_c_spec_LibReport_36 L nL hbdL hleL n4 hl9 hl10 hq11 hq12 h13 hq16 hq17 k hi25 hq26 h27 x28 hx29 hq30 hq35)
        · exact (z_c_spec_LibReport_37 L nL hbdL hleL n4 hl9 hl10 hq11 hq12 h13 hq16 hq17 k hi25 hq26 h27 x28 hx29 hq30 hq35)
      · refine W.exit (xin_here ?_)
        refine W.seq ?_
        refine W.regS (SR.q' (r_mv (v := str _) rfl) <| SR.q' (r_cat rfl rfl (by first | omega | (simp only [List.length_append, List.length_cons, List.length_nil, List.length_take, List.length_drop]; omega))) <| SR.q' (r_mv (v := .slice _ _ _) rfl) <| ?_)
        obtain ⟨x38, hx39⟩ := ((hm24).rd).get (i := 0) (by omega)
        have hq40 := totL_zero ‹RowsOK L› hx39
        have hq41 := lent_ok ‹RowsOK L›
        refine SR.q' (r_ixR tsl76 ((hm24).rd) rfl rfl (by omega)) <| SR.q' (r_ld (v := .int .i64 x38) sca3 rfl (((hm24).rd).cell0 hx39 rfl)) <| SR.call ent47 (c_spec_l1Num w20 x38 (by omega)) rfl ?_
        rintro e w42 ⟨rfl, hk43⟩
        refine ⟨_, rfl, ?_⟩
        have hz44 := hk43.size
        have hB45 := hB21.lo hk43
        have hq46 : (Lib.itoa x38).length ≤ 21 := itoa_len (n := x38) (by omega) (by omega)
        refine SR.q' (r_cat rfl rfl (by first | omega | (simp only [List.length_append, List.length_cons, List.length_nil, List.length_take, List.length_drop]; omega))) <| SR.q' (r_as (v := str _) rfl) <| SR.q' (r_as (v := .bool true) rfl) <| SR.nil ?_
        refine W.ret ?_
        refine ret2 rfl (v := str _) (v' := .bool _) rfl rfl ?_
        exact ⟨eR (eT2 (eS (z_c_spec_LibReport_47 L nL hbdL hleL n4 hl9 hl10 hq11 hq12 h13 hq16 hq17 k hi25 hq26 h27 x38 hx39 hq40 hq41 hq46)) (eDT (z_c_spec_LibReport_48 L nL hbdL hleL n4 hl9 hl10 hq11 hq12 h13 hq16 hq17 k hi25 hq26 h27 x38 hx39 hq40 hq41 hq46))), hB45⟩

theorem z_c_impl_LibReport_6 (L : List LibRow) (nL : Nat) (hbdL : (nL : Int) ≤ 9223372036854775807) (hleL : nL = L.length) (h5 : ¬ (RowsOK L)) : ([] : List UInt8) = reportF L := by
  subst hleL; unfold reportF; first | (rw [if_neg ‹_›]; done) | (rw [if_pos ‹RowsOK L›, show k = L.length by omega]; have e1 := ‹_ = lentS L›; rw [e1]; done)
theorem z_c_impl_LibReport_7 (L : List LibRow) (nL : Nat) (hbdL : (nL : Int) ≤ 9223372036854775807) (hleL : nL = L.length) (h5 : ¬ (RowsOK L)) : ¬ (RowsOK L) := by
  first | assumption | trivial
theorem z_c_impl_LibReport_10 (L : List LibRow) (nL : Nat) (hbdL : (nL : Int) ≤ 9223372036854775807) (hleL : nL = L.length) (h5 : RowsOK L) (hq8 : L.length ≤ 12) (hq9 : (totL L).length = 4) : 0 ≤ nL := by
  omega
theorem z_c_impl_LibReport_41 (L : List LibRow) (nL : Nat) (hbdL : (nL : Int) ≤ 9223372036854775807) (hleL : nL = L.length) (h5 : RowsOK L) (hq8 : L.length ≤ 12) (hq9 : (totL L).length = 4) (k : Nat) (hi16 : k ≤ nL) (hq17 : (repT L k).length ≤ 301 * k) (h18 : (k : Int) < (nL : Int)) (x19 : LibRow) (hx20 : L[k]? = some x19) (hq21 : ((1 : Int) ≤ x19.Month ∧ x19.Month ≤ 1200) ∧ ((0 : Int) ≤ x19.Lent ∧ x19.Lent ≤ 9999) ∧ ((0 : Int) ≤ x19.Copied ∧ x19.Copied ≤ 9999) ∧ ((0 : Int) ≤ x19.Given ∧ x19.Given ≤ 999) ∧ ((0 : Int) ≤ x19.Fines ∧ x19.Fines ≤ 99999)) (hq40 : (lineT x19).length ≤ 300) : k + 1 ≤ nL := by
  omega
theorem z_c_impl_LibReport_42 (L : List LibRow) (nL : Nat) (hbdL : (nL : Int) ≤ 9223372036854775807) (hleL : nL = L.length) (h5 : RowsOK L) (hq8 : L.length ≤ 12) (hq9 : (totL L).length = 4) (k : Nat) (hi16 : k ≤ nL) (hq17 : (repT L k).length ≤ 301 * k) (h18 : (k : Int) < (nL : Int)) (x19 : LibRow) (hx20 : L[k]? = some x19) (hq21 : ((1 : Int) ≤ x19.Month ∧ x19.Month ≤ 1200) ∧ ((0 : Int) ≤ x19.Lent ∧ x19.Lent ≤ 9999) ∧ ((0 : Int) ≤ x19.Copied ∧ x19.Copied ≤ 9999) ∧ ((0 : Int) ≤ x19.Given ∧ x19.Given ≤ 999) ∧ ((0 : Int) ≤ x19.Fines ∧ x19.Fines ≤ 99999)) (hq40 : (lineT x19).length ≤ 300) : nL - (k + 1) < nL - k := by
  omega
theorem z_c_impl_LibReport_63 (L : List LibRow) (nL : Nat) (hbdL : (nL : Int) ≤ 9223372036854775807) (hleL : nL = L.length) (h5 : RowsOK L) (hq8 : L.length ≤ 12) (hq9 : (totL L).length = 4) (k : Nat) (hi16 : k ≤ nL) (hq17 : (repT L k).length ≤ 301 * k) (h18 : ¬ ((k : Int) < (nL : Int))) (n46 : Nat) (hl51 : n46 = (totN L).length) (hl52 : (n46 : Int) ≤ 9223372036854775807) (hq53 : (totN L).length = 4) (x54 : Int) (hx55 : (totN L)[0]? = some x54) (hq56 : x54 = lentS L) (hq57 : 0 ≤ lentS L ∧ lentS L ≤ 1000000) (hq62 : (Lib.itoa x54).length ≤ 21) : ((repT L k) ++ ([108, 101, 110, 116, 32] : List UInt8)) ++ (Lib.itoa x54) = reportF L := by
  subst hleL; unfold reportF; first | (rw [if_neg ‹_›]; done) | (rw [if_pos ‹RowsOK L›, show k = L.length by omega]; have e1 := ‹_ = lentS L›; rw [e1]; done)
theorem z_c_impl_LibReport_64 (L : List LibRow) (nL : Nat) (hbdL : (nL : Int) ≤ 9223372036854775807) (hleL : nL = L.length) (h5 : RowsOK L) (hq8 : L.length ≤ 12) (hq9 : (totL L).length = 4) (k : Nat) (hi16 : k ≤ nL) (hq17 : (repT L k).length ≤ 301 * k) (h18 : ¬ ((k : Int) < (nL : Int))) (n46 : Nat) (hl51 : n46 = (totN L).length) (hl52 : (n46 : Int) ≤ 9223372036854775807) (hq53 : (totN L).length = 4) (x54 : Int) (hx55 : (totN L)[0]? = some x54) (hq56 : x54 = lentS L) (hq57 : 0 ≤ lentS L ∧ lentS L ≤ 1000000) (hq62 : (Lib.itoa x54).length ≤ 21) : RowsOK L := by
  first | assumption | trivial
theorem c_impl_LibReport (w : World) {AL : Option Addr} {nL cL BL : Nat}  (L : List LibRow) (hL : SlR w BL encLibRow 5 AL nL cL L) (hE : EnvW w) : Calls Tryd.prog 22 #[.slice AL nL cL] w fun e w' => e = .returned (.tuple (List.toArray [str (reportF L), .bool (decide (RowsOK L))])) ∧ Lo w w' := by
  refine calls_W 30 Tryd.func22 rfl rfl rfl ?_
  have hbdL := hL.bound
  have hleL := hL.len
  have hBbL := hL.bd
  refine W.seq ?_
  refine W.regS (SR.q' (r_as (v := str ([] : List UInt8)) rfl) <| SR.q' (r_as (v := .bool false) rfl) <| SR.nil ?_)
  refine W.seq ?_
  refine W.seq ?_
  refine W.regS (SR.q' (r_mv (v := .slice _ _ _) rfl) <| SR.call ent57 (c_impl_AreLibRows w L ((hL))) rfl ?_)
  rintro e w1 ⟨rfl, hk2⟩
  refine ⟨_, rfl, ?_⟩
  have hz3 := hk2.size
  have hB4 := (Lo.refl w).lo hk2
  refine SR.q' (r_not rfl) <| SR.nil ?_
  refine W.cond_n rfl (fun h5 => ?_) (fun h5 => ?_)
  · refine W.seq ?_
    refine W.regS (SR.q' (r_as (v := str ([] : List UInt8)) rfl) <| SR.q' (r_as (v := .bool false) rfl) <| SR.nil ?_)
    refine W.ret ?_
    refine ret2 rfl (v := str _) (v' := .bool _) rfl rfl ?_
    exact ⟨eR (eT2 (eS (z_c_impl_LibReport_6 L nL hbdL hleL h5)) (eDF (z_c_impl_LibReport_7 L nL hbdL hleL h5))), hB4⟩
  · have hq8 := rows_len h5
    have hq9 := totL_len4 _ h5
    refine W.skip ?_
    refine W.seq ?_
    refine W.regS (SR.q' (r_as (v := str ([] : List UInt8)) rfl) <| SR.nil ?_)
    refine W.seq ?_
    refine W.seq ?_
    refine W.regS (SR.q' (r_mv (v := .slice _ _ _) rfl) <| SR.q' (r_len und38 rfl) <| SR.q' (r_mv (v := .int .i64 0) rfl) <| SR.nil ?_)
    refine W.block ?_
    refine W.loop (σ := Nat) (fun g => [(0, .slice AL nL cL), (2, str ([] : List UInt8)), (3, .bool false), (4, str (repT L g)), (10, .slice AL nL cL), (11, .int .i64 (nL : Int)), (12, .int .i64 (g : Int))]) (fun g w' => (Lo w w') ∧ (SlR w' BL encLibRow 5 AL nL cL L) ∧ (g ≤ nL)) (fun g => nL - g) 0 ?_ ?_ ?_
    · exact ⟨rfl, rfl, rfl, (eS (by first | (first | omega | rfl | (rw [show repT L (k + 1) = repT L k ++ (lineT (gt L k) ++ [10]) from rfl, gt_eq ‹L[k]? = some _›]; first | done | (simp only [List.append_assoc]; done))) | (dsimp only; (first | omega | rfl | (rw [show repT L (k + 1) = repT L k ++ (lineT (gt L k) ++ [10]) from rfl, gt_eq ‹L[k]? = some _›]; first | done | (simp only [List.append_assoc]; done)))))), rfl, rfl, (eI (by first | (first | omega | rfl | (rw [show repT L (k + 1) = repT L k ++ (lineT (gt L k) ++ [10]) from rfl, gt_eq ‹L[k]? = some _›]; first | done | (simp only [List.append_assoc]; done))) | (dsimp only; (first | omega | rfl | (rw [show repT L (k + 1) = repT L k ++ (lineT (gt L k) ++ [10]) from rfl, gt_eq ‹L[k]? = some _›]; first | done | (simp only [List.append_assoc]; done)))))), trivial⟩
    · exact ⟨hB4, (hL).lo hk2, (z_c_impl_LibReport_10 L nL hbdL hleL h5 hq8 hq9)⟩
    · rintro k f11 w12 hP14
      obtain ⟨hB13, hm15, hi16⟩ : (Lo w w12) ∧ (SlR w12 BL encLibRow 5 AL nL cL L) ∧ (k ≤ nL) := hP14
      refine (?_ : W _ _ _ _ _ (act _ (sets f11 [(0, .slice AL nL cL), (2, str ([] : List UInt8)), (3, .bool false), (4, str (repT L k)), (10, .slice AL nL cL), (11, .int .i64 (nL : Int)), (12, .int .i64 (k : Int))])) _)
      have hzw12 := hB13.size
      have hq17 : (repT L k).length ≤ 301 * k := rep_len ‹RowsOK L› k (by omega)
      refine W.seq ?_
      refine W.regS (SR.q' (r_lt rfl rfl) <| SR.nil ?_)
      refine W.seq ?_
      refine W.cond_d rfl (fun h18 => ?_) (fun h18 => ?_)
      · refine W.skip ?_
        refine W.seq ?_
        refine W.block ?_
        refine W.seq ?_
        obtain ⟨x19, hx20⟩ := (hm15).get (i := k) (by omega)
        have hq21 := rows_rng h5 hx20
        refine W.regS (SR.q' (r_ixR tsl38 (hm15) rfl rfl (by omega)) <| SR.q' (r_lda (l := encLibRow x19) agg32 rfl (fun _ _ hu => (hm15).cell hx20 hu) ((hm15).esz _)) <| SR.alloc (l := [.int .i64 0, .int .i64 0, .int .i64 0, .int .i64 0, .int .i64 0]) tz32 rfl ?_)
        intro g22 w23 hg24 hk25 hs26 hb27
        have hz28 := hk25.size
        have hB29 := hB13.lo hk25
        refine SR.store (o := 0) (vs := [.int .i64 x19.Month, .int .i64 x19.Lent, .int .i64 x19.Copied, .int .i64 x19.Given, .int .i64 x19.Fines]) agg32.2 rfl rfl rfl rfl (hb27) (Nat.le_of_ble_eq_true rfl) rfl ?_
        intro w30 hk31 hs32 hb33
        have hz34 := hk31.size
        have hB35 := hB29.new hk31 (by omega)
        refine SR.nil ?_
        refine W.regS (SR.q' (r_mv (v := str _) rfl) <| SR.q' (r_lda (l := [.int .i64 x19.Month, .int .i64 x19.Lent, .int .i64 x19.Copied, .int .i64 x19.Given, .int .i64 x19.Fines]) agg32 rfl (fun _ _ hu => (hb33).cell hu) rfl) <| SR.call ent55 (c_impl_libLine w30 x19 (by first | assumption | exact rows_row ‹RowsOK L› ‹_[_]? = some _›) (hE.lo (hB35))) rfl ?_)
        rintro e w36 ⟨rfl, hk37⟩
        refine ⟨_, rfl, ?_⟩
        have hz38 := hk37.size
        have hB39 := hB35.lo hk37
        have hq40 : (lineT x19).length ≤ 300 := line_len (by first | assumption | exact rows_row ‹RowsOK L› ‹_[_]? = some _›)
        refine SR.q' (r_cat rfl rfl (by first | omega | (simp only [List.length_append, List.length_cons, List.length_nil, List.length_take, List.length_drop]; omega))) <| SR.q' (r_cat rfl rfl (by first | omega | (simp only [List.length_append, List.length_cons, List.length_nil, List.length_take, List.length_drop]; omega))) <| SR.q' (r_as (v := str _) rfl) <| SR.nil ?_
        refine W.regS (SR.q' (r_add rfl rfl (by omega)) <| SR.q' (r_mv (v := .int .i64 _) rfl) <| SR.nil ?_)
        refine ⟨k + 1, _, rfl, ⟨rfl, rfl, rfl, (eS (by first | (first | omega | rfl | (rw [show repT L (k + 1) = repT L k ++ (lineT (gt L k) ++ [10]) from rfl, gt_eq ‹L[k]? = some _›]; first | done | (simp only [List.append_assoc]; done))) | (dsimp only; (first | omega | rfl | (rw [show repT L (k + 1) = repT L k ++ (lineT (gt L k) ++ [10]) from rfl, gt_eq ‹L[k]? = some _›]; first | done | (simp only [List.append_assoc]; done)))))), rfl, rfl, (eI (by first | (first | omega | rfl | (rw [show repT L (k + 1) = repT L k ++ (lineT (gt L k) ++ [10]) from rfl, gt_eq ‹L[k]? = some _›]; first | done | (simp only [List.append_assoc]; done))) | (dsimp only; (first | omega | rfl | (rw [show repT L (k + 1) = repT L k ++ (lineT (gt L k) ++ [10]) from rfl, gt_eq ‹L[k]? = some _›]; first | done | (simp only [List.append_assoc]; done)))))), trivial⟩, ⟨hB39, (((hm15).lo hk25).kp hk31 (fun b_ hb e' => by have e'' : b_ = g22 := e'; omega)).lo hk37, ?_⟩, ?_⟩
        · exact (z_c_impl_LibReport_41 L nL hbdL hleL h5 hq8 hq9 k hi16 hq17 h18 x19 hx20 hq21 hq40)
        · exact (z_c_impl_LibReport_42 L nL hbdL hleL h5 hq8 hq9 k hi16 hq17 h18 x19 hx20 hq21 hq40)
      · refine W.exit (xin_here ?_)
        refine W.seq ?_
        refine W.regS (SR.q' (r_mv (v := str _) rfl) <| SR.q' (r_cat rfl rfl (by first | omega | (simp only [List.length_append, List.length_cons, List.length_nil, List.length_take, List.length_drop]; omega))) <| SR.q' (r_mv (v := .slice _ _ _) rfl) <| SR.call ent58 (c_impl_libTotals w12 L ((hm15)) (by assumption)) rfl ?_)
        rintro e w43 ⟨A45, n46, c47, rfl, hO48, hk44⟩
        refine ⟨_, rfl, ?_⟩
        have hz49 := hk44.size
        have hB50 := hB13.lo hk44
        have hl51 := hO48.len
        have hl52 := hO48.rd.bound
        have hq53 := totN_len L
        obtain ⟨x54, hx55⟩ := ((hO48).rd).get (i := 0) (by omega)
        have hq56 := tot_zero hx55
        have hq57 := lent_ok ‹RowsOK L›
        refine SR.q' (r_ixR tsl76 ((hO48).rd) rfl rfl (by omega)) <| SR.q' (r_ld (v := .int .i64 x54) sca3 rfl (((hO48).rd).cell0 hx55 rfl)) <| SR.call ent50 (c_impl_text w43 x54 (by omega) (hE.lo (hB50))) rfl ?_
        rintro e w58 ⟨rfl, hk59⟩
        refine ⟨_, rfl, ?_⟩
        have hz60 := hk59.size
        have hB61 := hB50.lo hk59
        have hq62 : (Lib.itoa x54).length ≤ 21 := itoa_len (n := x54) (by omega) (by omega)
        refine SR.q' (r_cat rfl rfl (by first | omega | (simp only [List.length_append, List.length_cons, List.length_nil, List.length_take, List.length_drop]; omega))) <| SR.q' (r_as (v := str _) rfl) <| SR.q' (r_as (v := .bool true) rfl) <| SR.nil ?_
        refine W.ret ?_
        refine ret2 rfl (v := str _) (v' := .bool _) rfl rfl ?_
        exact ⟨eR (eT2 (eS (z_c_impl_LibReport_63 L nL hbdL hleL h5 hq8 hq9 k hi16 hq17 h18 n46 hl51 hl52 hq53 x54 hx55 hq56 hq57 hq62)) (eDT (z_c_impl_LibReport_64 L nL hbdL hleL h5 hq8 hq9 k hi16 hq17 h18 n46 hl51 hl52 hq53 x54 hx55 hq56 hq57 hq62))), hB61⟩

theorem z_c_laws_FnExactLibReport_50 (L : List LibRow) (nL : Nat) (hbdL : (nL : Int) ≤ 9223372036854775807) (hleL : nL = L.length) (h5 : ¬ ((szN L.length 1048576) < 0)) (hq6 : ((L.length : Nat) : Int) ≤ 1048576 ∧ szN L.length 1048576 = 1048576 - (L.length : Int)) (n10 : Nat) (hl15 : n10 = (L).length) (hl16 : (n10 : Int) ≤ 9223372036854775807) (n24 : Nat) (hl29 : n24 = (L).length) (hl30 : (n24 : Int) ≤ 9223372036854775807) (n38 : Nat) (hl43 : n38 = (L).length) (hl44 : (n38 : Int) ≤ 9223372036854775807) (h49 : ¬ (L = L)) : false = true := by
  first | (simp_all; done) | omega
theorem c_laws_FnExactLibReport (w : World) {AL : Option Addr} {nL cL BL : Nat}  (L : List LibRow) (hL : SlR w BL encLibRow 5 AL nL cL L) (hE : EnvW w) : Calls Tryd.prog 5 #[.slice AL nL cL] w fun e w' => e = .returned (.bool true) ∧ Lo w w' := by
  refine calls_W 40 Tryd.func5 rfl rfl rfl ?_
  have hbdL := hL.bound
  have hleL := hL.len
  have hBbL := hL.bd
  refine W.seq ?_
  refine W.regS (SR.q' (r_as (v := .bool false) rfl) <| SR.nil ?_)
  refine W.seq ?_
  refine W.regS (SR.q' (r_as (v := .int .i64 1048576) rfl) <| SR.nil ?_)
  refine W.seq ?_
  refine W.regS (SR.q' (r_mv (v := .slice _ _ _) rfl) <| SR.q' (r_mv (v := .int .i64 _) rfl) <| SR.call ent19 (c_laws_szLibRowS w L ((hL)) 1048576 (by omega) (by omega)) rfl ?_)
  rintro e w1 ⟨rfl, hk2⟩
  refine ⟨_, rfl, ?_⟩
  have hz3 := hk2.size
  have hB4 := (Lo.refl w).lo hk2
  refine SR.q' (r_as (v := .int .i64 _) rfl) <| SR.nil ?_
  refine W.seq ?_
  refine W.seq ?_
  refine W.regS (SR.q' (r_mv (v := .int .i64 _) rfl) <| SR.q' (r_lt rfl rfl) <| SR.nil ?_)
  refine W.cond_d rfl (fun h5 => ?_) (fun h5 => ?_)
  · refine W.seq ?_
    refine W.regS (SR.q' (r_as (v := .bool true) rfl) <| SR.nil ?_)
    refine W.ret ?_
    refine ret1 rfl (v := .bool _) rfl ?_
    exact ⟨eR rfl, hB4⟩
  · have hq6 := szN_ok h5
    refine W.skip ?_
    refine W.seq ?_
    refine W.regS (SR.q' (r_mv (v := .slice _ _ _) rfl) <| SR.call ent21 (c_laws_toLibRowS w1 L (((hL).lo hk2)) (by omega)) rfl ?_)
    rintro e w7 ⟨A9, n10, c11, rfl, hO12, hk8⟩
    refine ⟨_, rfl, ?_⟩
    have hz13 := hk8.size
    have hB14 := hB4.lo hk8
    have hl15 := hO12.len
    have hl16 := hO12.rd.bound
    refine SR.call ent20 (c_spec_LibReport w7 L (((hO12).rd))) rfl ?_
    rintro e w17 ⟨rfl, hk18⟩
    refine ⟨_, rfl, ?_⟩
    have hz19 := hk18.size
    have hB20 := hB14.lo hk18
    refine SR.q' (r_mv (v := .tuple (List.toArray _)) rfl) <| SR.q' (r_ext (v := str _) rfl rfl) <| SR.q' (r_ext (v := .bool _) rfl rfl) <| SR.q' (r_as (v := str _) rfl) <| SR.q' (r_as (v := .bool _) rfl) <| SR.nil ?_
    refine W.seq ?_
    refine W.regS (SR.q' (r_mv (v := .slice _ _ _) rfl) <| SR.call ent21 (c_laws_toLibRowS w17 L (((((hL).lo hk2).lo hk8).lo hk18)) (by omega)) rfl ?_)
    rintro e w21 ⟨A23, n24, c25, rfl, hO26, hk22⟩
    refine ⟨_, rfl, ?_⟩
    have hz27 := hk22.size
    have hB28 := hB20.lo hk22
    have hl29 := hO26.len
    have hl30 := hO26.rd.bound
    refine SR.q' (r_as (v := .slice _ _ _) rfl) <| SR.nil ?_
    refine W.seq ?_
    refine W.regS (SR.q' (r_mv (v := .slice _ _ _) rfl) <| SR.call ent22 (c_impl_LibReport w21 L (((hO26).rd)) (hE.lo (hB28))) rfl ?_)
    rintro e w31 ⟨rfl, hk32⟩
    refine ⟨_, rfl, ?_⟩
    have hz33 := hk32.size
    have hB34 := hB28.lo hk32
    refine SR.q' (r_mv (v := .tuple (List.toArray _)) rfl) <| SR.q' (r_ext (v := str _) rfl rfl) <| SR.q' (r_ext (v := .bool _) rfl rfl) <| SR.q' (r_as (v := str _) rfl) <| SR.q' (r_as (v := .bool _) rfl) <| SR.nil ?_
    refine W.seq ?_
    refine W.seq ?_
    refine W.regS (SR.q' (r_mv (v := str _) rfl) <| SR.q' (r_mv (v := str _) rfl) <| SR.q' (r_nes_s (s := reportF L) rfl rfl) <| SR.q' (r_mv (v := .bool _) rfl) <| SR.g' rfl (r_mv (v := .bool _) rfl) <| SR.g' rfl (r_mv (v := .bool _) rfl) <| SR.g' rfl (r_neb_s und4 rfl rfl) <| SR.q' (r_pick false rfl (v := .bool _) rfl) <| SR.nil ?_)
    refine W.cond_f rfl ?_
    refine W.skip ?_
    refine W.seq ?_
    refine W.seq ?_
    refine W.regS (SR.q' (r_mv (v := .slice _ _ _) rfl) <| SR.q' (r_mv (v := .slice _ _ _) rfl) <| SR.call ent21 (c_laws_toLibRowS w31 L (((((((hL).lo hk2).lo hk8).lo hk18).lo hk22).lo hk32)) (by omega)) rfl ?_)
    rintro e w35 ⟨A37, n38, c39, rfl, hO40, hk36⟩
    refine ⟨_, rfl, ?_⟩
    have hz41 := hk36.size
    have hB42 := hB34.lo hk36
    have hl43 := hO40.len
    have hl44 := hO40.rd.bound
    refine SR.call ent23 (c_laws_eqLibRowS w35 L (((((hO26).lo hk32).lo hk36).rd)) L (((hO40).rd))) rfl ?_
    rintro e w45 ⟨rfl, hk46⟩
    refine ⟨_, rfl, ?_⟩
    have hz47 := hk46.size
    have hB48 := hB42.lo hk46
    refine SR.q' (r_not rfl) <| SR.nil ?_
    refine W.cond_n rfl (fun h49 => ?_) (fun h49 => ?_)
    · refine W.seq ?_
      refine W.regS (SR.q' (r_as (v := .bool false) rfl) <| SR.nil ?_)
      refine W.ret ?_
      refine ret1 rfl (v := .bool _) rfl ?_
      exact ⟨eR (eB (z_c_laws_FnExactLibReport_50 L nL hbdL hleL h5 hq6 n10 hl15 hl16 n24 hl29 hl30 n38 hl43 hl44 h49)), hB48⟩
    · refine W.skip ?_
      refine W.seq ?_
      refine W.regS (SR.q' (r_as (v := .bool true) rfl) <| SR.nil ?_)
      refine W.ret ?_
      refine ret1 rfl (v := .bool _) rfl ?_
      exact ⟨eR rfl, hB48⟩
end Go.Proofs.YtdldiiboanhabaaDoor
