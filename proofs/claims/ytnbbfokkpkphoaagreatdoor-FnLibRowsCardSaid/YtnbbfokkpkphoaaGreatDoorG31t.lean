/- Walks, printed by a program of this claim's author. -/
import Derived.Test.YtnbbfokkpkphoaaGreatDoorChecked
import Derived.Test.YtnbbfokkpkphoaaGreatDoorLa
import Derived.Test.YtnbbfokkpkphoaaGreatDoorFo
import Derived.Test.YtnbbfokkpkphoaaGreatDoorFs
import Derived.Test.YtnbbfokkpkphoaaGreatDoorFq
import Derived.Test.YtnbbfokkpkphoaaGreatDoorFp
import Derived.Test.YtnbbfokkpkphoaaGreatDoorFu
import Derived.Test.YtnbbfokkpkphoaaGreatDoorFt
import Derived.Test.YtnbbfokkpkphoaaGreatDoorG31s
namespace Go.Proofs.YtnbbfokkpkphoaaGreatDoor
open Go Go.RowKit Fw
set_option maxRecDepth 10000
set_option linter.unusedVariables false
theorem ent20 : Ent Tryz.prog 20 := ent_of Tryz.func20 (by decide +kernel) rfl
theorem ent41 : Ent Tryz.prog 41 := ent_of Tryz.func41 (by decide +kernel) rfl
theorem ent44 : Ent Tryz.prog 44 := ent_of Tryz.func44 (by decide +kernel) rfl

theorem z_c_spec_LibLine_14 (r : LibRow) (h13 : ¬ (RowOK r)) : ([] : List UInt8) = (if RowOK r then lineT r else []) := by
  first | rw [if_pos ‹_›] | rw [if_neg ‹_›] | assumption | (exfalso; exact ‹¬ _› ‹_›)
theorem z_c_spec_LibLine_20 (r : LibRow) (h13 : RowOK r) (hq19 : (lineT r).length ≤ 300) : lineT r = (if RowOK r then lineT r else []) := by
  first | rw [if_pos ‹_›] | rw [if_neg ‹_›] | assumption | (exfalso; exact ‹¬ _› ‹_›)
theorem c_spec_LibLine (w : World) (r : LibRow) : Calls Tryz.prog 7 #[.agg (List.toArray (encLibRow r))] w fun e w' => e = .returned (.tuple (List.toArray [str (if RowOK r then lineT r else []), .bool (decide (RowOK r))])) ∧ Lo w w' := by
  refine calls_W 9 Tryz.func7 rfl rfl rfl ?_
  refine W.seq ?_
  refine W.regS (SR.box (v := .agg (List.toArray _)) (l := [.int .i64 r.Month, .int .i64 r.Lent, .int .i64 r.Copied, .int .i64 r.Given, .int .i64 r.Fines]) rfl rfl ?_)
  intro g1 w2 hg3 hk4 hs5 hb6
  have hz7 := hk4.size
  have hB8 := (Lo.refl w).lo hk4
  refine SR.q' (r_as (v := str ([] : List UInt8)) rfl) <| SR.q' (r_as (v := .bool false) rfl) <| SR.nil ?_
  refine W.seq ?_
  refine W.seq ?_
  refine W.regS (SR.q' (r_lda (l := [.int .i64 r.Month, .int .i64 r.Lent, .int .i64 r.Copied, .int .i64 r.Given, .int .i64 r.Fines]) agg25 rfl (fun _ _ hu => (hb6).cell hu) rfl) <| SR.call ent24 (c_spec_l31One w2 r) rfl ?_)
  rintro e w9 ⟨rfl, hk10⟩
  refine ⟨_, rfl, ?_⟩
  have hz11 := hk10.size
  have hB12 := hB8.lo hk10
  refine SR.q' (r_not rfl) <| SR.nil ?_
  refine W.cond_n rfl (fun h13 => ?_) (fun h13 => ?_)
  · refine W.seq ?_
    refine W.regS (SR.q' (r_as (v := str ([] : List UInt8)) rfl) <| SR.q' (r_as (v := .bool false) rfl) <| SR.nil ?_)
    refine W.ret ?_
    refine ret2 rfl (v := str _) (v' := .bool _) rfl rfl ?_
    exact ⟨eR (eT2 (eS (z_c_spec_LibLine_14 r h13)) (eDF h13)), hB12⟩
  · refine W.skip ?_
    refine W.seq ?_
    refine W.regS (SR.q' (r_lda (l := [.int .i64 r.Month, .int .i64 r.Lent, .int .i64 r.Copied, .int .i64 r.Given, .int .i64 r.Fines]) agg25 rfl (fun _ _ hu => ((hb6).lo hk10).cell hu) rfl) <| SR.call ent25 (c_spec_l31Line w9 r (by first | assumption | exact rows_row ‹RowsOK L› ‹_[_]? = some _›)) rfl ?_)
    rintro e w15 ⟨rfl, hk16⟩
    refine ⟨_, rfl, ?_⟩
    have hz17 := hk16.size
    have hB18 := hB12.lo hk16
    have hq19 : (lineT r).length ≤ 300 := line_len (by first | assumption | exact rows_row ‹RowsOK L› ‹_[_]? = some _›)
    refine SR.q' (r_as (v := str _) rfl) <| SR.q' (r_as (v := .bool true) rfl) <| SR.nil ?_
    refine W.ret ?_
    refine ret2 rfl (v := str _) (v' := .bool _) rfl rfl ?_
    exact ⟨eR (eT2 (eS (z_c_spec_LibLine_20 r h13 hq19)) (eDT h13)), hB18⟩

theorem z_c_impl_LibLine_14 (r : LibRow) (h13 : ¬ (RowOK r)) : ([] : List UInt8) = (if RowOK r then lineT r else []) := by
  first | rw [if_pos ‹_›] | rw [if_neg ‹_›] | assumption | (exfalso; exact ‹¬ _› ‹_›)
theorem z_c_impl_LibLine_20 (r : LibRow) (h13 : RowOK r) (hq19 : (lineT r).length ≤ 300) : lineT r = (if RowOK r then lineT r else []) := by
  first | rw [if_pos ‹_›] | rw [if_neg ‹_›] | assumption | (exfalso; exact ‹¬ _› ‹_›)
theorem c_impl_LibLine (w : World) (r : LibRow) (hE : EnvW w) : Calls Tryz.prog 6 #[.agg (List.toArray (encLibRow r))] w fun e w' => e = .returned (.tuple (List.toArray [str (if RowOK r then lineT r else []), .bool (decide (RowOK r))])) ∧ Lo w w' := by
  refine calls_W 9 Tryz.func6 rfl rfl rfl ?_
  refine W.seq ?_
  refine W.regS (SR.box (v := .agg (List.toArray _)) (l := [.int .i64 r.Month, .int .i64 r.Lent, .int .i64 r.Copied, .int .i64 r.Given, .int .i64 r.Fines]) rfl rfl ?_)
  intro g1 w2 hg3 hk4 hs5 hb6
  have hz7 := hk4.size
  have hB8 := (Lo.refl w).lo hk4
  refine SR.q' (r_as (v := str ([] : List UInt8)) rfl) <| SR.q' (r_as (v := .bool false) rfl) <| SR.nil ?_
  refine W.seq ?_
  refine W.seq ?_
  refine W.regS (SR.q' (r_lda (l := [.int .i64 r.Month, .int .i64 r.Lent, .int .i64 r.Copied, .int .i64 r.Given, .int .i64 r.Fines]) agg25 rfl (fun _ _ hu => (hb6).cell hu) rfl) <| SR.call ent8 (c_impl_IsLibRow w2 r) rfl ?_)
  rintro e w9 ⟨rfl, hk10⟩
  refine ⟨_, rfl, ?_⟩
  have hz11 := hk10.size
  have hB12 := hB8.lo hk10
  refine SR.q' (r_not rfl) <| SR.nil ?_
  refine W.cond_n rfl (fun h13 => ?_) (fun h13 => ?_)
  · refine W.seq ?_
    refine W.regS (SR.q' (r_as (v := str ([] : List UInt8)) rfl) <| SR.q' (r_as (v := .bool false) rfl) <| SR.nil ?_)
    refine W.ret ?_
    refine ret2 rfl (v := str _) (v' := .bool _) rfl rfl ?_
    exact ⟨eR (eT2 (eS (z_c_impl_LibLine_14 r h13)) (eDF h13)), hB12⟩
  · refine W.skip ?_
    refine W.seq ?_
    refine W.regS (SR.q' (r_lda (l := [.int .i64 r.Month, .int .i64 r.Lent, .int .i64 r.Copied, .int .i64 r.Given, .int .i64 r.Fines]) agg25 rfl (fun _ _ hu => ((hb6).lo hk10).cell hu) rfl) <| SR.call ent23 (c_impl_libLine w9 r (by first | assumption | exact rows_row ‹RowsOK L› ‹_[_]? = some _›) (hE.lo (hB12))) rfl ?_)
    rintro e w15 ⟨rfl, hk16⟩
    refine ⟨_, rfl, ?_⟩
    have hz17 := hk16.size
    have hB18 := hB12.lo hk16
    have hq19 : (lineT r).length ≤ 300 := line_len (by first | assumption | exact rows_row ‹RowsOK L› ‹_[_]? = some _›)
    refine SR.q' (r_as (v := str _) rfl) <| SR.q' (r_as (v := .bool true) rfl) <| SR.nil ?_
    refine W.ret ?_
    refine ret2 rfl (v := str _) (v' := .bool _) rfl rfl ?_
    exact ⟨eR (eT2 (eS (z_c_impl_LibLine_20 r h13 hq19)) (eDT h13)), hB18⟩

theorem z_c_spec_LibReport_14 (L : List LibRow) (nL : Nat) (hbdL : (nL : Int) ≤ 9223372036854775807) (hleL : nL = L.length) (n4 : Nat) (hl9 : n4 = (totL L).length) (hl10 : (n4 : Int) ≤ 9223372036854775807) (hq11 : (totL L).length ≤ 4) (hq12 : RowsOK L → (totL L).length = 4) (h13 : ¬ (RowsOK L)) : ([] : List UInt8) = reportF L := by
  subst hleL; unfold reportF; first | (rw [if_neg ‹_›]; done) | (rw [if_pos ‹RowsOK L›, show k = L.length by omega]; have e1 := ‹_ = lentS L›; rw [e1]; done)
theorem z_c_spec_LibReport_17 (L : List LibRow) (nL : Nat) (hbdL : (nL : Int) ≤ 9223372036854775807) (hleL : nL = L.length) (n4 : Nat) (hl9 : n4 = (totL L).length) (hl10 : (n4 : Int) ≤ 9223372036854775807) (hq11 : (totL L).length ≤ 4) (hq12 : RowsOK L → (totL L).length = 4) (h13 : RowsOK L) (hq15 : L.length ≤ 12) (hq16 : (totL L).length = 4) : 0 ≤ nL := by
  omega
theorem z_c_spec_LibReport_35 (L : List LibRow) (nL : Nat) (hbdL : (nL : Int) ≤ 9223372036854775807) (hleL : nL = L.length) (n4 : Nat) (hl9 : n4 = (totL L).length) (hl10 : (n4 : Int) ≤ 9223372036854775807) (hq11 : (totL L).length ≤ 4) (hq12 : RowsOK L → (totL L).length = 4) (h13 : RowsOK L) (hq15 : L.length ≤ 12) (hq16 : (totL L).length = 4) (k : Nat) (hi24 : k ≤ nL) (hq25 : (repT L k).length ≤ 301 * k) (h26 : (k : Int) < (nL : Int)) (x27 : LibRow) (hx28 : L[k]? = some x27) (hq29 : ((1 : Int) ≤ x27.Month ∧ x27.Month ≤ 1200) ∧ ((0 : Int) ≤ x27.Lent ∧ x27.Lent ≤ 9999) ∧ ((0 : Int) ≤ x27.Copied ∧ x27.Copied ≤ 9999) ∧ ((0 : Int) ≤ x27.Given ∧ x27.Given ≤ 999) ∧ ((0 : Int) ≤ x27.Fines ∧ x27.Fines ≤ 99999)) (hq34 : (lineT x27).length ≤ 300) : k + 1 ≤ nL := by
  omega
theorem z_c_spec_LibReport_36 (L : List LibRow) (nL : Nat) (hbdL : (nL : Int) ≤ 9223372036854775807) (hleL : nL = L.length) (n4 : Nat) (hl9 : n4 = (totL L).length) (hl10 : (n4 : Int) ≤ 9223372036854775807) (hq11 : (totL L).length ≤ 4) (hq12 : RowsOK L → (totL L).length = 4) (h13 : RowsOK L) (hq15 : L.length ≤ 12) (hq16 : (totL L).length = 4) (k : Nat) (hi24 : k ≤ nL) (hq25 : (repT L k).length ≤ 301 * k) (h26 : (k : Int) < (nL : Int)) (x27 : LibRow) (hx28 : L[k]? = some x27) (hq29 : ((1 : Int) ≤ x27.Month ∧ x27.Month ≤ 1200) ∧ ((0 : Int) ≤ x27.Lent ∧ x27.Lent ≤ 9999) ∧ ((0 : Int) ≤ x27.Copied ∧ x27.Copied ≤ 9999) ∧ ((0 : Int) ≤ x27.Given ∧ x27.Given ≤ 999) ∧ ((0 : Int) ≤ x27.Fines ∧ x27.Fines ≤ 99999)) (hq34 : (lineT x27).length ≤ 300) : nL - (k + 1) < nL - k := by
  omega
theorem z_c_spec_LibReport_46 (L : List LibRow) (nL : Nat) (hbdL : (nL : Int) ≤ 9223372036854775807) (hleL : nL = L.length) (n4 : Nat) (hl9 : n4 = (totL L).length) (hl10 : (n4 : Int) ≤ 9223372036854775807) (hq11 : (totL L).length ≤ 4) (hq12 : RowsOK L → (totL L).length = 4) (h13 : RowsOK L) (hq15 : L.length ≤ 12) (hq16 : (totL L).length = 4) (k : Nat) (hi24 : k ≤ nL) (hq25 : (repT L k).length ≤ 301 * k) (h26 : ¬ ((k : Int) < (nL : Int))) (x37 : Int) (hx38 : (totL L)[0]? = some x37) (hq39 : x37 = lentS L) (hq40 : 0 ≤ lentS L ∧ lentS L ≤ 1000000) (hq45 : (Lib.itoa x37).length ≤ 21) : ((repT L k) ++ ([108, 101, 110, 116, 32] : List UInt8)) ++ (Lib.itoa x37) = reportF L := by
  subst hleL; unfold reportF; first | (rw [if_neg ‹_›]; done) | (rw [if_pos ‹RowsOK L›, show k = L.length by omega]; have e1 := ‹_ = lentS L›; rw [e1]; done)
theorem c_spec_LibReport (w : World) {AL : Option Addr} {nL cL BL : Nat}  (L : List LibRow) (hL : SlR w BL encLibRow 5 AL nL cL L) : Calls Tryz.prog 19 #[.slice AL nL cL] w fun e w' => e = .returned (.tuple (List.toArray [str (reportF L), .bool (decide (RowsOK L))])) ∧ Lo w w' := by
  refine calls_W 36 Tryz.func19 rfl rfl rfl ?_
  have hbdL := hL.bound
  have hleL := hL.len
  have hBbL := hL.bd
  refine W.seq ?_
  refine W.regS (SR.q' (r_as (v := str ([] : List UInt8)) rfl) <| SR.q' (r_as (v := .bool false) rfl) <| SR.nil ?_)
  refine W.seq ?_
  refine W.regS (SR.q' (r_mv (v := .slice _ _ _) rfl) <| SR.call ent44 (c_spec_LibTotals w L ((hL))) rfl ?_)
  rintro e w1 ⟨A3, n4, c5, rfl, hO6, hk2⟩
  refine ⟨_, rfl, ?_⟩
  have hz7 := hk2.size
  have hB8 := (Lo.refl w).lo hk2
  have hl9 := hO6.len
  have hl10 := hO6.rd.bound
  have hq11 := totL_len L
  have hq12 := totL_len4 L
  refine SR.q' (r_mv (v := .tuple (List.toArray _)) rfl) <| SR.q' (r_ext (v := .slice _ _ _) rfl rfl) <| SR.q' (r_ext (v := .bool _) rfl rfl) <| SR.q' (r_as (v := .slice _ _ _) rfl) <| SR.q' (r_as (v := .bool _) rfl) <| SR.nil ?_
  refine W.seq ?_
  refine W.seq ?_
  refine W.regS (SR.q' (r_mv (v := .bool _) rfl) <| SR.q' (r_not rfl) <| SR.nil ?_)
  refine W.cond_n rfl (fun h13 => ?_) (fun h13 => ?_)
  · refine W.seq ?_
    refine W.regS (SR.q' (r_as (v := str ([] : List UInt8)) rfl) <| SR.q' (r_as (v := .bool false) rfl) <| SR.nil ?_)
    refine W.ret ?_
    refine ret2 rfl (v := str _) (v' := .bool _) rfl rfl ?_
    exact ⟨eR (eT2 (eS (z_c_spec_LibReport_14 L nL hbdL hleL n4 hl9 hl10 hq11 hq12 h13)) (eDF h13)), hB8⟩
  · have hq15 := rows_len h13
    have hq16 := totL_len4 _ h13
    refine W.skip ?_
    refine W.seq ?_
    refine W.regS (SR.q' (r_as (v := str ([] : List UInt8)) rfl) <| SR.nil ?_)
    refine W.seq ?_
    refine W.seq ?_
    refine W.regS (SR.q' (r_as (v := .int .i64 0) rfl) <| SR.nil ?_)
    refine W.block ?_
    refine W.loop (σ := Nat) (fun g => [(0, .slice AL nL cL), (2, str ([] : List UInt8)), (3, .bool false), (4, .slice A3 n4 c5), (6, str (repT L g)), (7, .int .i64 (g : Int))]) (fun g w' => (Lo w w') ∧ (SlR w' BL encLibRow 5 AL nL cL L) ∧ (SlO w' w.heap.size encI 1 3 A3 n4 c5 (totL L)) ∧ (g ≤ nL)) (fun g => nL - g) 0 ?_ ?_ ?_
    · exact ⟨rfl, rfl, rfl, rfl, (eS (by first | (first | omega | rfl | (rw [show repT L (k + 1) = repT L k ++ (lineT (gt L k) ++ [10]) from rfl, gt_eq ‹L[k]? = some _›]; first | done | (simp only [List.append_assoc]; done))) | (dsimp only; (first | omega | rfl | (rw [show repT L (k + 1) = repT L k ++ (lineT (gt L k) ++ [10]) from rfl, gt_eq ‹L[k]? = some _›]; first | done | (simp only [List.append_assoc]; done)))))), (eI (by first | (first | omega | rfl | (rw [show repT L (k + 1) = repT L k ++ (lineT (gt L k) ++ [10]) from rfl, gt_eq ‹L[k]? = some _›]; first | done | (simp only [List.append_assoc]; done))) | (dsimp only; (first | omega | rfl | (rw [show repT L (k + 1) = repT L k ++ (lineT (gt L k) ++ [10]) from rfl, gt_eq ‹L[k]? = some _›]; first | done | (simp only [List.append_assoc]; done)))))), trivial⟩
    · exact ⟨hB8, (hL).lo hk2, hO6, (z_c_spec_LibReport_17 L nL hbdL hleL n4 hl9 hl10 hq11 hq12 h13 hq15 hq16)⟩
    · rintro k f18 w19 hP21
      obtain ⟨hB20, hm22, hm23, hi24⟩ : (Lo w w19) ∧ (SlR w19 BL encLibRow 5 AL nL cL L) ∧ (SlO w19 w.heap.size encI 1 3 A3 n4 c5 (totL L)) ∧ (k ≤ nL) := hP21
      refine (?_ : W _ _ _ _ _ (act _ (sets f18 [(0, .slice AL nL cL), (2, str ([] : List UInt8)), (3, .bool false), (4, .slice A3 n4 c5), (6, str (repT L k)), (7, .int .i64 (k : Int))])) _)
      have hzw19 := hB20.size
      have hq25 : (repT L k).length ≤ 301 * k := rep_len ‹RowsOK L› k (by omega)
      refine W.seq ?_
      refine W.seq ?_
      refine W.regS (SR.q' (r_mv (v := .int .i64 _) rfl) <| SR.q' (r_mv (v := .slice _ _ _) rfl) <| SR.q' (r_len und33 rfl) <| SR.q' (r_lt rfl rfl) <| SR.nil ?_)
      refine W.cond_d rfl (fun h26 => ?_) (fun h26 => ?_)
      · refine W.skip ?_
        refine W.seq ?_
        refine W.block ?_
        refine W.regS (SR.q' (r_mv (v := str _) rfl) <| SR.q' (r_mv (v := .slice _ _ _) rfl) <| SR.q' (r_mv (v := .int .i64 _) rfl) <| ?_)
        obtain ⟨x27, hx28⟩ := (hm22).get (i := k) (by omega)
        have hq29 := rows_rng h13 hx28
        refine SR.q' (r_ixR tsl33 (hm22) rfl rfl (by omega)) <| SR.q' (r_lda (l := encLibRow x27) agg25 rfl (fun _ _ hu => (hm22).cell hx28 hu) ((hm22).esz _)) <| SR.call ent25 (c_spec_l31Line w19 x27 (by first | assumption | exact rows_row ‹RowsOK L› ‹_[_]? = some _›)) rfl ?_
        rintro e w30 ⟨rfl, hk31⟩
        refine ⟨_, rfl, ?_⟩
        have hz32 := hk31.size
        have hB33 := hB20.lo hk31
        have hq34 : (lineT x27).length ≤ 300 := line_len (by first | assumption | exact rows_row ‹RowsOK L› ‹_[_]? = some _›)
        refine SR.q' (r_cat rfl rfl (by first | omega | (simp only [List.length_append, List.length_cons, List.length_nil, List.length_take, List.length_drop]; omega) | (simp only [List.length_append, List.length_cons, List.length_nil, List.length_take, List.length_drop] at *; omega))) <| SR.q' (r_cat rfl rfl (by first | omega | (simp only [List.length_append, List.length_cons, List.length_nil, List.length_take, List.length_drop]; omega) | (simp only [List.length_append, List.length_cons, List.length_nil, List.length_take, List.length_drop] at *; omega))) <| SR.q' (r_as (v := str _) rfl) <| SR.nil ?_
        refine W.regS (SR.q' (r_mv (v := .int .i64 _) rfl) <| SR.q' (r_add rfl rfl (by omega)) <| SR.q' (r_as (v := .int .i64 _) rfl) <| SR.nil ?_)
        refine ⟨k + 1, _, rfl, ⟨rfl, rfl, rfl, rfl, (eS (by first | (first | omega | rfl | (rw [show repT L (k + 1) = repT L k ++ (lineT (gt L k) ++ [10]) from rfl, gt_eq ‹L[k]? = some _›]; first | done | (simp only [List.append_assoc]; done))) | (dsimp only; (first | omega | rfl | (rw [show repT L (k + 1) = repT L k ++ (lineT (gt L k) ++ [10]) from rfl, gt_eq ‹L[k]? = some _›]; first | done | (simp only [List.append_assoc]; done)))))), (eI (by first | (first | omega | rfl | (rw [show repT L (k + 1) = repT L k ++ (lineT (gt L k) ++ [10]) from rfl, gt_eq ‹L[k]? = some _›]; first | done | (simp only [List.append_assoc]; done))) | (dsimp only; (first | omega | rfl | (rw [show repT L (k + 1) = repT L k ++ (lineT (gt L k) ++ [10]) from rfl, gt_eq ‹L[k]? = some _›]; first | done | (simp only [List.append_assoc]; done)))))), trivial⟩, ⟨hB33, (hm22).lo hk31, (hm23).lo hk31, ?_⟩, ?_⟩
        · exact (z_c_spec_LibReport_35 L nL hbdL hleL n4 hl9 hl10 hq11 hq12 h13 hq15 hq16 k hi24 hq25 h26 x27 hx28 hq29 hq34)
        · exact (z_c_spec_LibReport_36 L nL hbdL hleL n4 hl9 hl10 hq11 hq12 h13 hq15 hq16 k hi24 hq25 h26 x27 hx28 hq29 hq34)
      · refine W.exit (xin_here ?_)
        refine W.seq ?_
        refine W.regS (SR.q' (r_mv (v := str _) rfl) <| SR.q' (r_cat rfl rfl (by first | omega | (simp only [List.length_append, List.length_cons, List.length_nil, List.length_take, List.length_drop]; omega) | (simp only [List.length_append, List.length_cons, List.length_nil, List.length_take, List.length_drop] at *; omega))) <| SR.q' (r_mv (v := .slice _ _ _) rfl) <| ?_)
        obtain ⟨x37, hx38⟩ := ((hm23).rd).get (i := 0) (by omega)
        have hq39 := totL_zero ‹RowsOK L› hx38
        have hq40 := lent_ok ‹RowsOK L›
        refine SR.q' (r_ixR tsl39 ((hm23).rd) rfl rfl (by omega)) <| SR.q' (r_ld (v := .int .i64 x37) sca3 rfl (((hm23).rd).cell0 hx38 rfl)) <| SR.call ent45 (c_spec_l1Num w19 x37 (by omega)) rfl ?_
        rintro e w41 ⟨rfl, hk42⟩
        refine ⟨_, rfl, ?_⟩
        have hz43 := hk42.size
        have hB44 := hB20.lo hk42
        have hq45 : (Lib.itoa x37).length ≤ 21 := itoa_len (n := x37) (by omega) (by omega)
        refine SR.q' (r_cat rfl rfl (by first | omega | (simp only [List.length_append, List.length_cons, List.length_nil, List.length_take, List.length_drop]; omega) | (simp only [List.length_append, List.length_cons, List.length_nil, List.length_take, List.length_drop] at *; omega))) <| SR.q' (r_as (v := str _) rfl) <| SR.q' (r_as (v := .bool true) rfl) <| SR.nil ?_
        refine W.ret ?_
        refine ret2 rfl (v := str _) (v' := .bool _) rfl rfl ?_
        exact ⟨eR (eT2 (eS (z_c_spec_LibReport_46 L nL hbdL hleL n4 hl9 hl10 hq11 hq12 h13 hq15 hq16 k hi24 hq25 h26 x37 hx38 hq39 hq40 hq45)) (eDT h13)), hB44⟩

theorem z_c_impl_LibReport_6 (L : List LibRow) (nL : Nat) (hbdL : (nL : Int) ≤ 9223372036854775807) (hleL : nL = L.length) (h5 : ¬ (RowsOK L)) : ([] : List UInt8) = reportF L := by
  subst hleL; unfold reportF; first | (rw [if_neg ‹_›]; done) | (rw [if_pos ‹RowsOK L›, show k = L.length by omega]; have e1 := ‹_ = lentS L›; rw [e1]; done)
theorem z_c_impl_LibReport_9 (L : List LibRow) (nL : Nat) (hbdL : (nL : Int) ≤ 9223372036854775807) (hleL : nL = L.length) (h5 : RowsOK L) (hq7 : L.length ≤ 12) (hq8 : (totL L).length = 4) : 0 ≤ nL := by
  omega
theorem z_c_impl_LibReport_40 (L : List LibRow) (nL : Nat) (hbdL : (nL : Int) ≤ 9223372036854775807) (hleL : nL = L.length) (h5 : RowsOK L) (hq7 : L.length ≤ 12) (hq8 : (totL L).length = 4) (k : Nat) (hi15 : k ≤ nL) (hq16 : (repT L k).length ≤ 301 * k) (h17 : (k : Int) < (nL : Int)) (x18 : LibRow) (hx19 : L[k]? = some x18) (hq20 : ((1 : Int) ≤ x18.Month ∧ x18.Month ≤ 1200) ∧ ((0 : Int) ≤ x18.Lent ∧ x18.Lent ≤ 9999) ∧ ((0 : Int) ≤ x18.Copied ∧ x18.Copied ≤ 9999) ∧ ((0 : Int) ≤ x18.Given ∧ x18.Given ≤ 999) ∧ ((0 : Int) ≤ x18.Fines ∧ x18.Fines ≤ 99999)) (hq39 : (lineT x18).length ≤ 300) : k + 1 ≤ nL := by
  omega
theorem z_c_impl_LibReport_41 (L : List LibRow) (nL : Nat) (hbdL : (nL : Int) ≤ 9223372036854775807) (hleL : nL = L.length) (h5 : RowsOK L) (hq7 : L.length ≤ 12) (hq8 : (totL L).length = 4) (k : Nat) (hi15 : k ≤ nL) (hq16 : (repT L k).length ≤ 301 * k) (h17 : (k : Int) < (nL : Int)) (x18 : LibRow) (hx19 : L[k]? = some x18) (hq20 : ((1 : Int) ≤ x18.Month ∧ x18.Month ≤ 1200) ∧ ((0 : Int) ≤ x18.Lent ∧ x18.Lent ≤ 9999) ∧ ((0 : Int) ≤ x18.Copied ∧ x18.Copied ≤ 9999) ∧ ((0 : Int) ≤ x18.Given ∧ x18.Given ≤ 999) ∧ ((0 : Int) ≤ x18.Fines ∧ x18.Fines ≤ 99999)) (hq39 : (lineT x18).length ≤ 300) : nL - (k + 1) < nL - k := by
  omega
theorem z_c_impl_LibReport_62 (L : List LibRow) (nL : Nat) (hbdL : (nL : Int) ≤ 9223372036854775807) (hleL : nL = L.length) (h5 : RowsOK L) (hq7 : L.length ≤ 12) (hq8 : (totL L).length = 4) (k : Nat) (hi15 : k ≤ nL) (hq16 : (repT L k).length ≤ 301 * k) (h17 : ¬ ((k : Int) < (nL : Int))) (n45 : Nat) (hl50 : n45 = (totN L).length) (hl51 : (n45 : Int) ≤ 9223372036854775807) (hq52 : (totN L).length = 4) (x53 : Int) (hx54 : (totN L)[0]? = some x53) (hq55 : x53 = lentS L) (hq56 : 0 ≤ lentS L ∧ lentS L ≤ 1000000) (hq61 : (Lib.itoa x53).length ≤ 21) : ((repT L k) ++ ([108, 101, 110, 116, 32] : List UInt8)) ++ (Lib.itoa x53) = reportF L := by
  subst hleL; unfold reportF; first | (rw [if_neg ‹_›]; done) | (rw [if_pos ‹RowsOK L›, show k = L.length by omega]; have e1 := ‹_ = lentS L›; rw [e1]; done)
theorem c_impl_LibReport (w : World) {AL : Option Addr} {nL cL BL : Nat}  (L : List LibRow) (hL : SlR w BL encLibRow 5 AL nL cL L) (hE : EnvW w) : Calls Tryz.prog 18 #[.slice AL nL cL] w fun e w' => e = .returned (.tuple (List.toArray [str (reportF L), .bool (decide (RowsOK L))])) ∧ Lo w w' := by
  refine calls_W 30 Tryz.func18 rfl rfl rfl ?_
  have hbdL := hL.bound
  have hleL := hL.len
  have hBbL := hL.bd
  refine W.seq ?_
  refine W.regS (SR.q' (r_as (v := str ([] : List UInt8)) rfl) <| SR.q' (r_as (v := .bool false) rfl) <| SR.nil ?_)
  refine W.seq ?_
  refine W.seq ?_
  refine W.regS (SR.q' (r_mv (v := .slice _ _ _) rfl) <| SR.call ent20 (c_impl_AreLibRows w L ((hL))) rfl ?_)
  rintro e w1 ⟨rfl, hk2⟩
  refine ⟨_, rfl, ?_⟩
  have hz3 := hk2.size
  have hB4 := (Lo.refl w).lo hk2
  refine SR.q' (r_not rfl) <| SR.nil ?_
  refine W.cond_n rfl (fun h5 => ?_) (fun h5 => ?_)
  · refine W.seq ?_
    refine W.regS (SR.q' (r_as (v := str ([] : List UInt8)) rfl) <| SR.q' (r_as (v := .bool false) rfl) <| SR.nil ?_)
    refine W.ret ?_
    refine ret2 rfl (v := str _) (v' := .bool _) rfl rfl ?_
    exact ⟨eR (eT2 (eS (z_c_impl_LibReport_6 L nL hbdL hleL h5)) (eDF h5)), hB4⟩
  · have hq7 := rows_len h5
    have hq8 := totL_len4 _ h5
    refine W.skip ?_
    refine W.seq ?_
    refine W.regS (SR.q' (r_as (v := str ([] : List UInt8)) rfl) <| SR.nil ?_)
    refine W.seq ?_
    refine W.seq ?_
    refine W.regS (SR.q' (r_mv (v := .slice _ _ _) rfl) <| SR.q' (r_len und33 rfl) <| SR.q' (r_mv (v := .int .i64 0) rfl) <| SR.nil ?_)
    refine W.block ?_
    refine W.loop (σ := Nat) (fun g => [(0, .slice AL nL cL), (2, str ([] : List UInt8)), (3, .bool false), (4, str (repT L g)), (10, .slice AL nL cL), (11, .int .i64 (nL : Int)), (12, .int .i64 (g : Int))]) (fun g w' => (Lo w w') ∧ (SlR w' BL encLibRow 5 AL nL cL L) ∧ (g ≤ nL)) (fun g => nL - g) 0 ?_ ?_ ?_
    · exact ⟨rfl, rfl, rfl, (eS (by first | (first | omega | rfl | (rw [show repT L (k + 1) = repT L k ++ (lineT (gt L k) ++ [10]) from rfl, gt_eq ‹L[k]? = some _›]; first | done | (simp only [List.append_assoc]; done))) | (dsimp only; (first | omega | rfl | (rw [show repT L (k + 1) = repT L k ++ (lineT (gt L k) ++ [10]) from rfl, gt_eq ‹L[k]? = some _›]; first | done | (simp only [List.append_assoc]; done)))))), rfl, rfl, (eI (by first | (first | omega | rfl | (rw [show repT L (k + 1) = repT L k ++ (lineT (gt L k) ++ [10]) from rfl, gt_eq ‹L[k]? = some _›]; first | done | (simp only [List.append_assoc]; done))) | (dsimp only; (first | omega | rfl | (rw [show repT L (k + 1) = repT L k ++ (lineT (gt L k) ++ [10]) from rfl, gt_eq ‹L[k]? = some _›]; first | done | (simp only [List.append_assoc]; done)))))), trivial⟩
    · exact ⟨hB4, (hL).lo hk2, (z_c_impl_LibReport_9 L nL hbdL hleL h5 hq7 hq8)⟩
    · rintro k f10 w11 hP13
      obtain ⟨hB12, hm14, hi15⟩ : (Lo w w11) ∧ (SlR w11 BL encLibRow 5 AL nL cL L) ∧ (k ≤ nL) := hP13
      refine (?_ : W _ _ _ _ _ (act _ (sets f10 [(0, .slice AL nL cL), (2, str ([] : List UInt8)), (3, .bool false), (4, str (repT L k)), (10, .slice AL nL cL), (11, .int .i64 (nL : Int)), (12, .int .i64 (k : Int))])) _)
      have hzw11 := hB12.size
      have hq16 : (repT L k).length ≤ 301 * k := rep_len ‹RowsOK L› k (by omega)
      refine W.seq ?_
      refine W.regS (SR.q' (r_lt rfl rfl) <| SR.nil ?_)
      refine W.seq ?_
      refine W.cond_d rfl (fun h17 => ?_) (fun h17 => ?_)
      · refine W.skip ?_
        refine W.seq ?_
        refine W.block ?_
        refine W.seq ?_
        obtain ⟨x18, hx19⟩ := (hm14).get (i := k) (by omega)
        have hq20 := rows_rng h5 hx19
        refine W.regS (SR.q' (r_ixR tsl33 (hm14) rfl rfl (by omega)) <| SR.q' (r_lda (l := encLibRow x18) agg25 rfl (fun _ _ hu => (hm14).cell hx19 hu) ((hm14).esz _)) <| SR.alloc (l := [.int .i64 0, .int .i64 0, .int .i64 0, .int .i64 0, .int .i64 0]) tz25 rfl ?_)
        intro g21 w22 hg23 hk24 hs25 hb26
        have hz27 := hk24.size
        have hB28 := hB12.lo hk24
        refine SR.store (o := 0) (vs := [.int .i64 x18.Month, .int .i64 x18.Lent, .int .i64 x18.Copied, .int .i64 x18.Given, .int .i64 x18.Fines]) agg25.2 rfl rfl rfl rfl (hb26) (Nat.le_of_ble_eq_true rfl) rfl ?_
        intro w29 hk30 hs31 hb32
        have hz33 := hk30.size
        have hB34 := hB28.new hk30 (by omega)
        refine SR.nil ?_
        refine W.regS (SR.q' (r_mv (v := str _) rfl) <| SR.q' (r_lda (l := [.int .i64 x18.Month, .int .i64 x18.Lent, .int .i64 x18.Copied, .int .i64 x18.Given, .int .i64 x18.Fines]) agg25 rfl (fun _ _ hu => (hb32).cell hu) rfl) <| SR.call ent23 (c_impl_libLine w29 x18 (by first | assumption | exact rows_row ‹RowsOK L› ‹_[_]? = some _›) (hE.lo (hB34))) rfl ?_)
        rintro e w35 ⟨rfl, hk36⟩
        refine ⟨_, rfl, ?_⟩
        have hz37 := hk36.size
        have hB38 := hB34.lo hk36
        have hq39 : (lineT x18).length ≤ 300 := line_len (by first | assumption | exact rows_row ‹RowsOK L› ‹_[_]? = some _›)
        refine SR.q' (r_cat rfl rfl (by first | omega | (simp only [List.length_append, List.length_cons, List.length_nil, List.length_take, List.length_drop]; omega) | (simp only [List.length_append, List.length_cons, List.length_nil, List.length_take, List.length_drop] at *; omega))) <| SR.q' (r_cat rfl rfl (by first | omega | (simp only [List.length_append, List.length_cons, List.length_nil, List.length_take, List.length_drop]; omega) | (simp only [List.length_append, List.length_cons, List.length_nil, List.length_take, List.length_drop] at *; omega))) <| SR.q' (r_as (v := str _) rfl) <| SR.nil ?_
        refine W.regS (SR.q' (r_add rfl rfl (by omega)) <| SR.q' (r_mv (v := .int .i64 _) rfl) <| SR.nil ?_)
        refine ⟨k + 1, _, rfl, ⟨rfl, rfl, rfl, (eS (by first | (first | omega | rfl | (rw [show repT L (k + 1) = repT L k ++ (lineT (gt L k) ++ [10]) from rfl, gt_eq ‹L[k]? = some _›]; first | done | (simp only [List.append_assoc]; done))) | (dsimp only; (first | omega | rfl | (rw [show repT L (k + 1) = repT L k ++ (lineT (gt L k) ++ [10]) from rfl, gt_eq ‹L[k]? = some _›]; first | done | (simp only [List.append_assoc]; done)))))), rfl, rfl, (eI (by first | (first | omega | rfl | (rw [show repT L (k + 1) = repT L k ++ (lineT (gt L k) ++ [10]) from rfl, gt_eq ‹L[k]? = some _›]; first | done | (simp only [List.append_assoc]; done))) | (dsimp only; (first | omega | rfl | (rw [show repT L (k + 1) = repT L k ++ (lineT (gt L k) ++ [10]) from rfl, gt_eq ‹L[k]? = some _›]; first | done | (simp only [List.append_assoc]; done)))))), trivial⟩, ⟨hB38, (((hm14).lo hk24).kn hk30 (by omega)).lo hk36, ?_⟩, ?_⟩
        · exact (z_c_impl_LibReport_40 L nL hbdL hleL h5 hq7 hq8 k hi15 hq16 h17 x18 hx19 hq20 hq39)
        · exact (z_c_impl_LibReport_41 L nL hbdL hleL h5 hq7 hq8 k hi15 hq16 h17 x18 hx19 hq20 hq39)
      · refine W.exit (xin_here ?_)
        refine W.seq ?_
        refine W.regS (SR.q' (r_mv (v := str _) rfl) <| SR.q' (r_cat rfl rfl (by first | omega | (simp only [List.length_append, List.length_cons, List.length_nil, List.length_take, List.length_drop]; omega) | (simp only [List.length_append, List.length_cons, List.length_nil, List.length_take, List.length_drop] at *; omega))) <| SR.q' (r_mv (v := .slice _ _ _) rfl) <| SR.call ent41 (c_impl_libTotals w11 L ((hm14)) (by assumption)) rfl ?_)
        rintro e w42 ⟨A44, n45, c46, rfl, hO47, hk43⟩
        refine ⟨_, rfl, ?_⟩
        have hz48 := hk43.size
        have hB49 := hB12.lo hk43
        have hl50 := hO47.len
        have hl51 := hO47.rd.bound
        have hq52 := totN_len L
        obtain ⟨x53, hx54⟩ := ((hO47).rd).get (i := 0) (by omega)
        have hq55 := tot_zero hx54
        have hq56 := lent_ok ‹RowsOK L›
        refine SR.q' (r_ixR tsl39 ((hO47).rd) rfl rfl (by omega)) <| SR.q' (r_ld (v := .int .i64 x53) sca3 rfl (((hO47).rd).cell0 hx54 rfl)) <| SR.call ent43 (c_impl_text w42 x53 (by omega) (hE.lo (hB49))) rfl ?_
        rintro e w57 ⟨rfl, hk58⟩
        refine ⟨_, rfl, ?_⟩
        have hz59 := hk58.size
        have hB60 := hB49.lo hk58
        have hq61 : (Lib.itoa x53).length ≤ 21 := itoa_len (n := x53) (by omega) (by omega)
        refine SR.q' (r_cat rfl rfl (by first | omega | (simp only [List.length_append, List.length_cons, List.length_nil, List.length_take, List.length_drop]; omega) | (simp only [List.length_append, List.length_cons, List.length_nil, List.length_take, List.length_drop] at *; omega))) <| SR.q' (r_as (v := str _) rfl) <| SR.q' (r_as (v := .bool true) rfl) <| SR.nil ?_
        refine W.ret ?_
        refine ret2 rfl (v := str _) (v' := .bool _) rfl rfl ?_
        exact ⟨eR (eT2 (eS (z_c_impl_LibReport_62 L nL hbdL hleL h5 hq7 hq8 k hi15 hq16 h17 n45 hl50 hl51 hq52 x53 hx54 hq55 hq56 hq61)) (eDT h5)), hB60⟩

theorem c_spec_AreLibRows (w : World) {AL : Option Addr} {nL cL BL : Nat}  (L : List LibRow) (hL : SlR w BL encLibRow 5 AL nL cL L) : Calls Tryz.prog 21 #[.slice AL nL cL] w fun e w' => e = .returned (.bool (decide (RowsOK L))) ∧ Lo w w' := by
  refine calls_W 5 Tryz.func21 rfl rfl rfl ?_
  have hbdL := hL.bound
  have hleL := hL.len
  have hBbL := hL.bd
  refine W.seq ?_
  refine W.regS (SR.q' (r_as (v := .bool false) rfl) <| SR.nil ?_)
  refine W.seq ?_
  refine W.regS (SR.q' (r_mv (v := .slice _ _ _) rfl) <| SR.call ent40 (c_spec_l31Good w L ((hL))) rfl ?_)
  rintro e w1 ⟨rfl, hk2⟩
  refine ⟨_, rfl, ?_⟩
  have hz3 := hk2.size
  have hB4 := (Lo.refl w).lo hk2
  refine SR.q' (r_as (v := .bool _) rfl) <| SR.nil ?_
  refine W.ret ?_
  refine ret1 rfl (v := .bool _) rfl ?_
  exact ⟨eR rfl, hB4⟩

theorem z_c_impl_LibTotals_6 (L : List LibRow) (nL : Nat) (hbdL : (nL : Int) ≤ 9223372036854775807) (hleL : nL = L.length) (h5 : ¬ (RowsOK L)) : ([] : List Int) = totL L := by
  simp_all [totL]
theorem z_c_impl_LibTotals_20 (L : List LibRow) (nL : Nat) (hbdL : (nL : Int) ≤ 9223372036854775807) (hleL : nL = L.length) (h5 : RowsOK L) (hq7 : L.length ≤ 12) (hq8 : (totL L).length = 4) (n12 : Nat) (hl17 : n12 = (totN L).length) (hl18 : (n12 : Int) ≤ 9223372036854775807) (hq19 : (totN L).length = 4) : totN L = totL L := by
  rw [totL, if_pos ‹RowsOK L›]
theorem c_impl_LibTotals (w : World) {AL : Option Addr} {nL cL BL : Nat}  (L : List LibRow) (hL : SlR w BL encLibRow 5 AL nL cL L) : Calls Tryz.prog 16 #[.slice AL nL cL] w fun e w' => ∃ (A1' : Option Addr) (n1' c1' : Nat), e = .returned (.tuple (List.toArray [.slice A1' n1' c1', .bool (decide (RowsOK L))])) ∧ SlO w' w.heap.size encI 1 3 A1' n1' c1' (totL L) ∧ Lo w w' := by
  refine calls_W 9 Tryz.func16 rfl rfl rfl ?_
  have hbdL := hL.bound
  have hleL := hL.len
  have hBbL := hL.bd
  refine W.seq ?_
  refine W.regS (SR.q' (r_as (v := .slice none 0 0) rfl) <| SR.q' (r_as (v := .bool false) rfl) <| SR.nil ?_)
  refine W.seq ?_
  refine W.seq ?_
  refine W.regS (SR.q' (r_mv (v := .slice _ _ _) rfl) <| SR.call ent20 (c_impl_AreLibRows w L ((hL))) rfl ?_)
  rintro e w1 ⟨rfl, hk2⟩
  refine ⟨_, rfl, ?_⟩
  have hz3 := hk2.size
  have hB4 := (Lo.refl w).lo hk2
  refine SR.q' (r_not rfl) <| SR.nil ?_
  refine W.cond_n rfl (fun h5 => ?_) (fun h5 => ?_)
  · refine W.seq ?_
    refine W.regS (SR.q' (r_as (v := .slice none 0 0) rfl) <| SR.q' (r_as (v := .bool false) rfl) <| SR.nil ?_)
    refine W.ret ?_
    refine ret2 rfl (v := .slice none 0 0) (v' := .bool _) rfl rfl ?_
    exact ⟨none, 0, 0, eR (eT2 rfl (eDF h5)), (SlO.eqv (SlO.nil (e := 3) (enc := encI) (fun _ => rfl) (by omega)) (z_c_impl_LibTotals_6 L nL hbdL hleL h5)), hB4⟩
  · have hq7 := rows_len h5
    have hq8 := totL_len4 _ h5
    refine W.skip ?_
    refine W.seq ?_
    refine W.regS (SR.q' (r_mv (v := .slice _ _ _) rfl) <| SR.call ent41 (c_impl_libTotals w1 L (((hL).lo hk2)) (by assumption)) rfl ?_)
    rintro e w9 ⟨A11, n12, c13, rfl, hO14, hk10⟩
    refine ⟨_, rfl, ?_⟩
    have hz15 := hk10.size
    have hB16 := hB4.lo hk10
    have hl17 := hO14.len
    have hl18 := hO14.rd.bound
    have hq19 := totN_len L
    refine SR.q' (r_as (v := .slice _ _ _) rfl) <| SR.q' (r_as (v := .bool true) rfl) <| SR.nil ?_
    refine W.ret ?_
    refine ret2 rfl (v := .slice _ _ _) (v' := .bool _) rfl rfl ?_
    exact ⟨A11, n12, c13, eR (eT2 rfl (eDT h5)), (SlO.eqv ((hO14).down (by omega)) (z_c_impl_LibTotals_20 L nL hbdL hleL h5 hq7 hq8 n12 hl17 hl18 hq19)), hB16⟩
end Go.Proofs.YtnbbfokkpkphoaaGreatDoor
