/- Laws of rows: plain words. -/
import Derived.Test.YtmigipacjadpeaaLb
import Derived.Test.YtmigipacjadpeaaLd
namespace Go.Proofs.Ytmigipacjadpeaa
open Go Go.RowKit Fw
section
variable {L : List LibRow} {k j a b c n : Nat} {m v l : Int} {x y : LibRow} {P : List Int}
def lessN (L : List LibRow) (m : Int) (k : Nat) : Nat := (L.take k).countP fun r => decide (r.Lent < m)
def moreN (L : List LibRow) (m : Int) (k : Nat) : Nat := (L.take k).countP fun r => decide (m < r.Lent)
theorem lessN_next (hx : L[k]? = some x) : lessN L m (k + 1) = lessN L m k + if x.Lent < m then 1 else 0 := by
  unfold lessN; rw [List.take_add_one, hx]; simp [List.countP_append, List.countP_cons]
theorem moreN_next (hx : L[k]? = some x) : moreN L m (k + 1) = moreN L m k + if m < x.Lent then 1 else 0 := by
  unfold moreN; rw [List.take_add_one, hx]; simp [List.countP_append, List.countP_cons]
theorem ins_cnt {p : Int → Bool} : ∀ {P : List Int}, (insI P v).countP p = P.countP p + if p v then 1 else 0
  | [] => by simp [insI, List.countP_cons]
  | y :: t => by
    unfold insI
    split
    · rw [List.countP_cons, ins_cnt (P := t), List.countP_cons]; omega
    · rw [List.countP_cons]
theorem fold_cnt {p : Int → Bool} : ∀ {L P : List Int}, (L.foldl insI P).countP p = P.countP p + L.countP p
  | [], P => by simp
  | x :: L, P => by rw [List.foldl_cons, fold_cnt, ins_cnt, List.countP_cons]; omega
theorem sort_cnt {p : Int → Bool} (L : List Int) : (sortI L).countP p = L.countP p := by unfold sortI; rw [fold_cnt]; simp
theorem asc_ge : ∀ {P : List Int} {i : Nat}, Asc P → ∀ x ∈ P.drop i, gt P i ≤ x
  | [], i, _, x, h => by simp at h
  | y :: t, 0, h, x, hx => by
    rcases List.mem_cons.1 hx with rfl | hx
    · simp [gt]
    · have := h.1 x hx; simpa [gt] using this
  | y :: t, i + 1, h, x, hx => by
    have := asc_ge (i := i) h.2 x (by simpa using hx)
    simpa [gt] using this
theorem asc_le : ∀ {P : List Int} {i : Nat}, Asc P → i < P.length → ∀ x ∈ P.take (i + 1), x ≤ gt P i
  | [], i, _, hi, x, h => by simp at h
  | y :: t, 0, h, hi, x, hx => by simp at hx; subst hx; simp [gt]
  | y :: t, i + 1, h, hi, x, hx => by
    have hi' : i < t.length := by simpa using hi
    rcases List.mem_cons.1 (by simpa using hx : x ∈ y :: t.take (i + 1)) with rfl | hx
    · have := h.1 (gt t i) (by rw [gt, List.getD_eq_getElem?_getD, List.getElem?_eq_getElem hi']; simp)
      simpa [gt] using this
    · have := asc_le h.2 hi' x hx
      simpa [gt] using this
theorem cnt_less {i : Nat} (h : Asc P) : P.countP (fun x => decide (x < gt P i)) ≤ i := by
  have e : P.countP (fun x => decide (x < gt P i)) = (P.take i).countP (fun x => decide (x < gt P i)) + (P.drop i).countP (fun x => decide (x < gt P i)) := by
    rw [← List.countP_append, List.take_append_drop]
  have h1 : (P.drop i).countP (fun x => decide (x < gt P i)) = 0 := by
    rw [List.countP_eq_zero]; intro x hx; have := asc_ge h x hx; simp; omega
  have h2 := List.countP_le_length (p := fun x => decide (x < gt P i)) (l := P.take i)
  simp only [List.length_take] at h2; omega
theorem cnt_more {i : Nat} (h : Asc P) (hi : i < P.length) : P.countP (fun x => decide (gt P i < x)) ≤ P.length - (i + 1) := by
  have e : P.countP (fun x => decide (gt P i < x)) = (P.take (i + 1)).countP (fun x => decide (gt P i < x)) + (P.drop (i + 1)).countP (fun x => decide (gt P i < x)) := by
    rw [← List.countP_append, List.take_append_drop]
  have h1 : (P.take (i + 1)).countP (fun x => decide (gt P i < x)) = 0 := by
    rw [List.countP_eq_zero]; intro x hx; have := asc_le h hi x hx; simp; omega
  have h2 := List.countP_le_length (p := fun x => decide (gt P i < x)) (l := P.drop (i + 1))
  simp only [List.length_drop] at h2; omega
theorem lent_cnt {p : Int → Bool} : (lents L L.length).countP p = L.countP fun r => p r.Lent := by
  unfold lents
  rw [List.take_of_length_le (by simp), List.countP_map]; rfl
/-- Half of the rows at most lie below the median, half above. -/
theorem med_half (h : RowsOK L ∧ 0 < L.length) (hk : k = L.length) : 2 * lessN L (medL L) k < L.length + 1 ∧ 2 * moreN L (medL L) k ≤ L.length := by
  subst hk
  have e : medL L = gt (sortI (lents L L.length)) ((L.length - 1) / 2) := if_pos h
  have hs := sl_leq (L := L) (Nat.le_refl _)
  have ha := sortI_asc (lents L L.length)
  have h1 := cnt_less (i := (L.length - 1) / 2) ha
  have h2 := cnt_more (i := (L.length - 1) / 2) ha (by rw [hs]; omega)
  rw [sort_cnt, lent_cnt, ← e] at h1 h2
  rw [hs] at h2
  unfold lessN moreN
  rw [List.take_of_length_le (Nat.le_refl _)]
  omega
theorem gro_rng (L : List LibRow) : (-100000 ≤ groN L ∧ groN L ≤ 100000) ∧ (-100000 ≤ groD L ∧ groD L ≤ 100000) := by
  by_cases h : RowsOK L ∧ 2 ≤ L.length
  · have hx : L[0]? = some (L[0]'(by omega)) := List.getElem?_eq_getElem _
    have hy : L[L.length - 1]? = some (L[L.length - 1]'(by omega)) := List.getElem?_eq_getElem _
    have r1 := rows_rng h.1 hx
    have r2 := rows_rng h.1 hy
    have h3 := rows_month' h.1 hx hy h.2
    rw [groN_of h.1 h.2 hx hy, groD_of h.1 h.2 hx hy]
    generalize L[0]'(by omega) = x at *
    generalize L[L.length - 1]'(by omega) = y at *
    have hg := gcd_pos (a := y.Lent - x.Lent) (b := y.Month - x.Month) (by omega)
    have t1 := tdiv_rng (a := y.Lent - x.Lent) hg
    have t2 := tdiv_rng (a := y.Month - x.Month) hg
    omega
  · unfold groN groD; rw [if_neg h, if_neg h]; omega
/-- Growth over all months is the whole change. -/
theorem gro_law (h : RowsOK L ∧ 2 ≤ L.length) (hx : L[0]? = some x) (hy : L[L.length - 1]? = some y) : groN L * (y.Month - x.Month) = groD L * (y.Lent - x.Lent) := by
  rw [groN_of h.1 h.2 hx hy, groD_of h.1 h.2 hx hy]
  generalize y.Lent - x.Lent = a
  generalize y.Month - x.Month = b
  have h1 : ((Int.gcd a b : Nat) : Int) ∣ a := Int.gcd_dvd_left ..
  have h2 : ((Int.gcd a b : Nat) : Int) ∣ b := Int.gcd_dvd_right ..
  have e1 := Int.tdiv_mul_cancel h1
  have e2 := Int.tdiv_mul_cancel h2
  generalize a.tdiv (Int.gcd a b) = p at *
  generalize b.tdiv (Int.gcd a b) = q at *
  generalize ((Int.gcd a b : Nat) : Int) = g at *
  rw [← e1, ← e2, ← Int.mul_assoc, ← Int.mul_assoc, Int.mul_comm p q]
theorem gro_law' (h : RowsOK L ∧ 2 ≤ L.length) (hn : n = L.length) : groN L * ((gt L (n - 1)).Month - (gt L 0).Month) = groD L * ((gt L (n - 1)).Lent - (gt L 0).Lent) := by
  subst hn
  have g : ∀ i, i < L.length → L[i]? = some (gt L i) := fun i hi => by simp [gt, List.getD, List.getElem?_eq_getElem hi]
  exact gro_law h (g 0 (by omega)) (g _ (by omega))
/-- The last count of the rows between two months. -/
def lastR (L : List LibRow) (f u : Int) : Nat → Int
  | 0 => 0
  | k + 1 => match L[k]? with
    | some x => if x.Month < f ∨ u < x.Month then lastR L f u k else x.Lent
    | none => lastR L f u k
theorem lastR_out (hx : L[k]? = some x) (h : x.Month < v ∨ m < x.Month) : lastR L v m (k + 1) = lastR L v m k := by
  rw [lastR, hx]; exact if_pos h
theorem lastR_in (hx : L[k]? = some x) (h : ¬ (x.Month < v ∨ m < x.Month)) : lastR L v m (k + 1) = x.Lent := by
  rw [lastR, hx]; exact if_neg h
theorem best_run (L : List LibRow) : ∀ k, (best L k).1 ≤ (best L k).2.1 ∧ ((best L k).2.1 < k ∨ (best L k).2.1 = 0) ∧ (∀ j, (best L k).1 < j → j ≤ (best L k).2.1 → ¬ fall L j) ∧ ((best L k).2.2 ≤ k) ∧ ∀ j, (best L k).2.2 < j → j < k → ¬ fall L j
  | 0 => by simp [best]; intro j h1 h2; omega
  | k + 1 => by
    have ih := best_run L k
    obtain ⟨h1, h2, h3, h4, h5⟩ := ih
    have hs : ∀ j, (if fall L k then k else (best L k).2.2) < j → j < k + 1 → ¬ fall L j := by
      intro j hj hk
      by_cases hf : fall L k
      · rw [if_pos hf] at hj; omega
      · rw [if_neg hf] at hj
        rcases Nat.lt_or_ge j k with h | h
        · exact h5 j hj h
        · obtain rfl : j = k := by omega
          exact hf
    have hle : (if fall L k then k else (best L k).2.2) ≤ k := by split <;> omega
    rw [best]
    generalize (if fall L k then k else (best L k).2.2) = s at *
    split
    · exact ⟨hle, .inl (by simp), fun j hj hk => hs j hj (by simp at hk; omega), by simp; omega, hs⟩
    · exact ⟨h1, by simp; omega, h3, by simp; omega, hs⟩
theorem best_law (hr : RowsOK L ∧ 0 < L.length) (hl : lastR L (bestF L) (bestL L) k = l) (hx : L[k]? = some x) (h : ¬ (x.Month < bestF L ∨ bestL L < x.Month)) : l ≤ x.Lent := by
  obtain ⟨b1, b2, b3, -, -⟩ := best_run L L.length
  generalize ha : (best L L.length).1 = a at *
  generalize hb : (best L L.length).2.1 = b at *
  have hal : a < L.length := by omega
  have hbl : b < L.length := by omega
  have ga : L[a]? = some L[a] := List.getElem?_eq_getElem _
  have gb : L[b]? = some L[b] := List.getElem?_eq_getElem _
  have eF : bestF L = L[a].Month := by unfold bestF; rw [if_pos hr.1, ha, ga]; rfl
  have eL : bestL L = L[b].Month := by unfold bestL; rw [if_pos hr.1, hb, gb]; rfl
  have mon : ∀ {i j : Nat} {x y : LibRow}, L[i]? = some x → L[j]? = some y → x.Month ≤ y.Month → i ≤ j := by
    intro i j x y hi hj hm
    rcases Nat.lt_or_ge j i with h | h
    · have := rows_month hr.1 h hj hi; omega
    · exact h
  have hk1 : a ≤ k := mon ga hx (by rw [← eF]; omega)
  have hk2 : k ≤ b := mon hx gb (by rw [← eL]; omega)
  have low : ∀ i, i ≤ a → lastR L (bestF L) (bestL L) i = 0 := by
    intro i
    induction i with
    | zero => intro _; rfl
    | succ i ih =>
      intro hi
      have gi : L[i]? = some (L[i]'(by omega)) := List.getElem?_eq_getElem _
      rw [lastR_out gi (.inl (by rw [eF]; exact rows_month hr.1 (by omega) gi ga))]
      exact ih (by omega)
  have r := rows_rng hr.1 hx
  rcases Nat.lt_or_ge a k with h1 | h1
  · have gk : L[k - 1]? = some (L[k - 1]'(by omega)) := List.getElem?_eq_getElem _
    have e := lastR_in (v := bestF L) (m := bestL L) gk (fun hh => by
      rcases hh with hh | hh
      · rw [eF] at hh
        rcases Nat.lt_or_ge a (k - 1) with q | q
        · have := rows_month hr.1 q ga gk; omega
        · have e : k - 1 = a := by omega
          simp [e] at hh
      · rw [eL] at hh
        have := rows_month hr.1 (show k - 1 < b by omega) gk gb; omega)
    rw [show k - 1 + 1 = k by omega, hl] at e
    have nf := b3 k h1 hk2
    rw [e]
    by_cases q : (L[k - 1]'(by omega)).Lent ≤ x.Lent
    · exact q
    · exact absurd ⟨by omega, x, _, hx, gk, by omega⟩ nf
  · have := low k (by omega); omega
end
end Go.Proofs.Ytmigipacjadpeaa
