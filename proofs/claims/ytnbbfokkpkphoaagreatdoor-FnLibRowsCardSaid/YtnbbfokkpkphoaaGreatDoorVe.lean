/- Rows that are merged, and their sums: plain words. -/
import Derived.Test.YtnbbfokkpkphoaaGreatDoorLc
import Derived.Test.YtnbbfokkpkphoaaGreatDoorVb
import Derived.Test.YtnbbfokkpkphoaaGreatDoorVc
import Derived.Test.YtnbbfokkpkphoaaGreatDoorDa
namespace Go.Proofs.YtnbbfokkpkphoaaGreatDoor
open Go Go.RowKit Fw
theorem merge_comm : ∀ a b : List LibRow, merge a b = merge b a
  | [], b => by rw [merge_nil]; simp [merge]
  | x :: a, [] => by simp [merge]
  | x :: a, y :: b => by
    have h1 := merge_comm a (y :: b)
    have h2 := merge_comm (x :: a) b
    have h3 := merge_comm a b
    unfold merge
    by_cases q1 : x.Month < y.Month
    · rw [if_pos q1, if_neg (by omega), if_pos q1, h1]
    · rw [if_neg q1]
      by_cases q2 : y.Month < x.Month
      · rw [if_pos q2, if_pos q2, h2]
      · rw [if_neg q2, if_neg q2, if_neg q1, h3]
        congr 1
        exact LibRow.ext (show x.Month = y.Month by omega) (Int.add_comm _ _) (Int.add_comm _ _) (Int.add_comm _ _) (Int.add_comm _ _)
  termination_by a b => a.length + b.length
theorem merge_sum (f : LibRow → Int) (hf : ∀ x y, f (addR x y) = f x + f y) : ∀ a b : List LibRow, ((merge a b).map f).sum = (a.map f).sum + (b.map f).sum
  | [], b => by simp [merge]
  | x :: a, [] => by simp [merge]
  | x :: a, y :: b => by
    have h1 := merge_sum f hf a (y :: b)
    have h2 := merge_sum f hf (x :: a) b
    have h3 := merge_sum f hf a b
    unfold merge
    split
    · simp only [List.map_cons, List.sum_cons] at *; omega
    · split
      · simp only [List.map_cons, List.sum_cons] at *; omega
      · simp only [List.map_cons, List.sum_cons, hf] at *; omega
  termination_by a b => a.length + b.length
section
variable {a b L : List LibRow} {k n1 n2 n3 : Nat} {r : LibRow}
theorem mrg_comm (a b : List LibRow) : mrg b a = mrg a b := by
  unfold mrg; rw [merge_comm b a]
  by_cases h : RowsOK a ∧ RowsOK b ∧ RowsOK (merge a b)
  · rw [if_pos h, if_pos ⟨h.2.1, h.1, h.2.2⟩]
  · rw [if_neg h, if_neg (fun k => h ⟨k.2.1, k.1, k.2.2⟩)]
theorem mrg_some (h : (mrg a b).isSome = true) : (RowsOK a ∧ RowsOK b ∧ RowsOK (merge a b)) ∧ (mrg a b).getD [] = merge a b := by
  by_cases q : RowsOK a ∧ RowsOK b ∧ RowsOK (merge a b)
  · refine ⟨q, ?_⟩; unfold mrg; rw [if_pos q]; rfl
  · unfold mrg at h; rw [if_neg q] at h; cases h
theorem sum_rng (f : LibRow → Int) : ∀ {L : List LibRow}, (∀ x ∈ L, 0 ≤ f x ∧ f x ≤ 99999) → 0 ≤ (L.map f).sum ∧ (L.map f).sum ≤ 99999 * (L.length : Int)
  | [], _ => by simp
  | x :: t, h => by
    have h1 := sum_rng f (L := t) (fun y hy => h y (by simp [hy]))
    have h2 := h x (by simp)
    simp only [List.map_cons, List.sum_cons, List.length_cons]; omega
theorem tot_rng (h : RowsOK L) (k : Nat) (hk : k < 4) : 0 ≤ gt (totL L) k ∧ gt (totL L) k ≤ 1299987 := by
  have hm : ∀ x ∈ L, RowOK x := rows_mem h
  have h1 := sum_rng LibRow.Lent (L := L) (fun x hx => by have := row_rng (hm x hx); omega)
  have h2 := sum_rng LibRow.Copied (L := L) (fun x hx => by have := row_rng (hm x hx); omega)
  have h3 := sum_rng LibRow.Given (L := L) (fun x hx => by have := row_rng (hm x hx); omega)
  have h4 := sum_rng LibRow.Fines (L := L) (fun x hx => by have := row_rng (hm x hx); omega)
  have hl := h.2
  unfold totL; rw [if_pos h]; unfold totN gt
  match k, hk with
  | 0, _ => simp only [List.getD_cons_zero]; omega
  | 1, _ => simp only [List.getD_cons_zero, List.getD_cons_succ]; omega
  | 2, _ => simp only [List.getD_cons_zero, List.getD_cons_succ]; omega
  | 3, _ => simp only [List.getD_cons_zero, List.getD_cons_succ]; omega
theorem tot_add (h : (mrg a b).isSome = true) (hk : k < 4) : gt (totL ((mrg a b).getD [])) k = gt (totL a) k + gt (totL b) k := by
  obtain ⟨⟨h1, h2, h3⟩, e⟩ := mrg_some h
  rw [e]
  unfold totL; rw [if_pos h1, if_pos h2, if_pos h3]; unfold totN gt
  match k, hk with
  | 0, _ => simp only [List.getD_cons_zero]; exact merge_sum _ (fun _ _ => rfl) a b
  | 1, _ => simp only [List.getD_cons_zero, List.getD_cons_succ]; exact merge_sum _ (fun _ _ => rfl) a b
  | 2, _ => simp only [List.getD_cons_zero, List.getD_cons_succ]; exact merge_sum _ (fun _ _ => rfl) a b
  | 3, _ => simp only [List.getD_cons_zero, List.getD_cons_succ]; exact merge_sum _ (fun _ _ => rfl) a b
theorem lr_bad (h : (!(parN (if RowOK r then lineT r else [])).2) = true ∨ ¬ (parN (if RowOK r then lineT r else [])).1 = r) (h0 : RowOK r) : False := by
  rw [if_pos h0, parN_yes h0 rfl] at h; simp at h
theorem self_no {α : Type} {x : α} (h : ¬ x = x) : False := h rfl
theorem mg_bad1 (h : (mrg a b).isSome = true) (hb : ¬ RowsOK a ∨ ¬ RowsOK b ∨ ¬ RowsOK ((mrg a b).getD []) ∨ ¬ (n1 : Int) = 4 ∨ ¬ (n2 : Int) = 4 ∨ ¬ (n3 : Int) = 4) (e1 : n1 = (totL a).length) (e2 : n2 = (totL b).length) (e3 : n3 = (totL ((mrg a b).getD [])).length) : False := by
  obtain ⟨⟨h1, h2, h3⟩, e⟩ := mrg_some h
  rw [e] at hb e3
  rw [totL_len4 _ h1] at e1
  rw [totL_len4 _ h2] at e2
  rw [totL_len4 _ h3] at e3
  rcases hb with hb | hb | hb | hb | hb | hb
  · exact hb h1
  · exact hb h2
  · exact hb h3
  all_goals omega
theorem mg_bad2 (h : (mrg a b).isSome = true) (hb : ¬ gt (totL ((mrg a b).getD [])) k = IntKind.i64.wrap (gt (totL a) k + gt (totL b) k)) (hk : (k : Int) < 4) : False := by
  obtain ⟨⟨h1, h2, h3⟩, e⟩ := mrg_some h
  have r1 := tot_rng h1 k (by omega)
  have r2 := tot_rng h2 k (by omega)
  rw [tot_add h (by omega), wrap64_in (by omega)] at hb
  exact hb rfl
theorem mg_bad3 (h : (mrg a b).isSome = true) (hb : (!(mrg b a).isSome) = true ∨ ¬ (mrg b a).getD [] = (mrg a b).getD []) : False := by
  rw [mrg_comm a b, h] at hb; simp at hb
end
end Go.Proofs.YtnbbfokkpkphoaaGreatDoor
