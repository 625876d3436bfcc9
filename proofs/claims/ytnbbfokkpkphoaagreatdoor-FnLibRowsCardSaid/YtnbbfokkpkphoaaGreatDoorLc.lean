/- Plain words on merged rows and medians. -/
import Derived.Test.YtnbbfokkpkphoaaGreatDoorLa
namespace Go.Proofs.YtnbbfokkpkphoaaGreatDoor
open Go Go.RowKit Fw
def addR (x r : LibRow) : LibRow := ⟨x.Month, x.Lent + r.Lent, x.Copied + r.Copied, x.Given + r.Given, x.Fines + r.Fines⟩
def ins : List LibRow → LibRow → List LibRow
  | [], r => [r]
  | x :: t, r => if x.Month < r.Month then x :: ins t r else if x.Month = r.Month then addR x r :: t else r :: x :: t
def merge : List LibRow → List LibRow → List LibRow
  | [], b => b
  | x :: a, [] => x :: a
  | x :: a, y :: b => if x.Month < y.Month then x :: merge a (y :: b) else if y.Month < x.Month then y :: merge (x :: a) b else addR x y :: merge a b
def LtTo (L : List LibRow) (m : Int) (k : Nat) : Prop := ∀ i x, i < k → L[i]? = some x → x.Month < m
section
variable {L a b o : List LibRow} {m : Int} {k i j n : Nat} {x y r : LibRow}
theorem LtTo.zero : LtTo L m 0 := fun _ _ h => absurd h (by omega)
theorem LtTo.next (h : LtTo L m k) (hx : L[k]? = some x) (hl : x.Month < m) : LtTo L m (k + 1) := by
  intro i z hi hz
  rcases Nat.lt_or_ge i k with h1 | h1
  · exact h i z h1 hz
  · obtain rfl : i = k := by omega
    rw [hx] at hz; injection hz with hz; subst hz; exact hl
theorem LtTo.cons (h : LtTo (x :: L) m (k + 1)) : x.Month < m ∧ LtTo L m k := ⟨h 0 x (by omega) rfl, fun i z hi hz => h (i + 1) z (by omega) (by simpa using hz)⟩
theorem ins_end : ∀ {L : List LibRow} {k : Nat}, LtTo L r.Month k → L.length ≤ k → ins L r = L ++ [r]
  | [], _, _, _ => rfl
  | x :: t, 0, _, hk => by simp at hk
  | x :: t, k + 1, h, hk => by
    obtain ⟨h1, h2⟩ := h.cons
    simp only [ins, if_pos h1, List.cons_append]
    rw [ins_end h2 (by simpa using hk)]
theorem ins_at : ∀ {L : List LibRow} {k : Nat}, LtTo L r.Month k → L[k]? = some x → ¬ x.Month < r.Month → ¬ x.Month = r.Month → ins L r = L.take k ++ [r] ++ L.drop k
  | [], _, _, hx, _, _ => by simp at hx
  | z :: t, 0, _, hx, h1, h2 => by
    obtain rfl : z = x := by simpa using hx
    simp [ins, h1, h2]
  | z :: t, k + 1, h, hx, h1, h2 => by
    obtain ⟨h3, h4⟩ := h.cons
    simp only [ins, if_pos h3]
    rw [ins_at h4 (by simpa using hx) h1 h2]; simp
theorem ins_add : ∀ {L : List LibRow} {k : Nat}, LtTo L r.Month k → L[k]? = some x → ¬ x.Month < r.Month → x.Month = r.Month → ins L r = L.set k (addR x r)
  | [], _, _, hx, _, _ => by simp at hx
  | z :: t, 0, _, hx, h1, h2 => by
    obtain rfl : z = x := by simpa using hx
    simp [ins, h1, h2]
  | z :: t, k + 1, h, hx, h1, h2 => by
    obtain ⟨h3, h4⟩ := h.cons
    simp only [ins, if_pos h3]
    rw [ins_add h4 (by simpa using hx) h1 h2]; simp
theorem fold_next (hr : b[j]? = some r) : (b.take (j + 1)).foldl ins a = ins ((b.take j).foldl ins a) r := by
  rw [List.take_add_one, hr]; simp
theorem ins_len : ∀ (L : List LibRow) (r : LibRow), (ins L r).length ≤ L.length + 1
  | [], r => by simp [ins]
  | x :: t, r => by
    simp only [ins]
    have := ins_len t r
    split
    · simp; omega
    · split <;> simp
theorem fold_len (a : List LibRow) : ∀ b : List LibRow, (b.foldl ins a).length ≤ a.length + b.length := by
  intro b
  induction b generalizing a with
  | nil => simp
  | cons r b ih => simp only [List.foldl_cons, List.length_cons]; have := ih (ins a r); have := ins_len a r; omega
theorem foldt_len (b : List LibRow) (j : Nat) (a : List LibRow) : ((b.take j).foldl ins a).length ≤ a.length + b.length := by
  have := fold_len a (b.take j); simp at this; omega
/-- Bounds of what is added up. -/
def RB (m : Int) (x : LibRow) : Prop := (0 ≤ x.Lent ∧ x.Lent ≤ 99999 * m) ∧ (0 ≤ x.Copied ∧ x.Copied ≤ 99999 * m) ∧ (0 ≤ x.Given ∧ x.Given ≤ 99999 * m) ∧ (0 ≤ x.Fines ∧ x.Fines ≤ 99999 * m)
theorem RB.ok (h : RowOK x) (hm : 1 ≤ m) : RB m x := by unfold RowOK at h; unfold RB; omega
theorem ins_RB (hr : RowOK r) (hm : 0 ≤ m) : ∀ {L : List LibRow}, (∀ x ∈ L, RB m x) → ∀ x ∈ ins L r, RB (m + 1) x
  | [], _ => by
    intro x hx
    obtain rfl : x = r := by simpa [ins] using hx
    exact RB.ok hr (by omega)
  | z :: t, h => by
    intro x hx
    have hz : RB m z := h z (by simp)
    have ht : ∀ x ∈ t, RB m x := fun x hx => h x (by simp [hx])
    have up : ∀ {y}, RB m y → RB (m + 1) y := by intro y hy; unfold RB at *; omega
    simp only [ins] at hx
    split at hx
    · rcases List.mem_cons.1 hx with rfl | hx
      · exact up hz
      · exact ins_RB hr hm ht x hx
    · split at hx
      · rcases List.mem_cons.1 hx with rfl | hx
        · unfold RowOK at hr; unfold RB addR at *; simp only; omega
        · exact up (ht x hx)
      · rcases List.mem_cons.1 hx with rfl | hx
        · exact RB.ok hr (by omega)
        · exact up (h x hx)
theorem fold_RB : ∀ {b a : List LibRow} {m : Int}, 0 ≤ m → (∀ x ∈ a, RB m x) → (∀ x ∈ b, RowOK x) → ∀ x ∈ b.foldl ins a, RB (m + b.length) x
  | [], a, m, _, ha, _ => by simpa using ha
  | r :: b, a, m, hm, ha, hb => by
    intro x hx
    have := fold_RB (b := b) (a := ins a r) (m := m + 1) (by omega) (ins_RB (hb r (by simp)) hm ha) (fun x hx => hb x (by simp [hx])) x hx
    simpa [Int.add_assoc, Int.add_comm, Int.add_left_comm] using this
theorem rows_mem (h : RowsOK L) : ∀ x ∈ L, RowOK x := fun x hx => by
  obtain ⟨i, hi⟩ := List.mem_iff_getElem?.1 hx
  exact (h.1 i x hi).1
theorem fold_rng (ha : RowsOK a) (hb : RowsOK b) (hx : ((b.take j).foldl ins a)[k]? = some x) : ((0 : Int) ≤ x.Lent ∧ x.Lent ≤ 1299987) ∧ ((0 : Int) ≤ x.Copied ∧ x.Copied ≤ 1299987) ∧ ((0 : Int) ≤ x.Given ∧ x.Given ≤ 1299987) ∧ ((0 : Int) ≤ x.Fines ∧ x.Fines ≤ 1299987) := by
  have h := fold_RB (b := b.take j) (a := a) (m := 1) (by omega) (fun x hx => RB.ok (rows_mem ha x hx) (by omega)) (fun x hx => rows_mem hb x (List.mem_of_mem_take hx)) x (List.mem_iff_getElem?.2 ⟨k, hx⟩)
  have hl : (b.take j).length ≤ 12 := by have := hb.2; simp; omega
  unfold RB at h; omega
/-! The merge. -/
theorem merge_nil (a : List LibRow) : merge a [] = a := by cases a <;> simp [merge]
theorem drop_some (hx : L[k]? = some x) : L.drop k = x :: L.drop (k + 1) := by
  obtain ⟨h, e⟩ := List.getElem?_eq_some_iff.1 hx
  rw [List.drop_eq_getElem_cons h, e]
theorem gt_get (h : i < a.length) : a[i]? = some (gt a i) := by simp [gt, List.getD, List.getElem?_eq_getElem h]
theorem mg_A (h : o ++ merge (a.drop i) (b.drop k) = merge a b) (ha : i < a.length) (hc : (k : Int) = (b.length : Int) ∨ ((i : Int) < (a.length : Int) ∧ (gt a i).Month < (gt b k).Month)) (hk : k ≤ b.length) :
    (o ++ [gt a i]) ++ merge (a.drop (i + 1)) (b.drop k) = merge a b := by
  rw [← h, drop_some (gt_get ha)]
  rcases Nat.lt_or_ge k b.length with h1 | h1
  · rw [drop_some (gt_get h1), merge, if_pos (by omega)]; simp
  · rw [List.drop_of_length_le h1, merge_nil, merge_nil]; simp
theorem mg_B (h : o ++ merge (a.drop i) (b.drop k) = merge a b) (hb : k < b.length) (hn : ¬ ((k : Int) = (b.length : Int) ∨ ((i : Int) < (a.length : Int) ∧ (gt a i).Month < (gt b k).Month))) (hc : (i : Int) = (a.length : Int) ∨ (gt b k).Month < (gt a i).Month) (hi : i ≤ a.length) :
    (o ++ [gt b k]) ++ merge (a.drop i) (b.drop (k + 1)) = merge a b := by
  rw [← h, drop_some (gt_get hb)]
  rcases Nat.lt_or_ge i a.length with h1 | h1
  · rw [drop_some (gt_get h1), merge, if_neg (by omega), if_pos (by omega)]; simp
  · rw [List.drop_of_length_le h1]; simp [merge]
theorem mg_AB (h : o ++ merge (a.drop i) (b.drop k) = merge a b) (ha : i < a.length) (hb : k < b.length) (hn : ¬ ((k : Int) = (b.length : Int) ∨ ((i : Int) < (a.length : Int) ∧ (gt a i).Month < (gt b k).Month))) (hc : ¬ ((i : Int) = (a.length : Int) ∨ (gt b k).Month < (gt a i).Month)) :
    (o ++ [⟨(gt a i).Month, (gt a i).Lent + (gt b k).Lent, (gt a i).Copied + (gt b k).Copied, (gt a i).Given + (gt b k).Given, (gt a i).Fines + (gt b k).Fines⟩]) ++ merge (a.drop (i + 1)) (b.drop (k + 1)) = merge a b := by
  rw [← h, drop_some (gt_get ha), drop_some (gt_get hb), merge, if_neg (by omega), if_neg (by omega)]; simp [addR]
/-- What an insertion does at place k. -/
theorem ins_A (hl : LtTo L m k) (hr : r.Month = m) (hk : k ≤ L.length) (h1 : ¬ ((k : Int) < (L.length : Int) ∧ (gt L k).Month < m)) (h2 : (k : Int) = (L.length : Int) ∨ ¬ (gt L k).Month = m) : L.take k ++ [r] ++ L.drop k = ins L r := by
  subst hr
  rcases Nat.lt_or_ge k L.length with h3 | h3
  · exact (ins_at hl (gt_get h3) (by omega) (by omega)).symm
  · rw [ins_end hl h3, List.take_of_length_le h3, List.drop_of_length_le h3, List.append_nil]
theorem ins_B (hl : LtTo L r.Month k) (hk : k ≤ L.length) (h1 : ¬ ((k : Int) < (L.length : Int) ∧ (gt L k).Month < r.Month)) (h2 : ¬ ((k : Int) = (L.length : Int) ∨ ¬ (gt L k).Month = r.Month)) :
    L.set k ⟨(gt L k).Month, (gt L k).Lent + r.Lent, (gt L k).Copied + r.Copied, (gt L k).Given + r.Given, (gt L k).Fines + r.Fines⟩ = ins L r := by
  exact (ins_add hl (gt_get (by omega)) (by omega) (by omega)).symm
theorem mg_end (h : o ++ merge (a.drop i) (b.drop k) = merge a b) (hi : a.length ≤ i) (hk : b.length ≤ k) : o = merge a b := by
  rw [← h, List.drop_of_length_le hi, List.drop_of_length_le hk]; simp [merge]
theorem merge_len : ∀ a b : List LibRow, (merge a b).length ≤ a.length + b.length
  | [], b => by simp [merge]
  | x :: a, [] => by simp [merge]
  | x :: a, y :: b => by
    simp only [merge]
    have h1 := merge_len a (y :: b); have h2 := merge_len (x :: a) b; have h3 := merge_len a b
    simp only [List.length_cons] at *
    split
    · simp only [List.length_cons]; omega
    · split <;> simp only [List.length_cons] <;> omega
  termination_by a b => a.length + b.length
theorem mg_len {p q : List LibRow} (h : o ++ merge p q = merge a b) : o.length ≤ a.length + b.length := by
  have := merge_len a b; rw [← h, List.length_append] at this; omega
/-- Sorted by month. -/
def Srt : List LibRow → Prop
  | [] => True
  | x :: t => (∀ y ∈ t, x.Month < y.Month) ∧ Srt t
theorem srt_of : ∀ {L : List LibRow}, (∀ j x y, L[j]? = some x → L[j + 1]? = some y → x.Month < y.Month) → Srt L
  | [], _ => trivial
  | [x], _ => ⟨by simp, trivial⟩
  | x :: y :: t, h => by
    have h0 := h 0 x y rfl rfl
    have ht := srt_of (L := y :: t) fun j u v hu hv => h (j + 1) u v (by simpa using hu) (by simpa using hv)
    refine ⟨fun z hz => ?_, ht⟩
    rcases List.mem_cons.1 hz with rfl | hz
    · exact h0
    · have := ht.1 z hz; omega
theorem rows_srt (h : RowsOK L) : Srt L := srt_of fun j x y hx hy => (h.1 (j + 1) y hy).2 x (by omega) (by simpa using hx)
theorem ins_lt (hm : m < r.Month) : ∀ {L : List LibRow}, (∀ x ∈ L, m < x.Month) → ∀ x ∈ ins L r, m < x.Month
  | [], _ => by
    intro x hx
    have e : x = r := by simpa [ins] using hx
    rw [e]; exact hm
  | z :: t, h => by
    intro x hx
    have hz := h z (by simp)
    simp only [ins] at hx
    split at hx
    · rcases List.mem_cons.1 hx with rfl | hx
      · exact hz
      · exact ins_lt hm (fun x hx => h x (by simp [hx])) x hx
    · split at hx
      · rcases List.mem_cons.1 hx with rfl | hx
        · exact hz
        · exact h x (by simp [hx])
      · rcases List.mem_cons.1 hx with rfl | hx
        · exact hm
        · exact h x hx
theorem fold_head : ∀ {b L : List LibRow} {x : LibRow}, (∀ y ∈ b, x.Month < y.Month) → b.foldl ins (x :: L) = x :: b.foldl ins L
  | [], _, _, _ => rfl
  | y :: b, L, x, h => by
    have h1 := h y (by simp)
    simp only [List.foldl_cons, ins, if_pos h1]
    exact fold_head fun z hz => h z (by simp [hz])
theorem fold_nil : ∀ {b : List LibRow}, Srt b → b.foldl ins [] = b
  | [], _ => rfl
  | y :: b, h => by
    simp only [List.foldl_cons, ins]
    rw [fold_head h.1, fold_nil h.2]
theorem fold_merge : ∀ {a b : List LibRow}, Srt a → Srt b → b.foldl ins a = merge a b
  | [], b, _, hb => by rw [fold_nil hb]; simp [merge]
  | x :: a, [], _, _ => by simp [merge]
  | x :: a, y :: b, ha, hb => by
    simp only [List.foldl_cons, ins, merge]
    split
    · rename_i h
      rw [fold_head (fun z hz => by have := hb.1 z hz; omega), show b.foldl ins (ins a y) = (y :: b).foldl ins a from rfl, fold_merge ha.2 hb]
    · rename_i h
      split
      · rename_i h2
        rw [if_neg (show ¬ y.Month < x.Month by omega), fold_head (fun z hz => by have := hb.1 z hz; show x.Month < z.Month; omega), fold_merge ha.2 hb.2]
      · rename_i h2
        rw [if_pos (show y.Month < x.Month by omega), fold_head hb.1, fold_merge ha hb.2]
  termination_by a b => a.length + b.length
noncomputable def mrg (a b : List LibRow) : Option (List LibRow) := if RowsOK a ∧ RowsOK b ∧ RowsOK (merge a b) then some (merge a b) else none
theorem mrg_no1 (h : ¬ RowsOK a) : mrg a b = none := by unfold mrg; rw [if_neg (fun k => h k.1)]
theorem mrg_no2 (h : ¬ RowsOK b) : mrg a b = none := by unfold mrg; rw [if_neg (fun k => h k.2.1)]
theorem mrg_or (h : ¬ RowsOK a ∨ ¬ RowsOK b) : mrg a b = none := h.elim mrg_no1 mrg_no2
theorem mrg_noM (he : o = merge a b) (h : ¬ RowsOK o) : mrg a b = none := by subst he; unfold mrg; rw [if_neg (fun k => h k.2.2)]
theorem mrg_yes (ha : RowsOK a) (hb : RowsOK b) (he : o = merge a b) (h : RowsOK o) : mrg a b = some o := by subst he; unfold mrg; rw [if_pos ⟨ha, hb, h⟩]
theorem mrg_fold (ha : RowsOK a) (hb : RowsOK b) (hj : b.length ≤ j) : (b.take j).foldl ins a = merge a b := by
  rw [List.take_of_length_le hj]; exact fold_merge (rows_srt ha) (rows_srt hb)
theorem mrg_len (a b : List LibRow) : ((mrg a b).getD []).length ≤ 12 := by
  unfold mrg
  split
  · rename_i h; exact h.2.2.2
  · simp
end
end Go.Proofs.YtnbbfokkpkphoaaGreatDoor
