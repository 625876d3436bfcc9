/- Plain words on sorting. -/
import Derived.Test.YthgbcadgnihdiaaGreatDoorFn
namespace Go.Proofs.YthgbcadgnihdiaaGreatDoor
open Go Go.RowKit Fw
theorem tk_le {α : Type} (L : List α) (k : Nat) : (L.take k).length ≤ L.length := by simp; omega
def Asc : List Int → Prop
  | [] => True
  | x :: t => (∀ y ∈ t, x ≤ y) ∧ Asc t
def insI : List Int → Int → List Int
  | [], v => [v]
  | x :: t, v => if x ≤ v then x :: insI t v else v :: x :: t
/-- The list, sorted. -/
def sortI (L : List Int) : List Int := L.foldl insI []
section
variable {L P : List Int} {v x : Int} {j k i : Nat}
theorem insI_mem : ∀ {P : List Int}, x ∈ insI P v ↔ x = v ∨ x ∈ P
  | [] => by simp [insI]
  | y :: t => by
    unfold insI
    split
    · simp only [List.mem_cons, insI_mem (P := t)]; constructor <;> (rintro (h | h | h) <;> simp [h])
    · simp
theorem insI_asc : ∀ {P : List Int}, Asc P → Asc (insI P v)
  | [], _ => ⟨by simp, trivial⟩
  | y :: t, h => by
    unfold insI
    split
    · rename_i hle
      refine ⟨fun z hz => ?_, insI_asc h.2⟩
      rcases insI_mem.1 hz with rfl | hz
      · exact hle
      · exact h.1 z hz
    · rename_i hle
      refine ⟨fun z hz => ?_, h⟩
      rcases List.mem_cons.1 hz with rfl | hz
      · omega
      · have := h.1 z hz; omega
theorem insI_len : ∀ {P : List Int}, (insI P v).length = P.length + 1
  | [] => rfl
  | y :: t => by unfold insI; split <;> simp [insI_len]
theorem fold_len : ∀ {L P : List Int}, (L.foldl insI P).length = P.length + L.length
  | [], P => by simp
  | x :: L, P => by simp only [List.foldl_cons, List.length_cons]; rw [fold_len, insI_len]; omega
theorem sortI_len (L : List Int) : (sortI L).length = L.length := by unfold sortI; rw [fold_len]; simp
theorem fold_asc : ∀ {L P : List Int}, Asc P → Asc (L.foldl insI P)
  | [], _, h => h
  | x :: L, P, h => fold_asc (L := L) (insI_asc h)
theorem sortI_asc (L : List Int) : Asc (sortI L) := fold_asc trivial
theorem sortI_snoc (h : L[k]? = some v) : sortI (L.take (k + 1)) = insI (sortI (L.take k)) v := by
  unfold sortI; rw [List.take_add_one, h]; simp
/-- Where the new one comes to lie: behind all that are not above it. -/
theorem insI_at : ∀ {P : List Int} {j : Nat}, Asc P → j ≤ P.length → (∀ x ∈ P.take j, x ≤ v) → (∀ x ∈ P.drop j, v < x) → insI P v = P.take j ++ v :: P.drop j
  | [], j, _, hj, _, _ => by simp [insI]
  | y :: t, 0, h, _, _, h2 => by
    have := h2 y (by simp)
    simp [insI, show ¬ y ≤ v by omega]
  | y :: t, j + 1, h, hj, h1, h2 => by
    have := h1 y (by simp)
    simp only [insI, if_pos this, List.take_succ_cons, List.drop_succ_cons, List.cons_append]
    rw [insI_at h.2 (by simpa using hj) (fun x hx => h1 x (by simp [hx])) (fun x hx => h2 x (by simpa using hx))]
theorem asc_take_le : ∀ {P : List Int} {j : Nat}, Asc P → P[j]? = some x → ∀ y ∈ P.take (j + 1), y ≤ x
  | [], _, _, h => by simp at h
  | z :: t, 0, _, h => by
    obtain rfl : z = x := by simpa using h
    simp
  | z :: t, j + 1, ha, h => by
    intro y hy
    simp only [List.take_succ_cons, List.mem_cons] at hy
    rcases hy with rfl | hy
    · exact ha.1 x (List.mem_iff_getElem?.2 ⟨j, by simpa using h⟩)
    · exact asc_take_le ha.2 (by simpa using h) y hy
/-- One step down: the new one and the one before it change places. -/
theorem swap_down {R : List Int} (hj : 0 < j) (hjp : j ≤ P.length) (hx : P[j - 1]? = some x) :
    ((P.take j ++ v :: P.drop j ++ R).set j x).set (j - 1) v = P.take (j - 1) ++ v :: P.drop (j - 1) ++ R := by
  obtain ⟨j, rfl⟩ : ∃ i, j = i + 1 := ⟨j - 1, by omega⟩
  simp only [Nat.add_sub_cancel] at *
  have hd : P.drop j = x :: P.drop (j + 1) := by
    obtain ⟨h, e⟩ := List.getElem?_eq_some_iff.1 hx
    rw [List.drop_eq_getElem_cons h, e]
  have ht : P.take (j + 1) = P.take j ++ [x] := by rw [List.take_add_one, hx]; rfl
  have hl : (P.take j).length = j := by simp; omega
  rw [hd, ht]
  simp only [List.append_assoc, List.cons_append, List.nil_append]
  rw [List.set_append_right _ _ (by omega), hl, show j + 1 - j = 1 by omega, List.set_append_right _ _ (by omega), hl, Nat.sub_self]
  simp
theorem mid_get {R : List Int} (hjp : j ≤ P.length) : (P.take j ++ v :: P.drop j ++ R)[j]? = some v := by
  have hl : (P.take j).length = j := by simp; omega
  rw [List.append_assoc, List.getElem?_append_right (by omega), hl, Nat.sub_self]; rfl
theorem mid_pre {R : List Int} (hj : 0 < j) (hjp : j ≤ P.length) : (P.take j ++ v :: P.drop j ++ R)[j - 1]? = P[j - 1]? := by
  have hl : (P.take j).length = j := by simp; omega
  rw [List.append_assoc, List.getElem?_append_left (by omega), List.getElem?_take, if_pos (by omega)]
theorem sort_one (L : List Int) : L = sortI (L.take (0 + 1)) ++ L.drop (0 + 1) := by
  cases L <;> simp [sortI, insI]
theorem sort_end (h : L.length ≤ k) : sortI (L.take k) ++ L.drop k = sortI L := by
  rw [List.take_of_length_le h, List.drop_of_length_le h, List.append_nil]
theorem sort_tk (h : k ≤ L.length) : (sortI (L.take k)).length = k := by rw [sortI_len]; simp; omega
theorem sort_in (h : k < L.length) : sortI (L.take k) ++ L.drop k = (sortI (L.take k)).take k ++ gt L k :: (sortI (L.take k)).drop k ++ L.drop (k + 1) := by
  have hl := sort_tk (Nat.le_of_lt h)
  have hg : L[k]? = some (gt L k) := by simp [gt, List.getD, List.getElem?_eq_getElem h]
  have hd : L.drop k = gt L k :: L.drop (k + 1) := by
    obtain ⟨h1, e⟩ := List.getElem?_eq_some_iff.1 hg
    rw [List.drop_eq_getElem_cons h1, e]
  rw [List.take_of_length_le (l := sortI (L.take k)) (i := k) (by omega), List.drop_of_length_le (by omega : (sortI (L.take k)).length ≤ k), hd]; simp
theorem sort_swap {R : List Int} (hj : 0 < j) (hjp : j ≤ P.length) :
    ((P.take j ++ v :: P.drop j ++ R).set j (gt (P.take j ++ v :: P.drop j ++ R) (j - 1))).set (j - 1) (gt (P.take j ++ v :: P.drop j ++ R) j) = P.take (j - 1) ++ v :: P.drop (j - 1) ++ R := by
  have hx : P[j - 1]? = some (P[j - 1]'(by omega)) := List.getElem?_eq_getElem _
  rw [gt_eq (mid_get hjp), gt_eq ((mid_pre hj hjp).trans hx)]
  exact swap_down hj hjp hx
theorem sort_inv {R : List Int} (hj : 0 < j) (hjp : j ≤ P.length) (h : ∀ x ∈ P.drop j, v < x) (hl : gt (P.take j ++ v :: P.drop j ++ R) j < gt (P.take j ++ v :: P.drop j ++ R) (j - 1)) : ∀ x ∈ P.drop (j - 1), v < x := by
  have hx : P[j - 1]? = some (P[j - 1]'(by omega)) := List.getElem?_eq_getElem _
  rw [gt_eq (mid_get hjp), gt_eq ((mid_pre hj hjp).trans hx)] at hl
  rw [List.drop_eq_getElem_cons (by omega : j - 1 < P.length), show j - 1 + 1 = j by omega]
  intro x hm
  rcases List.mem_cons.1 hm with rfl | hm
  · exact hl
  · exact h x hm
theorem sort_out (hk : k < L.length) (hj : j ≤ k) (h : ∀ x ∈ (sortI (L.take k)).drop j, gt L k < x)
    (he : ¬ ((0 : Int) < (j : Int) ∧ gt ((sortI (L.take k)).take j ++ gt L k :: (sortI (L.take k)).drop j ++ L.drop (k + 1)) j < gt ((sortI (L.take k)).take j ++ gt L k :: (sortI (L.take k)).drop j ++ L.drop (k + 1)) (j - 1))) :
    (sortI (L.take k)).take j ++ gt L k :: (sortI (L.take k)).drop j ++ L.drop (k + 1) = sortI (L.take (k + 1)) ++ L.drop (k + 1) := by
  have hl := sort_tk (L := L) (Nat.le_of_lt hk)
  have hg : L[k]? = some (gt L k) := by simp [gt, List.getD, List.getElem?_eq_getElem hk]
  rw [sortI_snoc hg, insI_at (sortI_asc _) (by omega) (fun x hx => ?_) h]
  rcases Nat.eq_zero_or_pos j with h0 | h0
  · subst h0; simp at hx
  · have hp : (sortI (L.take k))[j - 1]? = some ((sortI (L.take k))[j - 1]'(by omega)) := List.getElem?_eq_getElem _
    have h1 : ¬ gt ((sortI (L.take k)).take j ++ gt L k :: (sortI (L.take k)).drop j ++ L.drop (k + 1)) j < gt ((sortI (L.take k)).take j ++ gt L k :: (sortI (L.take k)).drop j ++ L.drop (k + 1)) (j - 1) := fun q => he ⟨by omega, q⟩
    rw [gt_eq (mid_get (by omega)), gt_eq ((mid_pre h0 (by omega)).trans hp)] at h1
    have h2 := asc_take_le (sortI_asc _) hp x (by rw [show j - 1 + 1 = j by omega]; exact hx)
    omega
end
end Go.Proofs.YthgbcadgnihdiaaGreatDoor
