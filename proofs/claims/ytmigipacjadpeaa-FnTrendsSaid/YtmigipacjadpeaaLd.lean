/- Plain words on medians. -/
import Derived.Test.YtmigipacjadpeaaLa
import Derived.Test.YtmigipacjadpeaaSo
namespace Go.Proofs.Ytmigipacjadpeaa
open Go Go.RowKit Fw
def lents (L : List LibRow) (k : Nat) : List Int := (L.map LibRow.Lent).take k
noncomputable def medL (L : List LibRow) : Int := if RowsOK L ∧ 0 < L.length then gt (sortI (lents L L.length)) ((L.length - 1) / 2) else 0
section
variable {L : List LibRow} {k j : Nat} {i : Int}
theorem lents_get (h : k < L.length) : (L.map LibRow.Lent)[k]? = some (gt L k).Lent := by
  simp [gt, List.getD, List.getElem?_eq_getElem h]
theorem lents_next (h : k < L.length) : lents L k ++ [(gt L k).Lent] = lents L (k + 1) := by
  unfold lents; rw [List.take_add_one, lents_get h]; rfl
theorem lents_len (L : List LibRow) (k : Nat) : (lents L k).length ≤ L.length := by unfold lents; simp; omega
theorem lents_len' (h : k ≤ L.length) : (lents L k).length = k := by unfold lents; simp; omega
theorem sl_leq (h : k ≤ L.length) : (sortI (lents L k)).length = k := by rw [sortI_len]; exact lents_len' h
theorem sl_len (L : List LibRow) (k : Nat) : (sortI (lents L k)).length ≤ L.length := by rw [sortI_len]; exact lents_len L k
theorem med_yes (hr : RowsOK L) (hk : L.length ≤ k) (hk' : k ≤ L.length) (h0 : ¬ ((L.length : Int) = 0)) (hi : i = (L.length : Int)) : gt (sortI (lents L k)) ((i - 1) / 2).toNat = medL L := by
  obtain rfl : k = L.length := by omega
  subst hi
  unfold medL
  rw [if_pos ⟨hr, by omega⟩]
  congr 1
  omega
theorem med_no (h : ¬ RowsOK L ∨ (L.length : Int) = 0) : medL L = 0 := by
  unfold medL
  rw [if_neg]
  rintro ⟨h1, h2⟩
  rcases h with h | h
  · exact h h1
  · omega
theorem med_ins (hk : k < L.length) (hj : j ≤ (sortI (lents L k)).length) (h : ∀ x ∈ (sortI (lents L k)).drop j, (gt L k).Lent < x) (he : ¬ ((0 : Int) < (j : Int) ∧ (gt L k).Lent < gt (sortI (lents L k)) (j - 1))) :
    (sortI (lents L k)).take j ++ [(gt L k).Lent] ++ (sortI (lents L k)).drop j = sortI (lents L (k + 1)) := by
  have e : sortI (lents L (k + 1)) = insI (sortI (lents L k)) (gt L k).Lent := by
    have := sortI_snoc (L := L.map LibRow.Lent) (k := k) (lents_get hk)
    exact this
  rw [e, insI_at (sortI_asc _) hj (fun x hx => ?_) h]
  · simp
  · rcases Nat.eq_zero_or_pos j with h0 | h0
    · subst h0; simp at hx
    · have hp : (sortI (lents L k))[j - 1]? = some ((sortI (lents L k))[j - 1]'(by omega)) := List.getElem?_eq_getElem _
      have h1 : ¬ (gt L k).Lent < gt (sortI (lents L k)) (j - 1) := fun q => he ⟨by omega, q⟩
      rw [gt_eq hp] at h1
      have h2 := asc_take_le (sortI_asc _) hp x (by rw [show j - 1 + 1 = j by omega]; exact hx)
      omega
theorem med_down (hj : 0 < j) (hjl : j ≤ (sortI (lents L k)).length) (h : ∀ x ∈ (sortI (lents L k)).drop j, (gt L k).Lent < x) (hl : (gt L k).Lent < gt (sortI (lents L k)) (j - 1)) : ∀ x ∈ (sortI (lents L k)).drop (j - 1), (gt L k).Lent < x := by
  have hp : (sortI (lents L k))[j - 1]? = some ((sortI (lents L k))[j - 1]'(by omega)) := List.getElem?_eq_getElem _
  rw [gt_eq hp] at hl
  rw [List.drop_eq_getElem_cons (by omega : j - 1 < (sortI (lents L k)).length), show j - 1 + 1 = j by omega]
  intro x hm
  rcases List.mem_cons.1 hm with rfl | hm
  · exact hl
  · exact h x hm
end
end Go.Proofs.Ytmigipacjadpeaa
