/- Plain words on seats and minutes. -/
import Derived.Test.YthgbcadgnihdiaaGreatDoorRb
namespace Go.Proofs.YthgbcadgnihdiaaGreatDoor
open Go Go.RowKit Fw
noncomputable def freeF (L : List Visit) (a b : Int) : List Int := if VsOK L ∧ (480 ≤ a ∧ a ≤ 1200) ∧ (480 ≤ b ∧ b ≤ 1200) ∧ a < b then freeN L a b 6 else []
noncomputable def seatO (L : List Visit) (r m : Int) : Int := if (VsOK L ∧ (1 ≤ r ∧ r ≤ 999) ∧ 480 ≤ m ∧ m ≤ 1200) ∧ 0 ≤ idxF (atV r m) L then (gt L (idxF (atV r m) L).toNat).Seat else 0
/-- The minutes of a reader. -/
def minsN : List Visit → Int → Int
  | [], _ => 0
  | v :: t, r => (if v.Reader = r then v.Until - v.From else 0) + minsN t r
def VsB (L : List Visit) : Prop := ∀ x ∈ L, (-100000 ≤ x.From ∧ x.From ≤ 100000) ∧ (-100000 ≤ x.Until ∧ x.Until ≤ 100000)
section
variable {L A B : List Visit} {a b r m i : Int} {k n : Nat} {x : Visit} {M : List Int} {v y : Int}
theorem freeF_len (L : List Visit) (a b : Int) : (freeF L a b).length ≤ 6 := by
  unfold freeF; split
  · exact free_len _ _ _ _
  · simp
theorem seatO_no (h : ¬ (VsOK L ∧ (1 ≤ r ∧ r ≤ 999) ∧ 480 ≤ m ∧ m ≤ 1200)) : seatO L r m = 0 := if_neg fun k => h k.1
theorem seatO_out (h : idxF (atV r m) L < 0) : seatO L r m = 0 := if_neg fun k => by have := k.2; omega
theorem seatO_outW (hv : VsOK L) (h : ¬ (VsOK L ∧ (1 ≤ r ∧ r ≤ 999) ∧ (480 ≤ m ∧ m ≤ 1200) ∧ 0 ≤ idxF (atW r m) L)) : seatO L r m = 0 :=
  if_neg fun k => h ⟨hv, k.1.2.1, k.1.2.2, by rw [atW_eq hv]; exact k.2⟩
theorem seatO_in (h : VsOK L ∧ (1 ≤ r ∧ r ≤ 999) ∧ 480 ≤ m ∧ m ≤ 1200) (hx : L[i.toNat]? = some x) (hi : i = idxF (atV r m) L) (h0 : 0 ≤ i) : x.Seat = seatO L r m := by
  subst hi; unfold seatO; rw [if_pos ⟨h, h0⟩, gt_eq hx]
theorem mins_app : ∀ {A : List Visit}, minsN (A ++ B) r = minsN A r + minsN B r
  | [] => by simp [minsN]
  | v :: t => by simp only [List.cons_append, minsN]; rw [mins_app (A := t)]; omega
theorem mins_next (hx : L[k]? = some x) : minsN (L.take (k + 1)) r = minsN (L.take k) r + if x.Reader = r then x.Until - x.From else 0 := by
  rw [List.take_add_one, hx, mins_app]; simp [minsN]
theorem mins_yes (hx : L[k]? = some x) (h : x.Reader = r) : minsN (L.take (k + 1)) r = minsN (L.take k) r + (x.Until - x.From) := by rw [mins_next hx, if_pos h]
theorem mins_no (hx : L[k]? = some x) (h : ¬ x.Reader = r) : minsN (L.take (k + 1)) r = minsN (L.take k) r := by rw [mins_next hx, if_neg h]; omega
theorem mins_bd (r : Int) (hv : VsOK L) : ∀ k, k ≤ L.length → 0 ≤ minsN (L.take k) r ∧ minsN (L.take k) r ≤ 720 * (k : Int)
  | 0, _ => by simp [minsN]
  | k + 1, h => by
    have hx : L[k]? = some (L[k]'(by omega)) := List.getElem?_eq_getElem _
    have := mins_bd r hv k (by omega)
    have hr := vs_rng hv hx
    rw [mins_next hx]; split <;> omega
theorem mins_rng (L : List Visit) (r : Int) : 0 ≤ (if VsOK L ∧ (1 ≤ r ∧ r ≤ 999) then minsN L r else 0) ∧ (if VsOK L ∧ (1 ≤ r ∧ r ≤ 999) then minsN L r else 0) ≤ 10800 := by
  split
  · rename_i h
    have := mins_bd r h.1 L.length (Nat.le_refl _)
    rw [List.take_of_length_le (Nat.le_refl _)] at this
    have := vs_len h.1
    omega
  · omega
theorem VsB.nil : VsB [] := fun x h => by simp at h
theorem VsB.one (h : (-100000 ≤ x.From ∧ x.From ≤ 100000) ∧ (-100000 ≤ x.Until ∧ x.Until ≤ 100000)) : VsB [x] := fun y hy => by
  rw [List.mem_singleton.1 hy]; exact h
theorem VsB.app (h : VsB A) (k : VsB B) : VsB (A ++ B) := fun x hx => (List.mem_append.1 hx).elim (h x) (k x)
theorem VsB.drop (h : VsB A) : VsB (A.drop k) := fun x hx => h x (List.mem_of_mem_drop hx)
theorem VsB.at (h : VsB L) (hx : L[k]? = some x) : (-100000 ≤ x.From ∧ x.From ≤ 100000) ∧ (-100000 ≤ x.Until ∧ x.Until ≤ 100000) := h x (List.mem_of_getElem? hx)
theorem has_yes (hx : M[k]? = some v) (h : v = y) : y ∈ M := h ▸ List.mem_of_getElem? hx
theorem has_no (h : y ∉ M.take k) (hk : M.length ≤ k) : y ∉ M := by rwa [List.take_of_length_le hk] at h
theorem has_next (h : y ∉ M.take k) (hx : M[k]? = some v) (hn : ¬ v = y) : y ∉ M.take (k + 1) := by
  rw [List.take_add_one, hx]; simp only [Option.toList_some, List.mem_append, List.mem_singleton, not_or]; exact ⟨h, fun e => hn e.symm⟩
end
end Go.Proofs.YthgbcadgnihdiaaGreatDoor
