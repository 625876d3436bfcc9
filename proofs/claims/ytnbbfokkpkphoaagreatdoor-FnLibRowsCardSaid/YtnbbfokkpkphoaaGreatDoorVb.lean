/- Plain words on the lines of rows. -/
import Derived.Test.YtnbbfokkpkphoaaGreatDoorLa
import Derived.Test.YtnbbfokkpkphoaaGreatDoorWa
namespace Go.Proofs.YtnbbfokkpkphoaaGreatDoor
open Go Go.RowKit Fw
theorem row_rng {r : LibRow} (h : RowOK r) : (1 ≤ r.Month ∧ r.Month ≤ 1200) ∧ (0 ≤ r.Lent ∧ r.Lent ≤ 9999) ∧ (0 ≤ r.Copied ∧ r.Copied ≤ 9999) ∧ (0 ≤ r.Given ∧ r.Given ≤ 999) ∧ (0 ≤ r.Fines ∧ r.Fines ≤ 99999) := h
theorem rows_row {L : List LibRow} {k : Nat} {x : LibRow} (h : RowsOK L) (hx : L[k]? = some x) : RowOK x := (h.1 k x hx).1
/-- The line of a row. -/
def lineT (r : LibRow) : List UInt8 :=
  [109, 111, 110, 116, 104, 32] ++ Lib.itoa r.Month ++ [58, 32] ++ Lib.itoa r.Lent ++ [32, 108, 101, 110, 116, 44, 32] ++ Lib.itoa r.Copied ++ [32, 99, 111, 112, 105, 101, 100]
    ++ (if r.Given = 0 then [] else [44, 32] ++ Lib.itoa r.Given ++ [32, 103, 105, 118, 101, 110]) ++ (if r.Fines = 0 then [] else [44, 32, 102, 105, 110, 101, 115, 32] ++ Lib.itoa (r.Fines / 100) ++ [46] ++ twoD (r.Fines % 100))
theorem line_len {r : LibRow} (h : RowOK r) : (lineT r).length ≤ 300 := by
  have hr := row_rng h
  have h1 := itoa_len (n := r.Month) (by omega) (by omega)
  have h2 := itoa_len (n := r.Lent) (by omega) (by omega)
  have h3 := itoa_len (n := r.Copied) (by omega) (by omega)
  have h4 := itoa_len (n := r.Given) (by omega) (by omega)
  have h5 := itoa_len (n := r.Fines / 100) (by omega) (by omega)
  have h6 := two_len (n := r.Fines % 100) (by omega)
  unfold lineT
  split <;> split <;> simp only [List.length_append, List.length_cons, List.length_nil] <;> omega
/-- The first 'k' lines. -/
def repT (L : List LibRow) : Nat → List UInt8
  | 0 => []
  | k + 1 => repT L k ++ (lineT (gt L k) ++ [10])
theorem rep_len {L : List LibRow} (h : RowsOK L) : ∀ k, k ≤ L.length → (repT L k).length ≤ 301 * k
  | 0, _ => by simp [repT]
  | k + 1, hk => by
    have h1 := rep_len h k (by omega)
    have hg : L[k]? = some (gt L k) := by simp [gt, List.getD, List.getElem?_eq_getElem (show k < L.length by omega)]
    have h2 := line_len (rows_row h hg)
    simp only [repT, List.length_append, List.length_cons, List.length_nil]; omega
theorem totN_len (L : List LibRow) : (totN L).length = 4 := by simp [totN]
theorem totL_len4 (L : List LibRow) (h : RowsOK L) : (totL L).length = 4 := by unfold totL; rw [if_pos h]; exact totN_len L
def lentS (L : List LibRow) : Int := (L.map LibRow.Lent).sum
theorem tot_zero {L : List LibRow} {x : Int} (h : (totN L)[0]? = some x) : x = lentS L := by
  unfold totN lentS at *; simp at h; exact h.symm
theorem totL_zero {L : List LibRow} {x : Int} (hr : RowsOK L) (h : (totL L)[0]? = some x) : x = lentS L := by
  unfold totL at h; rw [if_pos hr] at h; exact tot_zero h
theorem lent_rng : ∀ {L : List LibRow}, (∀ x ∈ L, 0 ≤ x.Lent ∧ x.Lent ≤ 9999) → 0 ≤ lentS L ∧ lentS L ≤ 9999 * (L.length : Int)
  | [], _ => by simp [lentS]
  | x :: t, h => by
    have h1 := lent_rng (L := t) (fun y hy => h y (by simp [hy]))
    have h2 := h x (by simp)
    unfold lentS at *
    simp only [List.map_cons, List.sum_cons, List.length_cons]; omega
theorem lent_ok {L : List LibRow} (h : RowsOK L) : 0 ≤ lentS L ∧ lentS L ≤ 1000000 := by
  have h1 := lent_rng (L := L) (fun x hx => by
    obtain ⟨k, hk⟩ := List.mem_iff_getElem?.1 hx
    exact (row_rng (rows_row h hk)).2.1)
  have := h.2; omega
noncomputable def reportF (L : List LibRow) : List UInt8 := if RowsOK L then repT L L.length ++ [108, 101, 110, 116, 32] ++ Lib.itoa (lentS L) else []
end Go.Proofs.YtnbbfokkpkphoaaGreatDoor
