/- Plain words on rows. -/
import Derived.Test.YtkbmbbdhojfnpaaFn
namespace Go.Proofs.Ytkbmbbdhojfnpaa
open Go Go.RowKit Fw
@[reducible] def encI (x : Int) : List Value := [.int .i64 x]
@[reducible] def encS (x : List UInt8) : List Value := [str x]
@[ext] structure LibRow where
  Month : Int
  Lent : Int
  Copied : Int
  Given : Int
  Fines : Int
  deriving DecidableEq
@[reducible] def encLibRow (x : LibRow) : List Value := [.int .i64 x.Month, .int .i64 x.Lent, .int .i64 x.Copied, .int .i64 x.Given, .int .i64 x.Fines]
@[reducible] def mkLibRow (k : Int) : LibRow := ⟨k, k + 1, k + 2, k + 3, k + 4⟩
def RowOK (r : LibRow) : Prop := (1 ≤ r.Month ∧ r.Month ≤ 1200) ∧ (0 ≤ r.Lent ∧ r.Lent ≤ 9999) ∧ (0 ≤ r.Copied ∧ r.Copied ≤ 9999) ∧ (0 ≤ r.Given ∧ r.Given ≤ 999) ∧ (0 ≤ r.Fines ∧ r.Fines ≤ 99999)
instance (r : LibRow) : Decidable (RowOK r) := by unfold RowOK; infer_instance
def RowStep (L : List LibRow) (j : Nat) (x : LibRow) : Prop := RowOK x ∧ ∀ y, 0 < j → L[j - 1]? = some y → y.Month < x.Month
def RowsTo (L : List LibRow) (k : Nat) : Prop := ∀ j x, j < k → L[j]? = some x → RowStep L j x
def RowsOK (L : List LibRow) : Prop := (∀ j x, L[j]? = some x → RowStep L j x) ∧ L.length ≤ 12
noncomputable instance (L : List LibRow) : Decidable (RowsOK L) := Classical.propDecidable _
theorem RowsTo.zero (L : List LibRow) : RowsTo L 0 := fun _ _ h => absurd h (by omega)
theorem rows_bad {L : List LibRow} {k : Nat} {x : LibRow} (hx : L[k]? = some x) (h : ¬ RowStep L k x) : ¬ RowsOK L := fun hr => h (hr.1 _ _ hx)
theorem rows_next {L : List LibRow} {k : Nat} {x : LibRow} (ht : RowsTo L k) (hx : L[k]? = some x) (h : RowStep L k x) : RowsTo L (k + 1) := by
  intro j y hj hy
  rcases Nat.lt_or_ge j k with h1 | h1
  · exact ht j y h1 hy
  · obtain rfl : j = k := by omega
    rw [hx] at hy; injection hy with hy; subst hy; exact h
theorem rows_end {L : List LibRow} {k n : Nat} (ht : RowsTo L k) (hn : n = L.length) (h : ¬ (k : Int) < (n : Int)) : (n : Int) ≤ 12 ↔ RowsOK L :=
  ⟨fun h' => ⟨fun j x hx => ht j x (by have := (List.getElem?_eq_some_iff.1 hx).1; omega) hx, by omega⟩, fun h => by have := h.2; omega⟩
end Go.Proofs.Ytkbmbbdhojfnpaa
