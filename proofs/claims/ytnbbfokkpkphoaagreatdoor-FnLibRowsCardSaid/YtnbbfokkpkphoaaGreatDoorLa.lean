/- Plain words on rows. -/
import Derived.Test.YtnbbfokkpkphoaaGreatDoorFn
namespace Go.Proofs.YtnbbfokkpkphoaaGreatDoor
open Go Go.RowKit Fw
@[reducible] def encI (x : Int) : List Value := [.int .i64 x]
@[reducible] def encS (x : List UInt8) : List Value := [str x]
@[ext] structure LibRow where
  Month : Int
  Lent : Int
  Copied : Int
  Given : Int
  Fines : Int
  deriving DecidableEq, Inhabited
@[reducible] def encLibRow (x : LibRow) : List Value := [.int .i64 x.Month, .int .i64 x.Lent, .int .i64 x.Copied, .int .i64 x.Given, .int .i64 x.Fines]
@[reducible] def mkInt (k : Int) : Int := k
@[reducible] def mkLibRow (k : Int) : LibRow := ⟨k, k + 1, k + 2, k + 3, k + 4⟩
def RowOK (r : LibRow) : Prop := (1 ≤ r.Month ∧ r.Month ≤ 1200) ∧ (0 ≤ r.Lent ∧ r.Lent ≤ 9999) ∧ (0 ≤ r.Copied ∧ r.Copied ≤ 9999) ∧ (0 ≤ r.Given ∧ r.Given ≤ 999) ∧ (0 ≤ r.Fines ∧ r.Fines ≤ 99999)
instance (r : LibRow) : Decidable (RowOK r) := by unfold RowOK; infer_instance
def RowStep (L : List LibRow) (j : Nat) (x : LibRow) : Prop := RowOK x ∧ ∀ y, 0 < j → L[j - 1]? = some y → y.Month < x.Month
def RowsTo (L : List LibRow) (k : Nat) : Prop := ∀ j x, j < k → L[j]? = some x → RowStep L j x
def RowsOK (L : List LibRow) : Prop := (∀ j x, L[j]? = some x → RowStep L j x) ∧ L.length ≤ 12
noncomputable instance (L : List LibRow) : Decidable (RowsOK L) := Classical.propDecidable _
theorem RowsTo.zero (L : List LibRow) : RowsTo L 0 := fun _ _ h => absurd h (by omega)
theorem rows_bad {L : List LibRow} {k : Nat} {x : LibRow} (hx : L[k]? = some x) (h : ¬ RowStep L k x) : ¬ RowsOK L := fun hr => h (hr.1 _ _ hx)
theorem rows_next {L : List LibRow} {k : Nat} {x : LibRow} (ht : RowsTo L k) (hx : L[k]? = some x) (h : RowStep L k x) : RowsTo L (k + 1) := by
  intro j y hj hy
  rcases Nat.lt_or_ge j k with h1 | h1
  · exact ht j y h1 hy
  · obtain rfl : j = k := by omega
    rw [hx] at hy; injection hy with hy; subst hy; exact h
theorem rows_end {L : List LibRow} {k n : Nat} (ht : RowsTo L k) (hn : n = L.length) (h : ¬ (k : Int) < (n : Int)) : (n : Int) ≤ 12 ↔ RowsOK L :=
  ⟨fun h' => ⟨fun j x hx => ht j x (by have := (List.getElem?_eq_some_iff.1 hx).1; omega) hx, by omega⟩, fun h => by have := h.2; omega⟩
theorem rows_rng {L : List LibRow} {k : Nat} {x : LibRow} (h : RowsOK L) (hx : L[k]? = some x) : ((1 : Int) ≤ x.Month ∧ x.Month ≤ 1200) ∧ ((0 : Int) ≤ x.Lent ∧ x.Lent ≤ 9999) ∧ ((0 : Int) ≤ x.Copied ∧ x.Copied ≤ 9999) ∧ ((0 : Int) ≤ x.Given ∧ x.Given ≤ 999) ∧ ((0 : Int) ≤ x.Fines ∧ x.Fines ≤ 99999) := by
  have := (h.1 k x hx).1
  unfold RowOK at this
  exact this
theorem rows_len {L : List LibRow} (h : RowsOK L) : L.length ≤ 12 := h.2
noncomputable def missM (L : List LibRow) : Int := if RowsOK L then match L[L.length - 1]?, L[0]? with
  | some x, some y => x.Month - y.Month + 1 - L.length
  | _, _ => 0 else 0
/-- Lent falls at row k. -/
def fall (L : List LibRow) (k : Nat) : Prop := 0 < k ∧ ∃ x y, L[k]? = some x ∧ L[k - 1]? = some y ∧ x.Lent < y.Lent
noncomputable instance (L : List LibRow) (k : Nat) : Decidable (fall L k) := Classical.propDecidable _
noncomputable def best (L : List LibRow) : Nat → Nat × Nat × Nat
  | 0 => (0, 0, 0)
  | k + 1 => let s := if fall L k then k else (best L k).2.2
    if ((best L k).2.1 : Int) - (best L k).1 < (k : Int) - s then (s, k, s) else ((best L k).1, (best L k).2.1, s)
noncomputable def bestF (L : List LibRow) : Int := if RowsOK L then ((L[(best L L.length).1]?).map LibRow.Month).getD 0 else 0
noncomputable def bestL (L : List LibRow) : Int := if RowsOK L then ((L[(best L L.length).2.1]?).map LibRow.Month).getD 0 else 0
section
variable {L : List LibRow} {k a b c : Nat} {x y : LibRow}
theorem nofall0 (h : ¬ 0 < (k : Int)) : ¬ fall L k := fun hf => h (by have := hf.1; omega)
theorem nofall1 (hx : L[k]? = some x) (hy : L[k - 1]? = some y) (h : ¬ x.Lent < y.Lent) : ¬ fall L k := by
  rintro ⟨_, x', y', h1, h2, h3⟩
  rw [hx] at h1; rw [hy] at h2
  simp only [Option.some.injEq] at h1 h2
  subst h1 h2; exact h h3
theorem isfall (hk : 0 < (k : Int)) (hx : L[k]? = some x) (hy : L[k - 1]? = some y) (h : x.Lent < y.Lent) : fall L k := ⟨by omega, x, y, hx, hy, h⟩
theorem best_fall (hb : best L k = (a, b, c)) (hk : 0 < (k : Int)) (hx : L[k]? = some x) (hy : L[k - 1]? = some y) (h : x.Lent < y.Lent) (hg : (b : Int) - a < (k : Int) - k) : best L (k + 1) = (k, k, k) := by
  simp [best, hb, isfall hk hx hy h]; omega
theorem best_fallN (hb : best L k = (a, b, c)) (hk : 0 < (k : Int)) (hx : L[k]? = some x) (hy : L[k - 1]? = some y) (h : x.Lent < y.Lent) (hg : ¬ (b : Int) - a < (k : Int) - k) : best L (k + 1) = (a, b, k) := by
  simp [best, hb, isfall hk hx hy h]; omega
theorem best_go (hb : best L k = (a, b, c)) (h : ¬ fall L k) (hg : (b : Int) - a < (k : Int) - c) : best L (k + 1) = (c, k, c) := by
  simp [best, hb, h, hg]
theorem best_stay (hb : best L k = (a, b, c)) (h : ¬ fall L k) (hg : ¬ (b : Int) - a < (k : Int) - c) : best L (k + 1) = (a, b, c) := by
  simp [best, hb, h, hg]
theorem best_resF (hr : RowsOK L) (hb : best L k = (a, b, c)) (hk : ¬ (k : Int) < (L.length : Int)) (hle : k ≤ L.length) (hx : L[a]? = some x) (_ : True) : x.Month = bestF L := by
  obtain rfl : k = L.length := by omega
  simp [bestF, hr, hb, hx]
theorem best_resL (hr : RowsOK L) (hb : best L k = (a, b, c)) (hk : ¬ (k : Int) < (L.length : Int)) (hle : k ≤ L.length) (hx : L[b]? = some x) (_ : True) : x.Month = bestL L := by
  obtain rfl : k = L.length := by omega
  simp [bestL, hr, hb, hx]
end
/-- The sums of lent, copied, given and fines. -/
def totN : List LibRow → List Int
  | L => [(L.map LibRow.Lent).sum, (L.map LibRow.Copied).sum, (L.map LibRow.Given).sum, (L.map LibRow.Fines).sum]
noncomputable def totL (L : List LibRow) : List Int := if RowsOK L then totN L else []
theorem totL_len (L : List LibRow) : (totL L).length ≤ 4 := by unfold totL; split <;> simp [totN]
section
variable {L : List LibRow} {k j : Nat} {x : LibRow} {a b c d y z : Int} {T V : List Int}
theorem tot_next (h : totN (L.take k) = [a, b, c, d]) (hx : L[k]? = some x) : totN (L.take (k + 1)) = [a + x.Lent, b + x.Copied, c + x.Given, d + x.Fines] := by
  rw [take_snoc hx]
  simp only [totN, List.cons.injEq, and_true] at h
  obtain ⟨rfl, rfl, rfl, rfl⟩ := h
  simp [totN]
/-- The first j elements added up. -/
def addF (T V : List Int) (j : Nat) : List Int := List.zipWith (· + ·) (T.take j) (V.take j) ++ T.drop j
theorem addF_get (hj : j ≤ T.length) (hv : j ≤ V.length) (h : (addF T V j)[j]? = some y) : T[j]? = some y := by
  unfold addF at h
  have hl : (List.zipWith (· + ·) (T.take j) (V.take j)).length = j := by simp; omega
  rw [List.getElem?_append_right (by omega), hl, Nat.sub_self, List.getElem?_drop] at h
  simpa using h
theorem four_at {a b c d : Int} (h : [a, b, c, d][j]? = some y) : y = a ∨ y = b ∨ y = c ∨ y = d := by
  match j, h with
  | 0, h => simp at h; omega
  | 1, h => simp at h; omega
  | 2, h => simp at h; omega
  | 3, h => simp at h; omega
  | j + 4, h => simp at h
theorem addF_at {p q r s : Int} (h : (addF [a, b, c, d] [p, q, r, s] j)[j]? = some y) : y = a ∨ y = b ∨ y = c ∨ y = d := by
  rcases Nat.lt_or_ge j 5 with hj | hj
  · rcases Nat.lt_or_ge j 4 with h4 | h4
    · exact four_at (addF_get (by simp; omega) (by simp; omega) h)
    · obtain rfl : j = 4 := by omega
      simp [addF] at h
  · have := (List.getElem?_eq_some_iff.1 h).1
    simp [addF] at this; omega
theorem addF_set {p q r s : Int} (hj : j < 4) (h : (addF [a, b, c, d] [p, q, r, s] j)[j]? = some y) (hz : [p, q, r, s][j]? = some z) : (addF [a, b, c, d] [p, q, r, s] j).set j (y + z) = addF [a, b, c, d] [p, q, r, s] (j + 1) := by
  match j, hj with
  | 0, _ => simp [addF] at h hz ⊢; omega
  | 1, _ => simp [addF] at h hz ⊢; omega
  | 2, _ => simp [addF] at h hz ⊢; omega
  | 3, _ => simp [addF] at h hz ⊢; omega
end
end Go.Proofs.YtnbbfokkpkphoaaGreatDoor
