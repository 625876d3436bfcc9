/- Plain words on rows: growth, merging, the median. -/
import Derived.Test.YtmigipacjadpeaaLa
import Derived.Lib.MinMax
namespace Go.Proofs.Ytmigipacjadpeaa.Fw
section
variable {P : Program} {n : Nat} {f : Env} {w : World} {d : Option Tmp} {t : TypeId} {p : String} {af : Array Edge} {g : Option (Nat × Bool)} {x y : Operand} {a b : Int} {ts : Array TypeId}
theorem r_max (hx : ev n f x = .int .i64 a) (hy : ev n f y = .int .i64 b) : Run P ⟨d, .call ⟨.builtin .max, #[x, y], ts⟩, t, p, af, g⟩ n f w (.int .i64 (max a b)) := by
  simp [Run, execOp, resolve, invoke, builtin, hx, hy, Go.Lib.run_max_ints]
theorem r_min (hx : ev n f x = .int .i64 a) (hy : ev n f y = .int .i64 b) : Run P ⟨d, .call ⟨.builtin .min, #[x, y], ts⟩, t, p, af, g⟩ n f w (.int .i64 (min a b)) := by
  simp [Run, execOp, resolve, invoke, builtin, hx, hy, Go.Lib.run_min_ints]
end
end Go.Proofs.Ytmigipacjadpeaa.Fw
namespace Go.Proofs.Ytmigipacjadpeaa
open Go Go.RowKit Fw
theorem gcd_emod {x y : Int} : Int.gcd y (x % y) = Int.gcd y x := by
  apply Nat.dvd_antisymm
  · refine Int.dvd_gcd (Int.gcd_dvd_left ..) ?_
    have h1 : ((y.gcd (x % y) : Nat) : Int) ∣ y := Int.gcd_dvd_left ..
    have h2 : ((y.gcd (x % y) : Nat) : Int) ∣ x % y := Int.gcd_dvd_right ..
    have := Int.dvd_add h2 (Int.dvd_trans h1 (Int.dvd_mul_right y (x / y)))
    rwa [Int.emod_add_mul_ediv] at this
  · refine Int.dvd_gcd (Int.gcd_dvd_left ..) ?_
    have h1 : ((y.gcd x : Nat) : Int) ∣ y := Int.gcd_dvd_left ..
    have h2 : ((y.gcd x : Nat) : Int) ∣ x := Int.gcd_dvd_right ..
    exact (Int.dvd_iff_emod_eq_zero ..).2 (by rw [Int.emod_emod_of_dvd _ h1]; exact Int.emod_eq_zero_of_dvd h2)
theorem gcd_step {x y a b : Int} (h : Int.gcd x y = Int.gcd a b) : Int.gcd y (x % y) = Int.gcd a b := by
  rw [← h, Int.gcd_comm x y]; exact gcd_emod
theorem gcd_pos {a b : Int} (h : 0 < b) : 1 ≤ (Int.gcd a b : Int) := by
  have := Int.gcd_pos_of_ne_zero_right a (show b ≠ 0 by omega)
  omega
theorem gcd_le {a b : Int} (h : 0 < b) : (Int.gcd a b : Int) ≤ b := by
  have h1 : (Int.gcd a b : Int) ∣ b := Int.gcd_dvd_right ..
  exact Int.le_of_dvd h h1
theorem gcd_abs {a b : Int} : Int.gcd (max a (-a)) b = Int.gcd a b := by
  rcases Int.le_total 0 a with h | h
  · rw [show max a (-a) = a by omega]
  · rw [show max a (-a) = -a by omega, Int.neg_gcd]
theorem abs_tdiv {a g : Int} (h : a < 0) : -((max a (-a)).tdiv g) = a.tdiv g := by
  rw [show max a (-a) = -a by omega, Int.neg_tdiv, Int.neg_neg]
theorem tdiv_rng {a g : Int} (h : 1 ≤ g) : -(max a (-a)) ≤ a.tdiv g ∧ a.tdiv g ≤ max a (-a) := by
  have h1 := Int.natAbs_tdiv_le_natAbs a g
  omega
theorem rows_month {L : List LibRow} (hr : RowsOK L) : ∀ {i j : Nat} {x y : LibRow}, i < j → L[i]? = some x → L[j]? = some y → x.Month < y.Month := by
  intro i j
  induction j with
  | zero => intro x y h; omega
  | succ j ih =>
    intro x y h hx hy
    obtain ⟨z, hz⟩ : ∃ z, L[j]? = some z := ⟨L[j]'(by have := (List.getElem?_eq_some_iff.1 hy).1; omega), List.getElem?_eq_getElem _⟩
    have h1 := (hr.1 _ _ hy).2 z (by omega) (by simpa using hz)
    rcases Nat.lt_or_ge i j with h2 | h2
    · have := ih h2 hx hz; omega
    · obtain rfl : i = j := by omega
      rw [hx] at hz; injection hz with hz; subst hz; exact h1
theorem rows_month' {L : List LibRow} (hr : RowsOK L) {n : Nat} {x y : LibRow} (hx : L[0]? = some x) (hy : L[n - 1]? = some y) : 2 ≤ n → x.Month < y.Month := fun h => rows_month hr (by omega) hx hy
/-- The growth of lent over the months, cancelled. -/
noncomputable def groN (L : List LibRow) : Int := if RowsOK L ∧ 2 ≤ L.length then match L[0]?, L[L.length - 1]? with
  | some x, some y => (y.Lent - x.Lent).tdiv (Int.gcd (y.Lent - x.Lent) (y.Month - x.Month))
  | _, _ => 0 else 0
noncomputable def groD (L : List LibRow) : Int := if RowsOK L ∧ 2 ≤ L.length then match L[0]?, L[L.length - 1]? with
  | some x, some y => (y.Month - x.Month).tdiv (Int.gcd (y.Lent - x.Lent) (y.Month - x.Month))
  | _, _ => 0 else 0
section
variable {L : List LibRow} {x y : LibRow}
theorem groN_of (hr : RowsOK L) (hl : 2 ≤ L.length) (hx : L[0]? = some x) (hy : L[L.length - 1]? = some y) : groN L = (y.Lent - x.Lent).tdiv (Int.gcd (y.Lent - x.Lent) (y.Month - x.Month)) := by
  unfold groN; rw [if_pos ⟨hr, hl⟩, hx, hy]
theorem groD_of (hr : RowsOK L) (hl : 2 ≤ L.length) (hx : L[0]? = some x) (hy : L[L.length - 1]? = some y) : groD L = (y.Month - x.Month).tdiv (Int.gcd (y.Lent - x.Lent) (y.Month - x.Month)) := by
  unfold groD; rw [if_pos ⟨hr, hl⟩, hx, hy]
end
end Go.Proofs.Ytmigipacjadpeaa
