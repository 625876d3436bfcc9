/- Plain words on the texts of visits. -/
import Derived.Test.YthgbcadgnihdiaaGreatDoorRa
import Derived.Test.YthgbcadgnihdiaaGreatDoorWa
namespace Go.Proofs.YthgbcadgnihdiaaGreatDoor
open Go Go.RowKit Fw
theorem vok_rng {v : Visit} (h : VOK v) : (1 ≤ v.Reader ∧ v.Reader ≤ 999) ∧ (1 ≤ v.Seat ∧ v.Seat ≤ 6) ∧ (480 ≤ v.From ∧ v.From ≤ 1200) ∧ (480 ≤ v.Until ∧ v.Until ≤ 1200) := ⟨h.1, h.2.1, h.2.2.1, h.2.2.2.1⟩
/-- A minute as hours and minutes. -/
def clockT (m : Int) : List UInt8 := Lib.itoa (m / 60) ++ ([58] : List UInt8) ++ twoD (m % 60)
theorem clock_eq (m : Int) : Lib.itoa (m / 60) ++ ([58] : List UInt8) ++ twoD (m % 60) = clockT m := rfl
theorem clock_lt {m : Int} (h0 : 0 ≤ m) (h : m % 60 < 10) : Lib.itoa (m / 60) ++ ([58] : List UInt8) ++ ([48] : List UInt8) ++ Lib.itoa (m % 60) = clockT m := by
  unfold clockT; rw [two_lt (by omega) h]; simp
theorem clock_ge {m : Int} (h0 : 0 ≤ m) (h : ¬ m % 60 < 10) : Lib.itoa (m / 60) ++ ([58] : List UInt8) ++ Lib.itoa (m % 60) = clockT m := by
  unfold clockT; rw [two_ge (by omega)]
theorem clock_len {m : Int} (h : 0 ≤ m ∧ m ≤ 100000) : (clockT m).length ≤ 100 := by
  have h1 := itoa_len (n := m / 60) (by omega) (by omega)
  have h2 := two_len (n := m % 60) (by omega)
  unfold clockT; simp only [List.length_append, List.length_cons, List.length_nil]; omega
end Go.Proofs.YthgbcadgnihdiaaGreatDoor
