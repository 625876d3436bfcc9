/- A new console. -/
import Derived.Test.YtocpdkhahmbaiaaG32m
import Derived.Test.YtocpdkhahmbaiaaYl
namespace Go.Proofs.Ytocpdkhahmbaiaa
open Go Go.RowKit Fw
def newL (n : Int) : Library := ⟨[⟨1, n, 0⟩], [], n, 0, 0⟩
def noCon : Console := ⟨⟨[], [], 0, 0, 0⟩, ⟨[], [], 0⟩⟩
def newC (n : Int) : Console × Bool := if 1 ≤ n ∧ n ≤ 50 then (⟨newL n, ⟨[], [], 0⟩⟩, true) else (noCon, false)
section
variable {n : Int}
theorem newC_yes (h : 1 ≤ n ∧ n ≤ 50) : newC n = (⟨newL n, ⟨[], [], 0⟩⟩, true) := if_pos h
theorem newC_no (h : ¬ (1 ≤ n ∧ n ≤ 50)) : newC n = (noCon, false) := if_neg h
theorem nil_ok : LibOK ⟨[], [], 0, 0, 0⟩ := ⟨⟨fun j hj => absurd hj (by simp), by simp⟩, ⟨fun j hj => absurd hj (by simp), by simp⟩, by simp, by simp, by simp, by simp [sumC]⟩
theorem new_ok (h : 1 ≤ n ∧ n ≤ 50) : LibOK (newL n) := by
  refine ⟨⟨fun j hj => ?_, by simp [newL]⟩, ⟨fun j hj => absurd hj (by simp [newL]), by simp [newL]⟩, ?_, by simp [newL], by simp [newL], by simp [newL, sumC]⟩
  · obtain rfl : j = 0 := by simp [newL] at hj; omega
    unfold MBad
    show ¬ ((¬ ((1 : Int) ≤ 1 ∧ (1 : Int) ≤ 99)) ∨ ((¬ (0 ≤ n ∧ n ≤ 99)) ∨ ((¬ ((0 : Int) ≤ 0 ∧ 0 ≤ n)) ∨ ((0 < ((0 : Nat) : Int)) ∧ _))))
    omega
  · show 0 ≤ n ∧ n ≤ 9999; omega
theorem new_step (h : 1 ≤ n ∧ n ≤ 50) : spec_StepLibrary ⟨[], [], 0, 0, 0⟩ ⟨1, 1, 0, n⟩ = (newL n, true) := by
  have e : boughtN ⟨[], [], 0, 0, 0⟩ 1 n = newL n := by
    unfold boughtN newL
    rw [if_neg (by simp [idxF])]
    simp [insAt, bdM]
  have hs : spec_l32Step ⟨[], [], 0, 0, 0⟩ ⟨1, 1, 0, n⟩ = true := by unfold spec_l32Step; simp; omega
  have hm : spec_l32Make ⟨[], [], 0, 0, 0⟩ ⟨1, 1, 0, n⟩ = (newL n, true) := by
    unfold spec_l32Make
    rw [if_pos rfl, e, decide_eq_true (new_ok h)]
  unfold spec_StepLibrary
  rw [if_neg (by rintro (q | q); exact q nil_ok; rw [hs] at q; cases q), hm, if_neg (by simp)]
theorem new_stepN (h : ¬ (1 ≤ n ∧ n ≤ 50)) : (spec_StepLibrary ⟨[], [], 0, 0, 0⟩ ⟨1, 1, 0, n⟩).2 = false := by
  have hs : spec_l32Step ⟨[], [], 0, 0, 0⟩ ⟨1, 1, 0, n⟩ = false := by
    unfold spec_l32Step; rw [if_pos rfl, decide_eq_false_iff_not]
    intro q; exact h q.2.2
  unfold spec_StepLibrary
  rw [if_pos (.inr (by rw [hs]; rfl))]
theorem newS_ok (h : (!(spec_StepLibrary ⟨[], [], 0, 0, 0⟩ ⟨1, 1, 0, n⟩).2) = false) : newC n = (⟨(spec_StepLibrary ⟨[], [], 0, 0, 0⟩ ⟨1, 1, 0, n⟩).1, ⟨[], [], 0⟩⟩, true) := by
  by_cases hn : 1 ≤ n ∧ n ≤ 50
  · rw [newC_yes hn, new_step hn]
  · rw [new_stepN hn] at h; cases h
theorem newS_no (h : (!(spec_StepLibrary ⟨[], [], 0, 0, 0⟩ ⟨1, 1, 0, n⟩).2) = true) : newC n = (noCon, false) := by
  by_cases hn : 1 ≤ n ∧ n ≤ 50
  · rw [new_step hn] at h; cases h
  · exact newC_no hn
theorem new_lenM (n : Int) : (newC n).1.Library.Maps.length ≤ 8 := by unfold newC; split <;> simp [newL, noCon]
theorem new_lenA (n : Int) : (newC n).1.Library.Away.length ≤ 8 := by unfold newC; split <;> simp [newL, noCon]
theorem make_okN {x : Library} {s : LibraryStep} (h1 : (spec_l32Make x s).2 = true) : LibOK (spec_l32Make x s).1 := by
  unfold spec_l32Make at *
  repeat' split at h1
  all_goals first | exact (of_decide_eq_true h1) | (simp only [*, if_true, if_false]; exact (of_decide_eq_true h1)) | (simp only [*, if_true, if_false]; exact (of_decide_eq_true h1).2) | simp_all
theorem step_lenN (x : Library) (s : LibraryStep) : (spec_StepLibrary x s).1.Maps.length ≤ 8 ∧ (spec_StepLibrary x s).1.Away.length ≤ 8 := by
  unfold spec_StepLibrary; split
  · simp
  · split
    · simp
    · rename_i h
      have := lib_rng (make_okN (x := x) (s := s) (by simpa using h)); exact ⟨this.1, this.2.1⟩
theorem step_lenMS (x : Library) (s : LibraryStep) : (((spec_StepLibrary x s).1).Maps).length ≤ 8 := (step_lenN x s).1
theorem step_lenAS (x : Library) (s : LibraryStep) : (((spec_StepLibrary x s).1).Away).length ≤ 8 := (step_lenN x s).2
end
end Go.Proofs.Ytocpdkhahmbaiaa
