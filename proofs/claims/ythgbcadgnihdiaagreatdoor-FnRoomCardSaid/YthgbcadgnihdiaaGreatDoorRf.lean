/- The texts of visits are one. -/
import Derived.Test.YthgbcadgnihdiaaGreatDoorG30d
import Derived.Test.YthgbcadgnihdiaaGreatDoorRe
namespace Go.Proofs.YthgbcadgnihdiaaGreatDoor
open Go Go.RowKit Fw
def VtLaw (v : Visit) : Prop := spec_VisitText v = impl_VisitText v
theorem vt_law (v : Visit) : VtLaw v := by
  unfold VtLaw; first | rfl | (unfold spec_VisitText impl_VisitText; first | rfl | simp)
theorem vt_good {v : Visit} (h : VtLaw v) : decide ((impl_VisitText v).1 = (spec_VisitText v).1 ∧ ((impl_VisitText v).2 == (spec_VisitText v).2) = true) = true := by
  unfold VtLaw at h; rw [h]; simp
section
variable {L : List Visit} {r m s : Int} {n : Nat}
theorem fu_bad1 (hl : FuLaw L m) (h : (VsOK L ∧ 480 ≤ m ∧ m ≤ 1200) ∧ (¬ VsOK L ∨ (if VsOK L then (fullN L 720).2 else 0) < (n : Int))) (hn : n = (satL L m).length) : False := by
  subst hn
  obtain ⟨⟨h1, h2⟩, h3⟩ := h
  rw [if_pos h1] at h3
  have := (hl h1).1 h2
  rcases h3 with h3 | h3
  · exact h3 h1
  · omega
theorem fu_bad2 (hl : FuLaw L m) (hv : VsOK L) (h : ¬ (VsOK L ∧ (480 ≤ if VsOK L then (fullN L 720).1 else 0) ∧ (if VsOK L then (fullN L 720).1 else 0) ≤ 1200) ∨ ¬ (n : Int) = if VsOK L then (fullN L 720).2 else 0) (hn : n = (satL L (if VsOK L then (fullN L 720).1 else 0)).length) : False := by
  subst hn
  have h2 := hl hv
  rw [if_pos hv, if_pos hv] at h
  rcases h with h | h
  · exact h ⟨hv, h2.2.1⟩
  · exact h h2.2.2
theorem ga_bad1 (hl : GaLaw L s) (h0 : (VsOK L ∧ 1 ≤ s ∧ s ≤ 6) ∧ 0 < (gapF L s).2) (h : ¬ (VsOK L ∧ (480 ≤ (gapF L s).1 ∧ (gapF L s).1 ≤ 1200) ∧ (480 ≤ (gapF L s).1 + (gapF L s).2 ∧ (gapF L s).1 + (gapF L s).2 ≤ 1200) ∧ (gapF L s).1 < (gapF L s).1 + (gapF L s).2) ∨ ¬ s ∈ freeF L (gapF L s).1 ((gapF L s).1 + (gapF L s).2)) : False := by
  have h2 := hl h0.1 h0.2
  exact h.elim (fun h => h h2.1) (fun h => h h2.2.1)
theorem ga_bad2 (hl : GaLaw L s) (h0 : (VsOK L ∧ 1 ≤ s ∧ s ≤ 6) ∧ 0 < (gapF L s).2) (h4 : 480 < (gapF L s).1) (h : ¬ (VsOK L ∧ (480 ≤ (gapF L s).1 - 1 ∧ (gapF L s).1 - 1 ≤ 1200) ∧ (480 ≤ (gapF L s).1 + (gapF L s).2 ∧ (gapF L s).1 + (gapF L s).2 ≤ 1200) ∧ (gapF L s).1 - 1 < (gapF L s).1 + (gapF L s).2) ∨ s ∈ freeF L ((gapF L s).1 - 1) ((gapF L s).1 + (gapF L s).2)) : False := by
  have h2 := (hl h0.1 h0.2).2.2 h4
  exact h.elim (fun h => h h2.1) h2.2
theorem cs_bad (hl : CsLaw L r m s) (h0 : (chg L r m s).isSome = true) (h : ¬ (VsOK ((chg L r m s).getD []) ∧ (1 ≤ r ∧ r ≤ 999) ∧ 480 ≤ m ∧ m ≤ 1200) ∨ ¬ (VsOK L ∧ 1 ≤ r ∧ r ≤ 999) ∨ ¬ (VsOK ((chg L r m s).getD []) ∧ 1 ≤ r ∧ r ≤ 999) ∨ ¬ seatO ((chg L r m s).getD []) r m = s ∨
    ¬ (if VsOK L ∧ 1 ≤ r ∧ r ≤ 999 then minsN L r else 0) = if VsOK ((chg L r m s).getD []) ∧ 1 ≤ r ∧ r ≤ 999 then minsN ((chg L r m s).getD []) r else 0) : False := by
  obtain ⟨h1, h2, h3, h4⟩ := hl h0
  have a1 : VsOK L ∧ 1 ≤ r ∧ r ≤ 999 := ⟨h2, h1.2.1⟩
  have a2 : VsOK ((chg L r m s).getD []) ∧ 1 ≤ r ∧ r ≤ 999 := ⟨h1.1, h1.2.1⟩
  rw [if_pos a1, if_pos a2] at h
  rcases h with h | h | h | h | h
  · exact h h1
  · exact h a1
  · exact h a2
  · exact h h3
  · exact h h4
end
end Go.Proofs.YthgbcadgnihdiaaGreatDoor
