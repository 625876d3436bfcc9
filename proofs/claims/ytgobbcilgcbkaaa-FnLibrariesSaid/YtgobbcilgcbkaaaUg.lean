/- Runs of a library. -/
import Derived.Test.YtgobbcilgcbkaaaUf
namespace Go.Proofs.Ytgobbcilgcbkaaa
open Go Go.RowKit Fw
section
variable {x o : Library} {S : List LibraryStep} {k n : Nat} {m : Int} {s : LibraryStep}
theorem stepped_okL (h : (impl_Library_stepped x s).2 = true) : LibOK (impl_Library_stepped x s).1 := by
  unfold impl_Library_stepped at *
  repeat' split at h
  all_goals simp_all
theorem make_okL (h : (spec_l32Make x s).2 = true) : LibOK (spec_l32Make x s).1 := by
  unfold spec_l32Make at *
  repeat' split at h
  all_goals first | exact (of_decide_eq_true h) | (simp only [*, if_true, if_false]; exact (of_decide_eq_true h)) | (simp only [*, if_true, if_false]; exact (of_decide_eq_true h).2) | simp_all
theorem stepped_nil (h : ¬ (impl_Library_stepped x s).2 = true) : (impl_Library_stepped x s).1 = noLib := by
  unfold impl_Library_stepped noLib at *
  repeat' split at h
  all_goals simp_all
theorem stepped_lenL (x : Library) (s : LibraryStep) : (impl_Library_stepped x s).1.Maps.length ≤ 8 ∧ (impl_Library_stepped x s).1.Away.length ≤ 8 := by
  by_cases h : (impl_Library_stepped x s).2 = true
  · have := lib_rng (stepped_okL h); exact ⟨this.1, this.2.1⟩
  · rw [stepped_nil h]; simp [noLib]
theorem step_lenM (x : Library) (s : LibraryStep) : (impl_StepLibrary x s).1.Maps.length ≤ 8 := by
  unfold impl_StepLibrary; split
  · exact (stepped_lenL x s).1
  · simp
theorem step_lenA (x : Library) (s : LibraryStep) : (impl_StepLibrary x s).1.Away.length ≤ 8 := by
  unfold impl_StepLibrary; split
  · exact (stepped_lenL x s).2
  · simp
theorem step_lenS (x : Library) (s : LibraryStep) : (spec_StepLibrary x s).1.Maps.length ≤ 8 ∧ (spec_StepLibrary x s).1.Away.length ≤ 8 := by
  unfold spec_StepLibrary; split
  · simp
  · split
    · simp
    · rename_i h
      have := lib_rng (make_okL (x := x) (s := s) (by simpa using h)); exact ⟨this.1, this.2.1⟩
theorem step_lenMS (x : Library) (s : LibraryStep) : (spec_StepLibrary x s).1.Maps.length ≤ 8 := (step_lenS x s).1
theorem step_lenAS (x : Library) (s : LibraryStep) : (spec_StepLibrary x s).1.Away.length ≤ 8 := (step_lenS x s).2
/-- A run of a library, and how many steps it made. -/
noncomputable def runL (s : Library × Int) (t : LibraryStep) : Library × Int := if (impl_Library_stepped s.1 t).2 = true then ((impl_Library_stepped s.1 t).1, s.2 + 1) else s
noncomputable def runToL (x : Library) (S : List LibraryStep) (k : Nat) : Library × Int := (S.take k).foldl runL (x, 0)
theorem runL_next (hs : S[k]? = some s) : runToL x S (k + 1) = runL (runToL x S k) s := by
  unfold runToL; rw [List.take_add_one, hs]; simp
theorem runL_yes (h : runToL x S k = (o, m)) (hs : S[k]? = some s) (hy : (impl_Library_stepped o s).2 = true) : runToL x S (k + 1) = ((impl_Library_stepped o s).1, m + 1) ∧ LibOK (impl_Library_stepped o s).1 := by
  rw [runL_next hs, h]
  exact ⟨if_pos hy, stepped_okL hy⟩
theorem runL_no (h : runToL x S k = (o, m)) (hs : S[k]? = some s) (hy : (impl_Library_stepped o s).2 = false) : runToL x S (k + 1) = (o, m) := by
  rw [runL_next hs, h]
  exact if_neg (by rw [hy]; simp)
def StepsIn (S : List LibraryStep) : Prop := ∀ (k : Nat) (s : LibraryStep), S[k]? = some s → s.Value ≤ 9223372036854775807
theorem runL_yesS (hv : StepsIn S) (h : runToL x S k = (o, m)) (ho : LibOK o) (hs : S[k]? = some s) (h1 : spec_l32Step o s = true) (hy : (spec_l32Make o s).2 = true) : runToL x S (k + 1) = ((spec_l32Make o s).1, m + 1) ∧ LibOK (spec_l32Make o s).1 := by
  have e := stepped_yesL ho h1 (hv k s hs)
  rw [if_pos hy] at e
  have := runL_yes h hs (by rw [e])
  rwa [e] at this
theorem runL_noS1 (h : runToL x S k = (o, m)) (ho : LibOK o) (hs : S[k]? = some s) (h1 : ¬ spec_l32Step o s = true) : runToL x S (k + 1) = (o, m) :=
  runL_no h hs (by rw [stepped_noL ho h1])
theorem runL_noS3 (h : runToL x S k = (o, m)) (ho : LibOK o) (hs : S[k]? = some s) (h1 : (!(spec_l32Step o s)) = true) : runToL x S (k + 1) = (o, m) :=
  runL_noS1 h ho hs (by rw [Bool.not_eq_true'] at h1; rw [h1]; simp)
theorem runL_noS2 (hv : StepsIn S) (h : runToL x S k = (o, m)) (ho : LibOK o) (hs : S[k]? = some s) (h1 : spec_l32Step o s = true) (hy : (spec_l32Make o s).2 = false) : runToL x S (k + 1) = (o, m) :=
  runL_no h hs (by rw [stepped_yesL ho h1 (hv k s hs), if_neg (by rw [hy]; simp)])
noncomputable def runFL (x : Library) (S : List LibraryStep) : Library × Int × Bool := if LibOK x ∧ S.length ≤ 40 then ((runToL x S S.length).1, (runToL x S S.length).2, true) else (noLib, 0, false)
theorem runFL_no (h : ¬ LibOK x ∨ 40 < (S.length : Int)) : runFL x S = (noLib, 0, false) := if_neg (fun k => h.elim (fun h => h k.1) (fun h => by omega))
theorem runFL_yes (h : ¬ (¬ LibOK x ∨ 40 < (S.length : Int))) (hr : runToL x S k = (o, m)) (hk : k = S.length) : runFL x S = (o, m, true) := by
  subst hk
  unfold runFL
  rw [if_pos ⟨Classical.not_not.1 fun q => h (.inl q), by omega⟩, hr]
theorem runTo_ok (hx : LibOK x) : ∀ k, LibOK (runToL x S k).1 := by
  intro k
  have : ∀ (T : List LibraryStep) (s : Library × Int), LibOK s.1 → LibOK (T.foldl runL s).1 := by
    intro T
    induction T with
    | nil => exact fun s h => h
    | cons t T ih =>
      intro s h
      refine ih _ ?_
      unfold runL; split
      · exact stepped_okL ‹_›
      · exact h
  exact this _ _ hx
theorem runFL_len (x : Library) (S : List LibraryStep) : (runFL x S).1.Maps.length ≤ 8 ∧ (runFL x S).1.Away.length ≤ 8 := by
  unfold runFL; split
  · rename_i h
    have := lib_rng (runTo_ok (S := S) h.1 S.length); exact ⟨this.1, this.2.1⟩
  · simp [noLib]
theorem runFL_lenM (x : Library) (S : List LibraryStep) : (runFL x S).1.Maps.length ≤ 8 := (runFL_len x S).1
theorem runFL_lenA (x : Library) (S : List LibraryStep) : (runFL x S).1.Away.length ≤ 8 := (runFL_len x S).2
end
end Go.Proofs.Ytgobbcilgcbkaaa
