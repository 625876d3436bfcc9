/- Runs of scan jobs. -/
import Derived.Test.YtlpapeeaghmjpaaDoorSf
namespace Go.Proofs.YtlpapeeaghmjpaaDoor
open Go Go.RowKit Fw
section
variable {x o : ScanJob} {S : List ScanStep} {k n : Nat} {m : Int} {s : ScanStep}
theorem stepped_okJ (h : (impl_ScanJob_stepped x s).2 = true) : JobOK (impl_ScanJob_stepped x s).1 := by
  unfold impl_ScanJob_stepped at *
  repeat' split at h
  all_goals simp_all
theorem stepped_lenJ (x : ScanJob) (s : ScanStep) : (impl_ScanJob_stepped x s).1.Tiles.length ≤ 8 := by
  by_cases h : (impl_ScanJob_stepped x s).2 = true
  · exact (stepped_okJ h).1.1
  · unfold impl_ScanJob_stepped at *
    repeat' split at h
    all_goals simp_all
theorem step_lenJ (x : ScanJob) (s : ScanStep) : (impl_StepScan x s).1.Tiles.length ≤ 8 := by
  unfold impl_StepScan
  split
  · exact stepped_lenJ x s
  · simp
theorem step_lenJS (x : ScanJob) (s : ScanStep) : (spec_StepScan x s).1.Tiles.length ≤ 8 := by rw [step_eqJ]; exact step_lenJ x s
theorem stepped_yesJ (hx : JobOK x) (h1 : spec_l29Step s = true) (hy : (spec_l29Make x s).2 = true) : impl_ScanJob_stepped x s = ((spec_l29Make x s).1, true) := by
  rw [sstep_eq] at h1
  have hm := (make_eq hx h1).1 hy
  have he := made_eq hx h1 hy
  unfold impl_ScanJob_stepped
  simp [h1, hm.1, hm.2, he]
theorem stepped_noJ (hx : JobOK x) (h : ¬ (spec_l29Step s = true ∧ (spec_l29Make x s).2 = true)) : (impl_ScanJob_stepped x s).2 = false := by
  rw [sstep_eq] at h
  cases hs : impl_isScanStep s
  · unfold impl_ScanJob_stepped; simp [hs]
  · have hm := make_eq hx hs
    have hn : ¬ (impl_ScanJob_isReady x s = true ∧ JobOK (impl_ScanJob_after x s)) := fun k => h ⟨hs, hm.2 k⟩
    unfold impl_ScanJob_stepped
    cases hr : impl_ScanJob_isReady x s
    · simp [hs]
    · have : ¬ JobOK (impl_ScanJob_after x s) := fun k => hn ⟨hr, k⟩
      simp [hs, this]
/-- A run of a job, and how many steps it made. -/
noncomputable def runJ (s : ScanJob × Int) (t : ScanStep) : ScanJob × Int := if (impl_ScanJob_stepped s.1 t).2 = true then ((impl_ScanJob_stepped s.1 t).1, s.2 + 1) else s
noncomputable def runToJ (x : ScanJob) (S : List ScanStep) (k : Nat) : ScanJob × Int := (S.take k).foldl runJ (x, 0)
theorem runJ_next (hs : S[k]? = some s) : runToJ x S (k + 1) = runJ (runToJ x S k) s := by
  unfold runToJ; rw [List.take_add_one, hs]; simp
theorem runJ_yes (h : runToJ x S k = (o, m)) (hs : S[k]? = some s) (hy : (impl_ScanJob_stepped o s).2 = true) : runToJ x S (k + 1) = ((impl_ScanJob_stepped o s).1, m + 1) ∧ JobOK (impl_ScanJob_stepped o s).1 := by
  rw [runJ_next hs, h]
  exact ⟨if_pos hy, stepped_okJ hy⟩
theorem runJ_no (h : runToJ x S k = (o, m)) (hs : S[k]? = some s) (hy : (impl_ScanJob_stepped o s).2 = false) : runToJ x S (k + 1) = (o, m) := by
  rw [runJ_next hs, h]
  exact if_neg (by rw [hy]; simp)
theorem runJ_yesS (h : runToJ x S k = (o, m)) (ho : JobOK o) (hs : S[k]? = some s) (h1 : spec_l29Step s = true) (hy : (spec_l29Make o s).2 = true) : runToJ x S (k + 1) = ((spec_l29Make o s).1, m + 1) ∧ JobOK (spec_l29Make o s).1 := by
  have e := stepped_yesJ ho h1 hy
  have := runJ_yes h hs (by rw [e])
  rwa [e] at this
theorem runJ_noS (h : runToJ x S k = (o, m)) (ho : JobOK o) (hs : S[k]? = some s) (hy : ¬ (spec_l29Step s = true ∧ (spec_l29Make o s).2 = true)) : runToJ x S (k + 1) = (o, m) :=
  runJ_no h hs (stepped_noJ ho hy)
def noJob : ScanJob := ⟨0, [], 0, 0, 0⟩
noncomputable def runFJ (x : ScanJob) (S : List ScanStep) : ScanJob × Int × Bool := if JobOK x ∧ S.length ≤ 40 then ((runToJ x S S.length).1, (runToJ x S S.length).2, true) else (noJob, 0, false)
theorem runFJ_no (h : ¬ JobOK x ∨ 40 < (S.length : Int)) : runFJ x S = (noJob, 0, false) := if_neg (fun k => h.elim (fun h => h k.1) (fun h => by omega))
theorem runFJ_yes (h : ¬ (¬ JobOK x ∨ 40 < (S.length : Int))) (hr : runToJ x S k = (o, m)) (hk : k = S.length) : runFJ x S = (o, m, true) := by
  subst hk
  unfold runFJ; rw [if_pos ⟨Classical.not_not.1 fun k => h (.inl k), by have := fun k => h (.inr k); omega⟩, hr]
theorem runToJ_ok (hx : JobOK x) : ∀ k, JobOK (runToJ x S k).1
  | 0 => by simpa [runToJ] using hx
  | k + 1 => by
    cases hs : S[k]? with
    | none =>
      have h1 : S.take (k + 1) = S.take k := by rw [List.take_add_one, hs]; simp
      have : runToJ x S (k + 1) = runToJ x S k := by unfold runToJ; rw [h1]
      rw [this]; exact runToJ_ok hx k
    | some s =>
      rw [runJ_next hs]
      unfold runJ
      split
      · rename_i h; exact stepped_okJ h
      · exact runToJ_ok hx k
theorem runFJ_len (x : ScanJob) (S : List ScanStep) : (runFJ x S).1.Tiles.length ≤ 8 := by
  unfold runFJ
  split
  · rename_i h; exact (runToJ_ok h.1 _).1.1
  · simp [noJob]
end
end Go.Proofs.YtlpapeeaghmjpaaDoor
