/- Laws of scan jobs: plain words. -/
import Derived.Test.YtlpapeeaghmjpaaDoorSg
import Derived.Test.YtlpapeeaghmjpaaDoorDa
namespace Go.Proofs.YtlpapeeaghmjpaaDoor
open Go Go.RowKit Fw
section
variable {x o y : ScanJob} {S : List ScanStep} {k : Nat} {m n : Int} {s : ScanStep}
/-- A new job. -/
def newJ (n : Int) : ScanJob × Bool := if 1 ≤ n ∧ n ≤ 8 then (⟨0, List.replicate n.toNat 0, 0, 0, 0⟩, true) else (⟨0, [], 0, 0, 0⟩, false)
theorem newJ_yes (h : 1 ≤ n ∧ n ≤ 8) : newJ n = (⟨0, List.replicate n.toNat 0, 0, 0, 0⟩, true) := if_pos h
theorem newJ_no (h : ¬ (1 ≤ n ∧ n ≤ 8)) : newJ n = (⟨0, [], 0, 0, 0⟩, false) := if_neg h
theorem newJ_len (n : Int) : (newJ n).1.Tiles.length ≤ 8 := by
  unfold newJ; split
  · simp; omega
  · simp
theorem gt_rep (n j : Nat) : gt (List.replicate n (0 : Int)) j = 0 := by
  unfold gt; simp [List.getElem?_replicate]; split <;> simp
theorem taken_rep (n : Nat) : takenN (List.replicate n (0 : Int)) = 0 := by
  refine taken_eq (fun j h => absurd h (by omega)) ?_
  cases n with
  | zero => exact .inl rfl
  | succ n => exact .inr ⟨by simp, gt_rep _ _⟩
theorem newJ_okN (h : 1 ≤ n ∧ n ≤ 8) : JobOK (newJ n).1 := by
  rw [newJ_yes h]
  refine ⟨⟨by simp; omega, fun j _ => by rw [gt_rep]; omega, fun j _ _ => gt_rep _ _⟩, ?_⟩
  simp only [taken_rep, List.length_replicate, sum_rep]
  refine ⟨by omega, rfl, rfl, by omega, by omega, by omega, by simp, by omega⟩
theorem newJ_ok (h : n ∈ ([1, 2, 3, 5, 8] : List Int)) : JobOK (newJ n).1 := newJ_okN (by
  simp only [List.mem_cons, List.not_mem_nil, or_false] at h; omega)
theorem job_size (h : JobOK o) : 0 ≤ o.Size ∧ o.Size ≤ 8000 := by have := job_rng h; omega
theorem impl_okJ (h : (impl_StepScan x s).2 = true) : JobOK (impl_StepScan x s).1 ∧ JobOK x := by
  unfold impl_StepScan at *
  split
  · rename_i hx; rw [if_pos hx] at h; exact ⟨stepped_okJ h, hx⟩
  · rename_i hx; rw [if_neg hx] at h; cases h
theorem spec_okJ (h : (spec_StepScan x s).2 = true) : JobOK (spec_StepScan x s).1 := by
  rw [step_eqJ] at *; exact (impl_okJ h).1
theorem after_len (hx : JobOK x) (x' : ScanJob) (h : impl_ScanJob_after x s = x') : x'.Tiles.length = x.Tiles.length := by
  subst h
  unfold impl_ScanJob_after goN
  have h1 := lastB_rng (L := x.Tiles) (v := s.Value) x.Next.toNat
  have h2 := job_rng hx
  repeat' split
  all_goals first | rfl | (simp; done) | exact zf_len (Nat.le_refl _) (by omega)
theorem impl_len (h : (impl_StepScan x s).2 = true) : (impl_StepScan x s).1.Tiles.length = x.Tiles.length := by
  have hx := (impl_okJ h).2
  unfold impl_StepScan impl_ScanJob_stepped at *
  rw [if_pos hx] at *
  repeat' split at h
  all_goals first | (cases h; done) | skip
  all_goals simp_all
  all_goals exact after_len hx _ rfl
theorem runJ_yesI (h : runToJ x S k = (o, m)) (hs : S[k]? = some s) (hy : (impl_StepScan o s).2 = true) : runToJ x S (k + 1) = ((impl_StepScan o s).1, m + 1) ∧ JobOK (impl_StepScan o s).1 := by
  have ho := (impl_okJ hy).2
  have e : impl_StepScan o s = ((impl_ScanJob_stepped o s).1, (impl_ScanJob_stepped o s).2) := if_pos ho
  rw [e] at hy ⊢
  exact runJ_yes h hs hy
theorem runJ_noI (h : runToJ x S k = (o, m)) (ho : JobOK o) (hs : S[k]? = some s) (hy : (impl_StepScan o s).2 = false) : runToJ x S (k + 1) = (o, m) := by
  have e : impl_StepScan o s = ((impl_ScanJob_stepped o s).1, (impl_ScanJob_stepped o s).2) := if_pos ho
  rw [e] at hy
  exact runJ_no h hs hy
/-- What a step keeps. -/
def ScLaw (x : ScanJob) (s : ScanStep) : Prop := spec_StepScan x s = impl_StepScan x s ∧ ((impl_StepScan x s).2 = true → JobOK (impl_StepScan x s).1 ∧ (impl_StepScan x s).1.Size = IntKind.i64.wrap (10 * wsum (impl_StepScan x s).1.Tiles) ∧ (impl_StepScan x s).1.Tiles.length = x.Tiles.length)
theorem sc_law (x : ScanJob) (s : ScanStep) : ScLaw x s := ⟨step_eqJ x s, fun h => ⟨(impl_okJ h).1, ((impl_okJ h).1.2.2.2.1).trans (tiles_wrap (impl_okJ h).1.1).1.symm, impl_len h⟩⟩
theorem runFJ_told (h : (runFJ x S).2.2 = true) : JobOK x ∧ S.length ≤ 40 := by
  unfold runFJ at h; split at h
  · assumption
  · cases h
theorem runFJ_end (h : (runFJ x S).2.2 = true) (hr : runToJ x S k = (o, m)) (hk : k = S.length) : (runFJ x S).1 = o ∧ (runFJ x S).2.1 = m := by
  subst hk
  unfold runFJ; rw [if_pos (runFJ_told h)]; simp [hr]
end
end Go.Proofs.YtlpapeeaghmjpaaDoor
