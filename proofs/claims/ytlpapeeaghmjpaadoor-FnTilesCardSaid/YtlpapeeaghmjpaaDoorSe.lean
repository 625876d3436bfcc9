/- Plain words on the steps of scan jobs. -/
import Derived.Test.YtlpapeeaghmjpaaDoorG29l
namespace Go.Proofs.YtlpapeeaghmjpaaDoor
open Go Go.RowKit Fw
theorem sstep_rng {s : ScanStep} (h : impl_isScanStep s = true) : (0 ≤ s.Value ∧ s.Value ≤ 100) ∧ 1 ≤ s.Kind ∧ s.Kind ≤ 6 := by
  unfold impl_isScanStep at h
  repeat' split at h
  all_goals (have h := of_decide_eq_true h; omega)
theorem sstep_rng' {s : ScanStep} (h : spec_l29Step s = true) : (0 ≤ s.Value ∧ s.Value ≤ 100) ∧ 1 ≤ s.Kind ∧ s.Kind ≤ 6 := by
  unfold spec_l29Step at h
  repeat' split at h
  all_goals (have h := of_decide_eq_true h; omega)
theorem sstep_eq (s : ScanStep) : spec_l29Step s = impl_isScanStep s := by
  unfold impl_isScanStep spec_l29Step
  repeat' split
  all_goals first | rfl | (exfalso; omega) | (apply decide_eq_decide.2; omega)
theorem ready_rng {x : ScanJob} {s : ScanStep} (h : impl_ScanJob_isReady x s = true) : (s.Kind = 2 → x.Next < (x.Tiles.length : Int)) ∧ (s.Kind = 5 → s.Value = 0 ∨ 0 ≤ lastB x.Tiles s.Value x.Next.toNat) := by
  unfold impl_ScanJob_isReady at h
  repeat' split at h
  all_goals (have h := of_decide_eq_true h; omega)
end Go.Proofs.YtlpapeeaghmjpaaDoor
