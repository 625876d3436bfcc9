/- Plain words on the steps of chests. -/
import Derived.Test.YtlpapeeaghmjpaaDoorG29b
namespace Go.Proofs.YtlpapeeaghmjpaaDoor
open Go Go.RowKit Fw
theorem cstep_rng {s : ChestStep} (h : impl_isChestStep s = true) : 0 ≤ s.Value ∧ s.Value ≤ 9999 := by
  unfold impl_isChestStep at h
  repeat' split at h
  all_goals (have h := of_decide_eq_true h; omega)
theorem cstep_rng' {s : ChestStep} (h : spec_l21Step s = true) : (0 ≤ s.Value ∧ s.Value ≤ 9999) ∧ 1 ≤ s.Kind ∧ s.Kind ≤ 7 := by
  unfold spec_l21Step at h
  repeat' split at h
  all_goals (have h := of_decide_eq_true h; omega)
theorem cstep_eq (s : ChestStep) : spec_l21Step s = impl_isChestStep s := rfl
end Go.Proofs.YtlpapeeaghmjpaaDoor
