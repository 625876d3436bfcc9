/- Both ways to step a scan job are one. -/
import Derived.Test.YtlpapeeaghmjpaaDoorG29n
import Derived.Test.YtlpapeeaghmjpaaDoorG29p
namespace Go.Proofs.YtlpapeeaghmjpaaDoor
open Go Go.RowKit Fw
theorem go_eq {x : ScanJob} {v : Int} (h : JobOK x) (h0 : 0 ≤ v) (hv : v = 0 ∨ 0 ≤ lastB x.Tiles v x.Next.toNat) : goN x v = againN x v := by
  have hr := job_rng h
  have hn : x.Next.toNat = takenN x.Tiles := by omega
  have hb := agB_le x v
  unfold goN againN
  rcases Int.lt_or_le 0 v with h1 | h1
  · rw [if_pos h1, if_neg (by omega)]
    have hl : 0 ≤ lastB x.Tiles v x.Next.toNat := by omega
    have e1 : zf x.Tiles (agB x v) x.Tiles.length = zf x.Tiles (agB x v) x.Next.toNat := zf_all (by rw [hn]; exact h.1.2.2) hb (by omega)
    have e2 := zf_sum (L := x.Tiles) (b := agB x v) (i := x.Tiles.length) rfl
    have e3 := sum_from (L := x.Tiles) (k := takenN x.Tiles) h.1.2.2 x.Tiles.length (taken_le _) (Nat.le_refl _)
    rw [take_all] at e3
    show ScanJob.mk 1 (zf x.Tiles (agB x v) x.Tiles.length) _ 0 (10 * sumI (zf x.Tiles (agB x v) x.Tiles.length)) = _
    have e4 : 10 * sumI (zf x.Tiles (agB x v) x.Tiles.length) = agS x v x.Next.toNat := by
      rw [e2]; unfold agS; rw [hn, ← e3]; omega
    have e5 : lastB x.Tiles v x.Next.toNat = (agB x v : Int) := by unfold agB; omega
    rw [e4, e1, e5]
  · rw [if_neg (by omega), if_pos (by omega)]
/-- What the reference makes, where the program makes it. -/
theorem make_eq {x : ScanJob} {s : ScanStep} (h : JobOK x) (hs : impl_isScanStep s = true) : (spec_l29Make x s).2 = true ↔ impl_ScanJob_isReady x s = true ∧ JobOK (impl_ScanJob_after x s) := by
  have hr := job_rng h
  have hk := sstep_rng hs
  unfold spec_l29Make impl_ScanJob_isReady impl_ScanJob_after
  by_cases k5 : s.Kind = 5
  · simp only [k5]
    simp only [show ¬ (5 : Int) = 1 from by omega, show ¬ (5 : Int) = 2 from by omega, show ¬ (5 : Int) = 3 from by omega, show ¬ (5 : Int) = 4 from by omega, if_false, if_true, decide_eq_true_eq]
    constructor
    · rintro ⟨⟨a, b⟩, c⟩
      exact ⟨⟨b, a⟩, by rw [go_eq h hk.1.1 a]; exact c⟩
    · rintro ⟨⟨b, a⟩, c⟩
      exact ⟨⟨a, b⟩, by rw [← go_eq h hk.1.1 a]; exact c⟩
  · repeat' split
    all_goals first | (exfalso; omega) | (simp only [decide_eq_true_eq]; done) | (simp only [decide_eq_true_eq, Bool.false_eq_true, false_iff]; intro hh; have := hh.1; omega) | (simp only [decide_eq_true_eq]; constructor <;> (intro hh; first | exact ⟨hh.1, hh.2⟩ | exact ⟨⟨hh.1, by omega⟩, hh.2⟩ | exact ⟨hh.1.1, hh.2⟩))
theorem made_eq {x : ScanJob} {s : ScanStep} (h : JobOK x) (hs : impl_isScanStep s = true) (hm : (spec_l29Make x s).2 = true) : (spec_l29Make x s).1 = impl_ScanJob_after x s := by
  have hk := sstep_rng hs
  have hr := ((make_eq h hs).1 hm).1
  have h5 := (ready_rng hr).2
  unfold spec_l29Make impl_ScanJob_after at *
  by_cases k5 : s.Kind = 5
  · simp only [k5, show ¬ (5 : Int) = 1 from by omega, show ¬ (5 : Int) = 2 from by omega, show ¬ (5 : Int) = 3 from by omega, show ¬ (5 : Int) = 4 from by omega, if_false, if_true]
    exact (go_eq h hk.1.1 (h5 k5)).symm
  · repeat' split
    all_goals first | rfl | (exfalso; omega) | (exfalso; simp_all; done)
open Classical in
noncomputable def impl_StepScan (x : ScanJob) (s : ScanStep) : ScanJob × Bool :=
  if JobOK x then (((impl_ScanJob_stepped x s).1), (impl_ScanJob_stepped x s).2) else ((⟨0, ([] : List Int), 0, 0, 0⟩ : ScanJob), false)
theorem step_eqJ (x : ScanJob) (s : ScanStep) : spec_StepScan x s = impl_StepScan x s := by
  unfold spec_StepScan impl_StepScan impl_ScanJob_stepped
  rw [sstep_eq]
  by_cases h : JobOK x
  · cases hs : impl_isScanStep s
    · simp [h]
    · have hm := make_eq h hs
      by_cases h2 : (spec_l29Make x s).2 = true
      · have hr := hm.1 h2
        have he := made_eq h hs h2
        simp [h, h2, hr.1, hr.2, he]
      · have hn : ¬ (impl_ScanJob_isReady x s = true ∧ JobOK (impl_ScanJob_after x s)) := fun k => h2 (hm.2 k)
        cases hr : impl_ScanJob_isReady x s
        · simp [h, h2]
        · have : ¬ JobOK (impl_ScanJob_after x s) := fun k => hn ⟨hr, k⟩
          simp [h, h2, this]
  · simp [h]
end Go.Proofs.YtlpapeeaghmjpaaDoor
