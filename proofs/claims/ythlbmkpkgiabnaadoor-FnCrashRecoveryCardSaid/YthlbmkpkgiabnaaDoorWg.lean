/- What the laws of logs say. -/
import Derived.Test.YthlbmkpkgiabnaaDoorWf
namespace Go.Proofs.YthlbmkpkgiabnaaDoor
open Go Go.RowKit Fw
section
variable {l : Log} {r : LogRecord} {k : Int} {b : Bool} {i n m : Nat}
theorem bnot_f {b : Bool} (h : (!b) = false) : b = true := by simpa using h
theorem bnot_t {b : Bool} (h : (!b) = true) : b = false := by simpa using h
def AppLaw (l : Log) (r : LogRecord) : Prop :=
  ((appN l r).2 = 0 → (recsN (appN l r).1).2 = true ∧ (recsN (appN l r).1).1 = (recsN l).1 ++ [r] ∧ (appN l r).1.Count = ((recsN (appN l r).1).1.length : Int) ∧ (syncN (appN l r).1).2 = true ∧
    recovN ((appN l r).1.Durable ++ (appN l r).1.Pending) = ((syncN (appN l r).1).1, (((appN l r).1.Durable ++ (appN l r).1.Pending).length : Int), true) ∧ LogOK (appN l r).1) ∧ (¬ (appN l r).2 = 0 → (appN l r).1 = l)
theorem app_law (l : Log) (r : LogRecord) : AppLaw l r := by
  constructor
  · intro h
    have hg : (LogOK l ∧ RecOK r) ∧ ¬ l.Count = 60 := by
      unfold appN at h
      split at h
      · rename_i q; split at h
        · simp at h
        · exact ⟨q, ‹_›⟩
      · simp at h
    obtain ⟨⟨h1, h2⟩, h3⟩ := hg
    have e : appN l r = (⟨l.Durable, l.Pending ++ lineB l.Count r, l.Count + 1⟩, 0) := by unfold appN; rw [if_pos ⟨h1, h2⟩, if_neg h3]
    obtain ⟨v1, v2⟩ := app_valid h1 h2 h3
    rw [e]
    have hr := log_rng v1
    refine ⟨?_, ?_, ?_, ?_, ?_, v1⟩
    · rw [recs_yes v1]
    · rw [recs_yes v1, recs_yes h1, v2]
    · rw [recs_yes v1]; exact v1.2.2
    · rw [sync_yes v1]
    · have hl : (l.Durable ++ (l.Pending ++ lineB l.Count r)).length = l.Durable.length + (l.Pending ++ lineB l.Count r).length := by rw [List.length_append]
      dsimp only at hr
      have hfull : (opN (l.Durable ++ (l.Pending ++ lineB l.Count r))).2 = (l.Durable ++ (l.Pending ++ lineB l.Count r)).length := by rw [v2, hl]
      dsimp only
      rw [recov_yes (s := l.Durable ++ (l.Pending ++ lineB l.Count r)) (by omega), sync_yes v1, hfull, List.take_length]
      have hc : l.Count + 1 = ((opN (l.Durable ++ (l.Pending ++ lineB l.Count r))).1.length : Int) := v1.2.2
      rw [← hc]
  · intro h
    unfold appN at *
    split
    · rename_i q; rw [if_pos q] at h
      split
      · rfl
      · rename_i q2; rw [if_neg q2] at h; exact absurd rfl h
    · rfl
theorem app_len1 (h : AppLaw l r) (h0 : (appN l r).2 = 0) : (recsN (appN l r).1).1.length = (recsN l).1.length + 1 := by rw [(h.1 h0).2.1]; simp
theorem app_bad1 (h : AppLaw l r) (h0 : (appN l r).2 = 0) (hn : n = (recsN (appN l r).1).1.length) (hm : m = (recsN l).1.length)
    (hh : ((!((recsN (appN l r).1).2)) = true) ∨ ((¬ ((n : Int) = (m : Int) + 1)) ∨ (¬ ((appN l r).1.Count = (n : Int))))) : False := by
  have h1 := h.1 h0
  have h2 := app_len1 h h0
  rcases hh with q | q | q
  · rw [h1.1] at q; cases q
  · omega
  · rw [h1.2.2.1] at q; omega
theorem app_at (h : AppLaw l r) (h0 : (appN l r).2 = 0) (hi : i < (recsN l).1.length) : gt (recsN (appN l r).1).1 i = gt (recsN l).1 i := by
  rw [(h.1 h0).2.1]
  have h1 : ((recsN l).1 ++ [r])[i]? = (recsN l).1[i]? := List.getElem?_append_left hi
  unfold gt
  rw [List.getD_eq_getElem?_getD, List.getD_eq_getElem?_getD, h1]
theorem app_last (h : AppLaw l r) (h0 : (appN l r).2 = 0) (hm : m = (recsN l).1.length) : gt (recsN (appN l r).1).1 m = r := by
  rw [(h.1 h0).2.1, hm]
  exact gt_eq (by simp)
theorem torn_len (b : Bool) (s : List UInt8) : (tornB b s).length = s.length := by unfold tornB; split <;> simp
theorem crash_len (l : Log) (k : Int) (b : Bool) : (crashN l k b).1.length ≤ l.Durable.length + l.Pending.length := by
  unfold crashN; split
  · rw [List.length_append, torn_len, List.length_take]; omega
  · simp
def CrLaw (l : Log) (k : Int) (b : Bool) : Prop :=
  ((crashN l k b).2 = true → (recovN (crashN l k b).1).2.2 = true ∧ (recovN (crashN l k b).1).2.1 ≤ ((crashN l k b).1.length : Int) ∧ (l.Durable.length : Int) ≤ (recovN (crashN l k b).1).2.1 ∧ (recsN (recovN (crashN l k b).1).1).1 <+: (recsN l).1 ∧
    LogOK (recovN (crashN l k b).1).1 ∧ (recovN (crashN l k b).1).1.Durable = (crashN l k b).1.take (recovN (crashN l k b).1).2.1.toNat) ∧ ((crashN l k b).2 = false → (crashN l k b).1 = [])
theorem cr_law (l : Log) (k : Int) (b : Bool) : CrLaw l k b := by
  constructor
  · intro h
    have hg : LogOK l ∧ 0 ≤ k ∧ k ≤ (l.Pending.length : Int) := by
      unfold crashN at h; split at h
      · assumption
      · cases h
    have e : (crashN l k b).1 = l.Durable ++ tornB b (l.Pending.take k.toNat) := by unfold crashN; rw [if_pos hg]
    have hr := log_rng hg.1
    have hc := crash_first hg.1 k b
    rw [e]
    have hlen : (l.Durable ++ tornB b (l.Pending.take k.toNat)).length ≤ 24360 := by rw [List.length_append, torn_len, List.length_take]; omega
    generalize l.Durable ++ tornB b (l.Pending.take k.toNat) = s at *
    have ho := opN_len s
    have hv := recov_ok s
    rw [recov_yes (s := s) (by omega)]
    refine ⟨rfl, ?_, ?_, ?_, hv, ?_⟩
    · dsimp only; omega
    · dsimp only; omega
    · dsimp only
      rw [recs_yes hv, recs_yes hg.1]
      dsimp only
      rw [List.append_nil, opN_fix]; exact hc.1
    · dsimp only; rw [Int.toNat_natCast]
  · intro h
    unfold crashN at *
    split
    · rename_i q; rw [if_pos q] at h; cases h
    · rfl
theorem cr_bad (h : CrLaw l k b) (h0 : (crashN l k b).2 = true) (hn : n = (recsN (recovN (crashN l k b).1).1).1.length) (hm : m = (recsN l).1.length)
    (hh : ((!((recovN (crashN l k b).1).2.2)) = true) ∨ ((((crashN l k b).1.length : Int) < (recovN (crashN l k b).1).2.1) ∨ (((recovN (crashN l k b).1).2.1 < (l.Durable.length : Int)) ∨ ((m : Int) < (n : Int))))) : False := by
  have h1 := h.1 h0
  have h2 := h1.2.2.2.1.length_le
  rcases hh with q | q | q | q
  · rw [h1.1] at q; cases q
  · omega
  · omega
  · omega
theorem cr_at (h : CrLaw l k b) (h0 : (crashN l k b).2 = true) (hi : i < (recsN (recovN (crashN l k b).1).1).1.length) : gt (recsN (recovN (crashN l k b).1).1).1 i = gt (recsN l).1 i := pre_at (h.1 h0).2.2.2.1 hi
theorem app_fin (h : AppLaw l r) (h0 : (appN l r).2 = 0) (hm : m = (recsN l).1.length) : (gt (recsN (appN l r).1).1 m = r) ∧ (((recovN ((appN l r).1.Durable ++ (appN l r).1.Pending)).2.2 = true) ∧ (((recovN ((appN l r).1.Durable ++ (appN l r).1.Pending)).2.1 = (((appN l r).1.Durable ++ (appN l r).1.Pending).length : Int)) ∧ (((syncN (appN l r).1).2 = true) ∧ (((syncN (appN l r).1).1 = (recovN ((appN l r).1.Durable ++ (appN l r).1.Pending)).1) ∧ (LogOK (appN l r).1))))) := by
  have h1 := h.1 h0
  refine ⟨app_last h h0 hm, ?_⟩
  rw [h1.2.2.2.2.1]
  exact ⟨rfl, rfl, h1.2.2.2.1, rfl, h1.2.2.2.2.2⟩
theorem cr_fin (h : CrLaw l k b) (h0 : (crashN l k b).2 = true) : (LogOK (recovN (crashN l k b).1).1) ∧ ((recovN (crashN l k b).1).1.Durable = (crashN l k b).1.take (recovN (crashN l k b).1).2.1.toNat) := (h.1 h0).2.2.2.2
end
end Go.Proofs.YthlbmkpkgiabnaaDoor
