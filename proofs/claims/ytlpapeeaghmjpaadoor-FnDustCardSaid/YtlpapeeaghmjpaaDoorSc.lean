/- A step of a chest: the program's and the reference's are one. -/
import Derived.Test.YtlpapeeaghmjpaaDoorSb
import Derived.Test.YtlpapeeaghmjpaaDoorG29f
namespace Go.Proofs.YtlpapeeaghmjpaaDoor
open Go Go.RowKit Fw
def noChest : Chest := ⟨0, 0, [], 0, 0, 0⟩
theorem stack_keep : ∀ {L : List Int} {v : Int}, StackOK L → v ∈ L → keep (eqI v) L = L.take (idxF (eqI v) L).toNat ++ L.drop (idxF (eqI v) L + 1).toNat := by
  intro L v hs hv
  have h0 : 0 ≤ idxF (eqI v) L := mem_idx.1 hv
  obtain ⟨x, hx, hp, hn⟩ := idx_spec (p := eqI v) rfl h0
  obtain rfl : x = v := by simpa [eqI] using hp
  have hi := (List.getElem?_eq_some_iff.1 hx).1
  have e : L = L.take (idxF (eqI x) L).toNat ++ x :: L.drop ((idxF (eqI x) L).toNat + 1) := by
    have h1 := List.take_append_drop (idxF (eqI x) L).toNat L
    rw [List.drop_eq_getElem_cons hi, (List.getElem?_eq_some_iff.1 hx).2] at h1
    exact h1.symm
  rw [show (idxF (eqI x) L + 1).toNat = (idxF (eqI x) L).toNat + 1 by omega]
  generalize hk : (idxF (eqI x) L).toNat = k at *
  have h2 : keep (eqI x) (L.take k) = L.take k := by
    unfold keep
    rw [List.filter_eq_self]
    intro y hy
    obtain ⟨j, hj⟩ := List.mem_iff_getElem?.1 hy
    rw [List.getElem?_take] at hj
    split at hj
    · rename_i hlt; simp [hn j y hlt hj]
    · cases hj
  have h3 : keep (eqI x) (L.drop (k + 1)) = L.drop (k + 1) := by
    unfold keep
    rw [List.filter_eq_self]
    intro y hy
    obtain ⟨j, hj⟩ := List.mem_iff_getElem?.1 hy
    rw [List.getElem?_drop] at hj
    simp only [eqI, Bool.not_eq_true', decide_eq_false_iff_not]
    rintro rfl
    exact (hs _ _ hj).2 (List.mem_iff_getElem?.2 ⟨k, by rw [List.getElem?_take, if_pos (by omega)]; exact hx⟩)
  have h4 : keep (eqI x) (L.take k ++ x :: L.drop (k + 1)) = L.take k ++ L.drop (k + 1) := by
    have : keep (eqI x) (L.take k ++ x :: L.drop (k + 1)) = keep (eqI x) (L.take k) ++ keep (eqI x) (L.drop (k + 1)) := by
      unfold keep; rw [List.filter_append]; simp [eqI]
    rw [this, h2, h3]
  exact (congrArg (keep (eqI x)) e).trans h4
/-- What a step makes of a chest. -/
noncomputable def stepC (x : Chest) (s : ChestStep) : Chest × Bool := if impl_isChestStep s = true ∧ (spec_l21Make x s).2 = true then ((spec_l21Make x s).1, true) else (noChest, false)
theorem stepped_eq {x : Chest} {s : ChestStep} (hx : ChestOK x) : impl_Chest_stepped x s = stepC x s := by
  unfold impl_Chest_stepped stepC
  cases hs : impl_isChestStep s
  · simp [noChest]
  simp only [Bool.not_true, Bool.false_eq_true, if_false, true_and]
  have hv := cstep_rng hs
  have key : (impl_Chest_isReady x s = true ∧ ChestOK (impl_Chest_after x s) ↔ (spec_l21Make x s).2 = true) ∧ (impl_Chest_isReady x s = true → impl_Chest_after x s = (spec_l21Make x s).1) := by
    unfold impl_isChestStep at hs
    have hk : s.Kind = 1 ∨ s.Kind = 2 ∨ s.Kind = 3 ∨ s.Kind = 4 ∨ s.Kind = 5 ∨ s.Kind = 6 ∨ s.Kind = 7 := by
      by_cases h1 : s.Kind = 1; · omega
      by_cases h2 : s.Kind = 2; · omega
      by_cases h3 : s.Kind = 3; · omega
      by_cases h4 : s.Kind = 4; · omega
      by_cases h5 : s.Kind = 5; · omega
      by_cases h6 : s.Kind = 6; · omega
      simp [h1, h2, h3, h4, h5, h6] at hs; omega
    unfold impl_Chest_isReady impl_Chest_after spec_l21Make
    rcases hk with h | h | h | h | h | h | h <;> simp only [h, if_true, if_false, reduceIte, Int.reduceEq, decide_eq_true_eq, true_and, and_true, implies_true, iff_self]
    · rw [eq_comm (a := s.Value)]
    · unfold spec_l21Move
      by_cases hm : s.Value ∈ x.Stack
      · have := mem_idx.1 hm
        simp [h, hm, this]
      · have h0 : ¬ 0 ≤ idxF (eqI s.Value) x.Stack := fun k => hm (mem_idx.2 k)
        by_cases ho : x.State = 1 <;> simp [h, hm, h0, ho]
    · unfold spec_l21Move
      by_cases hm : s.Value ∈ x.Stack
      · have h0 := mem_idx.1 hm
        have hk := stack_keep hx.1 hm
        by_cases ho : x.State = 1 <;> simp [h, hm, h0, ho, hk]
      · have h0 : ¬ 0 ≤ idxF (eqI s.Value) x.Stack := fun k => hm (mem_idx.2 k)
        simp [h, hm, h0]
    · unfold spec_l21Dusty impl_Chest_dusted
      by_cases hz : s.Value = 0
      · simp [hz]
      · by_cases ho : x.State = 1 <;> simp [hz, ho] <;> omega
  obtain ⟨k1, k2⟩ := key
  cases hr : impl_Chest_isReady x s
  · rw [hr] at k1
    have : ¬ (spec_l21Make x s).2 = true := fun h => by have := (k1.2 h).1; cases this
    simp [this, noChest]
  · rw [hr] at k1
    simp only [true_and] at k1
    simp only [Bool.not_true, Bool.false_eq_true, if_false]
    by_cases h : ChestOK (impl_Chest_after x s)
    · rw [if_pos h, if_pos (k1.1 h), k2 hr]
    · rw [if_neg h, if_neg (fun k => h (k1.2 k))]; rfl
theorem spec_step (x : Chest) (s : ChestStep) : spec_StepChest x s = if ChestOK x then stepC x s else (noChest, false) := by
  unfold spec_StepChest stepC
  rw [cstep_eq]
  by_cases h : ChestOK x <;> cases h1 : impl_isChestStep s <;> cases h2 : (spec_l21Make x s).2 <;> simp [h, noChest]
theorem impl_step (x : Chest) (s : ChestStep) : impl_StepChest x s = if ChestOK x then stepC x s else (noChest, false) := by
  unfold impl_StepChest
  by_cases h : ChestOK x
  · simp [h, stepped_eq h]
  · simp [h, noChest]
theorem step_eq (x : Chest) (s : ChestStep) : impl_StepChest x s = spec_StepChest x s := by rw [spec_step, impl_step]
theorem make_ok {x : Chest} {s : ChestStep} (h : (spec_l21Make x s).2 = true) : ChestOK (spec_l21Make x s).1 := by
  unfold spec_l21Make at *
  repeat' split at h
  all_goals (simp only [decide_eq_true_eq] at h; simp_all)
theorem stepC_ok {x : Chest} {s : ChestStep} (h : (stepC x s).2 = true) : ChestOK (stepC x s).1 := by
  unfold stepC at *
  split at h
  · rename_i k; rw [if_pos k]; exact make_ok k.2
  · cases h
theorem stepC_len (x : Chest) (s : ChestStep) : (stepC x s).1.Stack.length ≤ 10 := by
  by_cases h : (stepC x s).2 = true
  · exact (stepC_ok h).2.1
  · unfold stepC at *
    split at h
    · exact absurd rfl h
    · rename_i k; rw [if_neg k]; simp [noChest]
theorem step_len_i (x : Chest) (s : ChestStep) : (impl_StepChest x s).1.Stack.length ≤ 10 := by
  rw [impl_step]; split
  · exact stepC_len x s
  · simp [noChest]
theorem step_len (x : Chest) (s : ChestStep) : (spec_StepChest x s).1.Stack.length ≤ 10 := by
  rw [spec_step]; split
  · exact stepC_len x s
  · simp [noChest]
/-- A run of a chest, and how many steps it made. -/
noncomputable def runC (s : Chest × Int) (t : ChestStep) : Chest × Int := if (stepC s.1 t).2 = true then ((stepC s.1 t).1, s.2 + 1) else s
noncomputable def runTo (x : Chest) (S : List ChestStep) (k : Nat) : Chest × Int := (S.take k).foldl runC (x, 0)
section
variable {x o : Chest} {S : List ChestStep} {k n : Nat} {m : Int} {s : ChestStep}
theorem run_next (hs : S[k]? = some s) : runTo x S (k + 1) = runC (runTo x S k) s := by
  unfold runTo; rw [List.take_add_one, hs]; simp
theorem run_yes (h : runTo x S k = (o, m)) (ho : ChestOK o) (hs : S[k]? = some s) (hy : (impl_Chest_stepped o s).2 = true) : runTo x S (k + 1) = ((impl_Chest_stepped o s).1, m + 1) ∧ ChestOK (impl_Chest_stepped o s).1 := by
  rw [run_next hs, h]
  rw [stepped_eq ho] at *
  exact ⟨if_pos hy, stepC_ok hy⟩
theorem run_no (h : runTo x S k = (o, m)) (ho : ChestOK o) (hs : S[k]? = some s) (hy : (impl_Chest_stepped o s).2 = false) : runTo x S (k + 1) = (o, m) := by
  rw [run_next hs, h]
  rw [stepped_eq ho] at hy
  exact if_neg (by rw [hy]; simp)
theorem run_yesS (h : runTo x S k = (o, m)) (hs : S[k]? = some s) (h1 : spec_l21Step s = true) (hy : (spec_l21Make o s).2 = true) : runTo x S (k + 1) = ((spec_l21Make o s).1, m + 1) ∧ ChestOK (spec_l21Make o s).1 := by
  rw [run_next hs, h]
  rw [cstep_eq] at h1
  have e : stepC o s = ((spec_l21Make o s).1, true) := if_pos ⟨h1, hy⟩
  exact ⟨by unfold runC; rw [e]; rfl, make_ok hy⟩
theorem run_noS (h : runTo x S k = (o, m)) (hs : S[k]? = some s) (hy : ¬ (spec_l21Step s = true ∧ (spec_l21Make o s).2 = true)) : runTo x S (k + 1) = (o, m) := by
  rw [run_next hs, h]
  rw [cstep_eq] at hy
  have e : stepC o s = (noChest, false) := if_neg hy
  unfold runC; rw [e]; rfl
noncomputable def runF (x : Chest) (S : List ChestStep) : Chest × Int × Bool := if ChestOK x ∧ S.length ≤ 40 then ((runTo x S S.length).1, (runTo x S S.length).2, true) else (noChest, 0, false)
theorem runF_no (h : ¬ ChestOK x ∨ 40 < (S.length : Int)) : runF x S = (noChest, 0, false) := if_neg (fun k => h.elim (fun h => h k.1) (fun h => by omega))
theorem runF_yes (h : ¬ (¬ ChestOK x ∨ 40 < (S.length : Int))) (hr : runTo x S k = (o, m)) (hk : k = S.length) : runF x S = (o, m, true) := by
  subst hk
  unfold runF; rw [if_pos ⟨Classical.not_not.1 fun k => h (.inl k), by have := fun k => h (.inr k); omega⟩, hr]
theorem runTo_ok (hx : ChestOK x) : ∀ k, ChestOK (runTo x S k).1
  | 0 => by simpa [runTo] using hx
  | k + 1 => by
    cases hs : S[k]? with
    | none =>
      have h1 : S.take (k + 1) = S.take k := by rw [List.take_add_one, hs]; simp
      have : runTo x S (k + 1) = runTo x S k := by unfold runTo; rw [h1]
      rw [this]; exact runTo_ok hx k
    | some s =>
      rw [run_next hs]
      unfold runC
      split
      · rename_i h; exact stepC_ok h
      · exact runTo_ok hx k
theorem runF_len (x : Chest) (S : List ChestStep) : (runF x S).1.Stack.length ≤ 10 := by
  unfold runF
  split
  · rename_i h; exact (runTo_ok h.1 _).2.1
  · simp [noChest]
end
end Go.Proofs.YtlpapeeaghmjpaaDoor
