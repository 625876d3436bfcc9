/- Laws of chests: plain words. -/
import Derived.Test.YtlpapeeaghmjpaaSc
import Derived.Test.YtlpapeeaghmjpaaDa
import Derived.Test.YtlpapeeaghmjpaaG29i
namespace Go.Proofs.Ytlpapeeaghmjpaa
open Go Go.RowKit Fw
section
variable {x o y : Chest} {S : List ChestStep} {k : Nat} {m n v : Int} {s : ChestStep} {L : List Int}
theorem nil_chest : ChestOK ⟨0, 0, [], 0, 0, 0⟩ := by
  refine ⟨fun j x h => by simp at h, ?_⟩
  simp
theorem chest_key (h : ChestOK o) : 0 ≤ o.Key ∧ o.Key ≤ 9999 := by
  obtain ⟨-, -, -, h1, h2, -⟩ := h
  by_cases k : o.State = 2
  · have := h1 k; omega
  · have := h2 k; omega
theorem chest_laid (h : ChestOK o) : o.Stack.length ≤ 10 ∧ 0 ≤ o.Laid ∧ o.Laid ≤ 9999 := by have := chest_rng h; omega
theorem impl_okC (h : (impl_StepChest x s).2 = true) : ChestOK (impl_StepChest x s).1 ∧ ChestOK x := by
  rw [impl_step] at *
  split
  · rename_i hx; rw [if_pos hx] at h; exact ⟨stepC_ok h, hx⟩
  · rename_i hx; rw [if_neg hx] at h; cases h
theorem spec_okC (h : (spec_StepChest x s).2 = true) : ChestOK (spec_StepChest x s).1 := by
  rw [← step_eq] at *; exact (impl_okC h).1
theorem run_yesI (h : runTo x S k = (o, m)) (hs : S[k]? = some s) (hy : (impl_StepChest o s).2 = true) : runTo x S (k + 1) = ((impl_StepChest o s).1, m + 1) ∧ ChestOK (impl_StepChest o s).1 := by
  have ho := (impl_okC hy).2
  have e : impl_StepChest o s = impl_Chest_stepped o s := by rw [impl_step, if_pos ho, stepped_eq ho]
  rw [e] at hy ⊢
  exact run_yes h ho hs hy
theorem run_noI (h : runTo x S k = (o, m)) (ho : ChestOK o) (hs : S[k]? = some s) (hy : (impl_StepChest o s).2 = false) : runTo x S (k + 1) = (o, m) := by
  have e : impl_StepChest o s = impl_Chest_stepped o s := by rw [impl_step, if_pos ho, stepped_eq ho]
  rw [e] at hy
  exact run_no h ho hs hy
theorem runF_told (h : (runF x S).2.2 = true) : ChestOK x ∧ S.length ≤ 40 := by
  unfold runF at h; split at h
  · assumption
  · cases h
theorem runF_end (h : (runF x S).2.2 = true) (hr : runTo x S k = (o, m)) (hk : k = S.length) : (runF x S).1 = o ∧ (runF x S).2.1 = m := by
  subst hk
  unfold runF; rw [if_pos (runF_told h)]; simp [hr]
/-- What a step keeps. -/
def ChLaw (x : Chest) (s : ChestStep) : Prop := spec_StepChest x s = impl_StepChest x s ∧ ((impl_StepChest x s).2 = true → ChestOK (impl_StepChest x s).1 ∧ IntKind.i64.wrap ((impl_StepChest x s).1.Laid - (impl_StepChest x s).1.Given) = ((impl_StepChest x s).1.Stack.length : Int) ∧ (¬ s.Kind = 5 → (impl_StepChest x s).1.Laid = x.Laid) ∧ (¬ s.Kind = 6 → (impl_StepChest x s).1.Given = x.Given))
theorem make_keep (hs : 1 ≤ s.Kind ∧ s.Kind ≤ 7) : (¬ s.Kind = 5 → (spec_l21Make x s).1.Laid = x.Laid) ∧ (¬ s.Kind = 6 → (spec_l21Make x s).1.Given = x.Given) := by
  unfold spec_l21Make spec_l21Move spec_l21Dusty
  constructor <;> intro h <;> (repeat' split) <;> first | rfl | (exfalso; omega)
theorem ch_law (x : Chest) (s : ChestStep) : ChLaw x s := ⟨(step_eq x s).symm, fun h => by
  have h0 := (impl_okC h)
  have hr := chest_rng h0.1
  refine ⟨h0.1, by rw [wrap64_in (by omega)]; omega, ?_⟩
  have e : impl_StepChest x s = stepC x s := by rw [impl_step, if_pos h0.2]
  rw [e] at h ⊢
  unfold stepC at *
  split
  · rename_i hc; exact make_keep (cstep_rng' (show spec_l21Step s = true from hc.1)).2
  · rename_i hn; rw [if_neg hn] at h; cases h⟩
theorem idx_gt (h : 0 ≤ idxF (eqI v) L) : gt L (idxF (eqI v) L).toNat = v ∧ (idxF (eqI v) L).toNat < L.length := by
  obtain ⟨y, hy, hp, -⟩ := idx_spec rfl h
  have e : y = v := by simpa [eqI] using hp
  exact ⟨by rw [gt_eq hy, e], (List.getElem?_eq_some_iff.1 hy).1⟩
theorem idx_uniq (hs : StackOK L) (hx : L[k]? = some v) : idxF (eqI v) L = (k : Int) := (idx_first hx).2 (hs k v hx).2
/-- What lies above a map, and the map on top. -/
def AbLaw (x : Chest) (v : Int) : Prop := impl_MapsAbove x v = spec_MapsAbove x v ∧ impl_TopMap x = spec_TopMap x ∧ ((impl_MapsAbove x v).2 = true → (impl_TopMap x).2 = true ∧ ((impl_MapsAbove x v).1 = 0 ↔ (impl_TopMap x).1 = v))
theorem ab_law (x : Chest) (v : Int) : AbLaw x v := by
  refine ⟨rfl, rfl, fun h => ?_⟩
  unfold impl_MapsAbove impl_TopMap at *
  by_cases hc : ¬ ChestOK x ∨ idxF (eqI v) x.Stack < 0
  · rw [if_pos hc] at h; cases h
  · rw [if_neg hc]
    have hx : ChestOK x := Classical.not_not.1 fun k => hc (.inl k)
    have h0 : 0 ≤ idxF (eqI v) x.Stack := by have := fun k => hc (.inr k); omega
    obtain ⟨h1, h2⟩ := idx_gt h0
    rw [if_neg (by intro hh; rcases hh with hh | hh; exact hh hx; omega)]
    refine ⟨rfl, ?_⟩
    dsimp only
    constructor
    · intro h3
      rw [show x.Stack.length - 1 = (idxF (eqI v) x.Stack).toNat by omega]; exact h1
    · intro h3
      have hg : x.Stack[x.Stack.length - 1]? = some v := by rw [← h3]; exact gt_get (by omega)
      have := idx_uniq hx.1 hg
      omega
theorem ch_bad1 (hl : ChLaw x s) (h : (!((impl_StepChest x s).2 == (spec_StepChest x s).2)) = true ∨ ¬ (impl_StepChest x s).1 = (spec_StepChest x s).1 ∨ (impl_StepChest x s).2 = true ∧ ¬ ChestOK (impl_StepChest x s).1) : False := by
  obtain ⟨e, h2⟩ := hl
  rw [e] at h
  rcases h with h | h | h
  · simp at h
  · exact h rfl
  · exact h.2 (h2 h.1).1
theorem ch_bad2 (hl : ChLaw x s) (hn : k = (impl_StepChest x s).1.Stack.length) (h : (impl_StepChest x s).2 = true ∧ (¬ IntKind.i64.wrap ((impl_StepChest x s).1.Laid - (impl_StepChest x s).1.Given) = (k : Int) ∨ s.Kind = 5 ∧ ¬ s.Kind = 6 ∧ ¬ (impl_StepChest x s).1.Given = x.Given ∨
    ¬ s.Kind = 5 ∧ (¬ (impl_StepChest x s).1.Laid = x.Laid ∨ ¬ s.Kind = 6 ∧ ¬ (impl_StepChest x s).1.Given = x.Given))) : False := by
  obtain ⟨ho, hw, h5, h6⟩ := hl.2 h.1
  rcases h.2 with h | h | h
  · exact h (by rw [hw, hn])
  · exact h.2.2 (h6 h.2.1)
  · rcases h.2 with q | q
    · exact q (h5 h.1)
    · exact q.2 (h6 q.1)
theorem run_bad (h : (runF x S).2.2 = true) (hi : (k ≤ S.length ∧ 0 ≤ m ∧ m ≤ (k : Int)) ∧ runTo x S k = (o, m) ∧ ChestOK o) (hk : k = S.length) (hb : ¬ m = (runF x S).2.1 ∨ ¬ o = (runF x S).1) : False := by
  have hr := runF_end h hi.2.1 hk
  exact hb.elim (fun h => h hr.2.symm) (fun h => h hr.1.symm)
theorem ab_bad1 (hl : AbLaw x v) (h : ¬ (impl_MapsAbove x v).1 = (spec_MapsAbove x v).1 ∨ (!((impl_MapsAbove x v).2 == (spec_MapsAbove x v).2)) = true) : False := by
  rw [hl.1] at h; exact h.elim (fun h => h rfl) (fun h => by simp at h)
theorem ab_bad2 (hl : AbLaw x v) (h : ¬ (impl_TopMap x).1 = (spec_TopMap x).1 ∨ (!((impl_TopMap x).2 == (spec_TopMap x).2)) = true) : False := by
  rw [hl.2.1] at h; exact h.elim (fun h => h rfl) (fun h => by simp at h)
theorem ab_fin (hl : AbLaw x v) : (!(impl_MapsAbove x v).2) = true ∨ (impl_TopMap x).2 = true ∧ (decide ((impl_MapsAbove x v).1 = 0) == decide ((impl_TopMap x).1 = v)) = true := by
  cases h : (impl_MapsAbove x v).2
  · exact .inl rfl
  · have := hl.2.2 h
    exact .inr ⟨this.1, by simp [this.2]⟩
end
end Go.Proofs.Ytlpapeeaghmjpaa
