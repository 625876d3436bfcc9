/- Dust in chests: plain words. -/
import Derived.Test.YtlpapeeaghmjpaaDoorSc
import Derived.Test.YtlpapeeaghmjpaaDoorDa
import Derived.Test.YtlpapeeaghmjpaaDoorWa
import Derived.Test.YtlpapeeaghmjpaaDoorG29h
namespace Go.Proofs.YtlpapeeaghmjpaaDoor
open Go Go.RowKit Fw
section
variable {x o y : Chest} {S : List ChestStep} {k : Nat} {m n v : Int} {s : ChestStep} {L : List Int} {a : List UInt8}
theorem nil_chest : ChestOK ⟨0, 0, [], 0, 0, 0⟩ := by
  refine ⟨fun j x h => by simp at h, ?_⟩
  simp
theorem chest_key (h : ChestOK o) : 0 ≤ o.Key ∧ o.Key ≤ 9999 := by
  obtain ⟨-, -, -, h1, h2, -⟩ := h
  by_cases k : o.State = 2
  · have := h1 k; omega
  · have := h2 k; omega
theorem chest_laid (h : ChestOK o) : o.Stack.length ≤ 10 ∧ 0 ≤ o.Laid ∧ o.Laid ≤ 9999 := by have := chest_rng h; omega
theorem impl_okC (h : (impl_StepChest x s).2 = true) : ChestOK (impl_StepChest x s).1 ∧ ChestOK x := by
  rw [impl_step] at *
  split
  · rename_i hx; rw [if_pos hx] at h; exact ⟨stepC_ok h, hx⟩
  · rename_i hx; rw [if_neg hx] at h; cases h
theorem spec_okC (h : (spec_StepChest x s).2 = true) : ChestOK (spec_StepChest x s).1 := by
  rw [← step_eq] at *; exact (impl_okC h).1
/-- The dust after some more. -/
noncomputable def dustN (x : Chest) (v : Int) : Int := if ChestOK x ∧ (1 ≤ v ∧ v ≤ 100) then (if x.State = 1 then min 100 (x.Dust + v) else min 100 (x.Dust + v / 10)) else 0
theorem dust_no (h : ¬ (ChestOK x ∧ (1 ≤ v ∧ v ≤ 100))) : dustN x v = 0 := if_neg h
theorem dust_impl (h : ChestOK x) (h2 : 1 ≤ v ∧ v ≤ 100) : impl_Chest_dusted x v = dustN x v := by unfold dustN; rw [if_pos ⟨h, h2⟩]; rfl
theorem dust_spec (h : ChestOK x) (h2 : 1 ≤ v ∧ v ≤ 100) : (spec_l21Dusty x v).1.Dust = dustN x v := by
  unfold dustN; rw [if_pos ⟨h, h2⟩]; unfold spec_l21Dusty; rw [if_neg (by omega)]; split <;> rfl
theorem dust_rng (h : ChestOK x) (h2 : 1 ≤ v ∧ v ≤ 100) : (0 ≤ dustN x v ∧ dustN x v ≤ 100) ∧ x.Dust ≤ dustN x v ∧ dustN x v ≤ x.Dust + v := by
  have hr := chest_rng h
  unfold dustN; rw [if_pos ⟨h, h2⟩]; split <;> omega
theorem chest_dust (h : ChestOK x) (hn : 0 ≤ n ∧ n ≤ 100) : ChestOK ⟨x.State, x.Key, x.Stack, n, x.Laid, x.Given⟩ := ⟨h.1, h.2.1, h.2.2.1, h.2.2.2.1, h.2.2.2.2.1, hn, h.2.2.2.2.2.2⟩
/-- What dust does. -/
def DuLaw (x : Chest) (v : Int) : Prop := ChestOK x → 1 ≤ v ∧ v ≤ 100 → (impl_StepChest x ⟨7, v⟩).2 = true ∧ (impl_StepChest x ⟨7, v⟩).1.Dust = dustN x v ∧ x.Dust ≤ dustN x v ∧ dustN x v ≤ x.Dust + v
theorem du_law (x : Chest) (v : Int) : DuLaw x v := fun h h2 => by
  have hr := dust_rng h h2
  have e : impl_StepChest x ⟨7, v⟩ = stepC x ⟨7, v⟩ := by rw [impl_step, if_pos h]
  have hs : impl_isChestStep ⟨7, v⟩ = true := by unfold impl_isChestStep; simp; omega
  have hd := dust_spec h h2
  have hm : spec_l21Make x ⟨7, v⟩ = (⟨x.State, x.Key, x.Stack, dustN x v, x.Laid, x.Given⟩, true) := by
    have e2 : spec_l21Dusty x v = (⟨x.State, x.Key, x.Stack, dustN x v, x.Laid, x.Given⟩, true) := by
      unfold dustN; rw [if_pos ⟨h, h2⟩]; unfold spec_l21Dusty; rw [if_neg (by omega)]; split <;> rfl
    have hc := chest_dust h hr.1
    unfold spec_l21Make
    simp [e2, hc]
  rw [e]
  unfold stepC
  rw [if_pos ⟨hs, by rw [hm]⟩, hm]
  exact ⟨rfl, rfl, hr.2⟩
/-- The steps until a chest is open. -/
noncomputable def openN (x : Chest) : Int := if ChestOK x then (if x.State = 1 then 0 else if x.State = 0 then 1 else 2) else 0
theorem open_no (h : ¬ ChestOK x) : openN x = 0 := if_neg h
theorem open_1 (h : ChestOK x) (h1 : x.State = 1) : openN x = 0 := by unfold openN; rw [if_pos h, if_pos h1]
theorem open_0 (h : ChestOK x) (h1 : x.State = 0) : openN x = 1 := by unfold openN; rw [if_pos h, if_neg (by omega), if_pos h1]
theorem open_2 (h : ChestOK x) (h1 : ¬ x.State = 1) (h2 : ¬ x.State = 0) : openN x = 2 := by unfold openN; rw [if_pos h, if_neg h1, if_neg h2]
theorem open_lit (h : ChestOK x) (hx : ([1, 0, 2] : List Int)[x.State.toNat]? = some n) : n = openN x := by
  have hr := chest_rng h
  have h3 : x.State = 0 ∨ x.State = 1 ∨ x.State = 2 := by omega
  rcases h3 with e | e | e
  · rw [open_0 h e]; rw [e] at hx; simpa using hx.symm
  · rw [open_1 h e]; rw [e] at hx; simpa using hx.symm
  · rw [open_2 h (by omega) (by omega)]; rw [e] at hx; simpa using hx.symm
theorem pull_yes (h : ChestOK x) (hs : x.State = 0) : stepC x ⟨1, 0⟩ = (⟨1, x.Key, x.Stack, x.Dust, x.Laid, x.Given⟩, true) := by
  have hc : ChestOK ⟨1, x.Key, x.Stack, x.Dust, x.Laid, x.Given⟩ := ⟨h.1, h.2.1, by simp, by simp, fun _ => h.2.2.2.2.1 (by omega), h.2.2.2.2.2⟩
  have hm : spec_l21Make x ⟨1, 0⟩ = (⟨1, x.Key, x.Stack, x.Dust, x.Laid, x.Given⟩, true) := by unfold spec_l21Make; simp [hs, hc]
  unfold stepC; rw [if_pos ⟨by unfold impl_isChestStep; simp, by rw [hm]⟩, hm]
theorem pull_no (hs : ¬ x.State = 0) : (stepC x ⟨1, 0⟩).2 = false := by
  unfold stepC; rw [if_neg]
  rintro ⟨-, h⟩
  unfold spec_l21Make at h; simp [hs] at h
theorem free_yes (h : ChestOK x) (hs : x.State = 2) : stepC x ⟨4, x.Key⟩ = (⟨0, 0, x.Stack, x.Dust, x.Laid, x.Given⟩, true) := by
  have hc : ChestOK ⟨0, 0, x.Stack, x.Dust, x.Laid, x.Given⟩ := ⟨h.1, h.2.1, by simp, by simp, fun _ => rfl, h.2.2.2.2.2⟩
  have hk := h.2.2.2.1 hs
  have hm : spec_l21Make x ⟨4, x.Key⟩ = (⟨0, 0, x.Stack, x.Dust, x.Laid, x.Given⟩, true) := by unfold spec_l21Make; simp [hs, hc]
  unfold stepC; rw [if_pos ⟨by unfold impl_isChestStep; simp; omega, by rw [hm]⟩, hm]
theorem free_no (h : ChestOK x) (hs : ¬ x.State = 2) : (stepC x ⟨4, x.Key⟩).2 = false := by
  have hk := h.2.2.2.2.1 hs
  unfold stepC; rw [if_neg]
  rintro ⟨h1, -⟩
  unfold impl_isChestStep at h1; simp [hk] at h1
/-- The told steps open a chest. -/
def OpLaw (x : Chest) : Prop := ChestOK x → (runF x [⟨4, x.Key⟩, ⟨1, 0⟩]).2.2 = true ∧ (runF x [⟨4, x.Key⟩, ⟨1, 0⟩]).2.1 = openN x ∧ (runF x [⟨4, x.Key⟩, ⟨1, 0⟩]).1.State = 1
theorem op_law (x : Chest) : OpLaw x := fun h => by
  have hr := chest_rng h
  have e : runF x [⟨4, x.Key⟩, ⟨1, 0⟩] = ((runC (runC (x, 0) ⟨4, x.Key⟩) ⟨1, 0⟩).1, (runC (runC (x, 0) ⟨4, x.Key⟩) ⟨1, 0⟩).2, true) := by
    unfold runF; rw [if_pos ⟨h, by simp⟩]; rfl
  rw [e]
  refine ⟨rfl, ?_⟩
  dsimp only
  by_cases h2 : x.State = 2
  · have hc : ChestOK ⟨0, 0, x.Stack, x.Dust, x.Laid, x.Given⟩ := ⟨h.1, h.2.1, by simp, by simp, fun _ => rfl, h.2.2.2.2.2⟩
    have e1 : runC (x, 0) ⟨4, x.Key⟩ = (⟨0, 0, x.Stack, x.Dust, x.Laid, x.Given⟩, 1) := by unfold runC; dsimp only; rw [free_yes h h2]; simp
    rw [e1, open_2 h (by omega) (by omega)]
    unfold runC; dsimp only; rw [pull_yes hc rfl]; simp
  · have e1 : runC (x, 0) ⟨4, x.Key⟩ = (x, 0) := by unfold runC; dsimp only; rw [free_no h h2]; simp
    rw [e1]
    by_cases h1 : x.State = 1
    · rw [open_1 h h1]
      unfold runC; dsimp only; rw [pull_no (by omega)]; simp [h1]
    · rw [open_0 h (by omega)]
      unfold runC; dsimp only; rw [pull_yes h (by omega)]; simp
def TopLaw (x : Chest) : Prop := impl_TopMap x = spec_TopMap x
theorem du_bad (hl : DuLaw x v) (hc : ChestOK x) (hv : 1 ≤ v ∧ v ≤ 100) (h : (!(impl_StepChest x ⟨7, v⟩).2) = true ∨ ¬ (impl_StepChest x ⟨7, v⟩).1.Dust = dustN x v ∨ dustN x v < x.Dust ∨ x.Dust + v < dustN x v) : False := by
  obtain ⟨h1, h2, h3, h4⟩ := hl hc hv
  rcases h with h | h | h | h
  · rw [h1] at h; cases h
  · exact h h2
  · omega
  · omega
theorem op_bad (hl : OpLaw x) (hc : ChestOK x) (h : (!(runF x [⟨4, x.Key⟩, ⟨1, 0⟩]).2.2) = true ∨ ¬ (runF x [⟨4, x.Key⟩, ⟨1, 0⟩]).2.1 = openN x ∨ ¬ (runF x [⟨4, x.Key⟩, ⟨1, 0⟩]).1.State = 1) : False := by
  obtain ⟨h1, h2, h3⟩ := hl hc
  rcases h with h | h | h
  · rw [h1] at h; cases h
  · exact h h2
  · exact h h3
theorem top_bad (hl : TopLaw x) (h : ¬ (impl_TopMap x).1 = (spec_TopMap x).1 ∨ (!((impl_TopMap x).2 == (spec_TopMap x).2)) = true) : False := by
  unfold TopLaw at hl; rw [hl] at h; exact h.elim (fun h => h rfl) (fun h => by simp at h)
/-- The text of a chest. -/
def chT (x : Chest) : Nat → List UInt8
  | 0 => gt ([([115, 104, 117, 116] : List UInt8), ([111, 112, 101, 110] : List UInt8), ([108, 111, 99, 107, 101, 100] : List UInt8)] : List (List UInt8)) x.State.toNat ++ ([32, 100, 117, 115, 116, 32] : List UInt8) ++ Lib.itoa x.Dust
  | k + 1 => chT x k ++ (([32] : List UInt8) ++ Lib.itoa (gt x.Stack k))
noncomputable def chX (x : Chest) : List UInt8 := if ChestOK x then chT x x.Stack.length else []
theorem chX_no (h : ¬ ChestOK x) : [] = chX x := (if_neg h).symm
theorem chX_yes (h : ChestOK x) (hk : k = x.Stack.length) : chT x k = chX x := by subst hk; exact (if_pos h).symm
theorem ch_zero (h : ([([115, 104, 117, 116] : List UInt8), ([111, 112, 101, 110] : List UInt8), ([108, 111, 99, 107, 101, 100] : List UInt8)] : List (List UInt8))[x.State.toNat]? = some a) : a ++ ([32, 100, 117, 115, 116, 32] : List UInt8) ++ Lib.itoa x.Dust = chT x 0 := by
  unfold chT; rw [gt_eq h]
theorem ch_next (h : x.Stack[k]? = some v) : chT x k ++ (([32] : List UInt8) ++ Lib.itoa v) = chT x (k + 1) := by
  show _ = chT x k ++ _; rw [gt_eq h]
theorem ch_nextS (h : x.Stack[k]? = some v) : chT x k ++ ([32] : List UInt8) ++ Lib.itoa v = chT x (k + 1) := by
  rw [← ch_next h, List.append_assoc]
theorem ch_len (h : ChestOK x) : ∀ k, k ≤ x.Stack.length → (chT x k).length ≤ 40 + 22 * k
  | 0, _ => by
    have hr := chest_rng h
    have h1 := itoa_len (n := x.Dust) (by omega) (by omega)
    have h3 : x.State = 0 ∨ x.State = 1 ∨ x.State = 2 := by omega
    unfold chT
    rcases h3 with e | e | e <;> rw [e] <;> simp [gt] <;> omega
  | k + 1, hk => by
    have h1 := ch_len h k (by omega)
    have h2 := h.1 k _ (gt_get (by omega))
    have h3 := itoa_len (n := gt x.Stack k) (by have := h2.1; omega) (by have := h2.1; omega)
    show (chT x k ++ _).length ≤ _
    simp only [List.length_append, List.length_cons, List.length_nil]; omega
end
end Go.Proofs.YtlpapeeaghmjpaaDoor
