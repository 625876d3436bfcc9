/- Plain words on chests. -/
import Derived.Test.YtlpapeeaghmjpaaDoorFn
import Derived.Test.YtlpapeeaghmjpaaDoorFp
namespace Go.Proofs.YtlpapeeaghmjpaaDoor
open Go Go.RowKit Fw
@[reducible] def encI (x : Int) : List Value := [.int .i64 x]
@[reducible] def encS (x : List UInt8) : List Value := [str x]
@[ext] structure Chest where
  State : Int
  Key : Int
  Stack : List Int
  Dust : Int
  Laid : Int
  Given : Int
  deriving DecidableEq, Inhabited
@[ext] structure ChestStep where
  Kind : Int
  Value : Int
  deriving DecidableEq, Inhabited
@[reducible] def encChestStep (x : ChestStep) : List Value := [.int .i64 x.Kind, .int .i64 x.Value]
@[reducible] def mkInt (k : Int) : Int := k
@[reducible] def mkChestStep (k : Int) : ChestStep := ⟨k, k + 1⟩
@[ext] structure ScanJob where
  State : Int
  Tiles : List Int
  Next : Int
  Fails : Int
  Size : Int
  deriving DecidableEq, Inhabited
@[ext] structure ScanStep where
  Kind : Int
  Value : Int
  deriving DecidableEq, Inhabited
@[reducible] def encScanStep (x : ScanStep) : List Value := [.int .i64 x.Kind, .int .i64 x.Value]
@[reducible] def mkScanStep (k : Int) : ScanStep := ⟨k, k + 1⟩
theorem gt_get {α : Type} [Inhabited α] {a : List α} {i : Nat} (h : i < a.length) : a[i]? = some (gt a i) := by simp [gt, List.getD, List.getElem?_eq_getElem h]
theorem bnot_f {b : Bool} (h : (!b) = false) : b = true := by simpa using h
theorem bnot_t {b : Bool} (h : (!b) = true) : b = false := by simpa using h
theorem beq_iff {p q : Prop} [Decidable p] [Decidable q] (h : ¬ ((!((decide p) == (decide q))) = true)) : p ↔ q := by
  by_cases hp : p <;> by_cases hq : q <;> simp_all
theorem tk_le {α : Type} (L : List α) (k : Nat) : (L.take k).length ≤ L.length := by simp; omega
theorem bnot_n {b : Bool} (h : ¬ ((!b) = true)) : b = true := by simpa using h
def eqI (v : Int) : Int → Bool := fun u => decide (u = v)
def StStep (L : List Int) (k : Nat) (x : Int) : Prop := (1 ≤ x ∧ x ≤ 999) ∧ x ∉ L.take k
def StTo (L : List Int) (k : Nat) : Prop := ∀ j x, j < k → L[j]? = some x → StStep L j x
def StackOK (L : List Int) : Prop := ∀ j x, L[j]? = some x → StStep L j x
noncomputable instance (L : List Int) : Decidable (StackOK L) := Classical.propDecidable _
def ChestOK (x : Chest) : Prop := StackOK x.Stack ∧ x.Stack.length ≤ 10 ∧ (0 ≤ x.State ∧ x.State ≤ 2) ∧ (x.State = 2 → 1 ≤ x.Key ∧ x.Key ≤ 9999) ∧ (¬ x.State = 2 → x.Key = 0) ∧ (0 ≤ x.Dust ∧ x.Dust ≤ 100) ∧ (0 ≤ x.Laid ∧ x.Laid ≤ 9999) ∧ (0 ≤ x.Given ∧ x.Given ≤ 9999) ∧ x.Laid - x.Given = (x.Stack.length : Int)
noncomputable instance (x : Chest) : Decidable (ChestOK x) := Classical.propDecidable _
section
variable {L : List Int} {k n : Nat} {x : Int}
theorem mem_idx : x ∈ L ↔ 0 ≤ idxF (eqI x) L := by
  rw [any_idx]; simp [List.any_eq_true, eqI]
theorem StTo.zero : StTo L 0 := fun _ _ h => absurd h (by omega)
theorem StTo.next (h : StTo L k) (hx : L[k]? = some x) (hs : StStep L k x) : StTo L (k + 1) := by
  intro j y hj hy
  rcases Nat.lt_or_ge j k with h1 | h1
  · exact h j y h1 hy
  · obtain rfl : j = k := by omega
    rw [hx] at hy; injection hy with hy; subst hy; exact hs
theorem StTo.end_ (h : StTo L k) (hk : L.length ≤ k) : StackOK L := fun j x hx => h j x (by have := (List.getElem?_eq_some_iff.1 hx).1; omega) hx
theorem st_step (h : ¬ (¬ (1 ≤ x ∧ x ≤ 999) ∨ x ∈ L.take k)) : StStep L k x := ⟨Classical.not_not.1 fun h1 => h (.inl h1), fun h1 => h (.inr h1)⟩
theorem st_bad (hx : L[k]? = some x) (h : ¬ (1 ≤ x ∧ x ≤ 999) ∨ x ∈ L.take k) : ¬ StackOK L := fun hs => h.elim (fun h1 => h1 (hs k x hx).1) (fun h1 => (hs k x hx).2 h1)
theorem idx_first (hx : L[k]? = some x) : idxF (eqI x) L = (k : Int) ↔ x ∉ L.take k := by
  constructor
  · intro h hm
    obtain ⟨j, hj⟩ := List.mem_iff_getElem?.1 hm
    rw [List.getElem?_take] at hj
    split at hj
    · rename_i hlt
      obtain ⟨y, hy, hp, hn⟩ := idx_spec (p := eqI x) rfl (by omega : 0 ≤ idxF (eqI x) L)
      have := hn j x (by omega) hj
      simp [eqI] at this
    · cases hj
  · intro h
    refine (idx_at (fun j y hj hy => ?_) hx (by simp [eqI])).symm
    simp only [eqI, decide_eq_false_iff_not]
    rintro rfl
    exact h (List.mem_iff_getElem?.2 ⟨j, by rw [List.getElem?_take, if_pos hj]; exact hy⟩)
theorem st_step' (hx : L[k]? = some x) (h : ¬ (¬ (1 ≤ x ∧ x ≤ 999) ∨ ¬ idxF (eqI x) L = (k : Int))) : StStep L k x :=
  ⟨Classical.not_not.1 fun h1 => h (.inl h1), (idx_first hx).1 (Classical.not_not.1 fun h1 => h (.inr h1))⟩
theorem st_bad' (hx : L[k]? = some x) (h : ¬ (1 ≤ x ∧ x ≤ 999) ∨ ¬ idxF (eqI x) L = (k : Int)) : ¬ StackOK L :=
  fun hs => h.elim (fun h1 => h1 (hs k x hx).1) (fun h1 => h1 ((idx_first hx).2 (hs k x hx).2))
theorem chest_bad {c : Chest} (h : ¬ StackOK c.Stack) : ¬ ChestOK c := fun k => h k.1
theorem chest_len {c : Chest} (h : ChestOK c) : c.Stack.length ≤ 10 := h.2.1
theorem chest_rng {c : Chest} (h : ChestOK c) : c.Stack.length ≤ 10 ∧ (0 ≤ c.State ∧ c.State ≤ 2) ∧ (0 ≤ c.Dust ∧ c.Dust ≤ 100) ∧ (0 ≤ c.Laid ∧ c.Laid ≤ 9999) ∧ (0 ≤ c.Given ∧ c.Given ≤ 9999) ∧ c.Laid - c.Given = (c.Stack.length : Int) :=
  ⟨h.2.1, h.2.2.1, h.2.2.2.2.2.1, h.2.2.2.2.2.2.1, h.2.2.2.2.2.2.2.1, h.2.2.2.2.2.2.2.2⟩
end
/-- The elements that are not 'p', the first 'k' of them seen. -/
def keep (p : Int → Bool) (L : List Int) : List Int := L.filter fun x => !p x
section
variable {p : Int → Bool} {L M : List Int} {i j : Nat} {x : Int}
theorem keep_len : (keep p L).length ≤ L.length := List.length_filter_le _ _
theorem keep_none (h : NoneTo p L L.length) : keep p L = L := by
  unfold keep
  rw [List.filter_eq_self]
  intro x hx
  obtain ⟨j, hj⟩ := List.mem_iff_getElem?.1 hx
  simp [h j x (List.getElem?_eq_some_iff.1 hj).1 hj]
theorem keep_all (h : -1 = idxF p L) : L = keep p L := by
  refine (keep_none fun j x _ hx => ?_).symm
  cases hp : p x
  · rfl
  · exfalso
    have : 0 ≤ idxF p L := any_idx.2 (List.any_eq_true.2 ⟨x, List.mem_iff_getElem?.2 ⟨j, hx⟩, hp⟩)
    omega
theorem keep_snoc (hx : L[j]? = some x) : keep p (L.take (j + 1)) = keep p (L.take j) ++ if p x then [] else [x] := by
  rw [List.take_add_one, hx]
  unfold keep
  rw [List.filter_append]
  cases hp : p x <;> simp [hp]
theorem keep_first (h : 0 ≤ idxF p L) : keep p (L.take (idxF p L).toNat) = L.take (idxF p L).toNat ∧ keep p (L.take ((idxF p L).toNat + 1)) = L.take (idxF p L).toNat := by
  obtain ⟨x, hx, hp, hn⟩ := idx_spec (p := p) rfl h
  have h1 : keep p (L.take (idxF p L).toNat) = L.take (idxF p L).toNat := by
    unfold keep
    rw [List.filter_eq_self]
    intro y hy
    obtain ⟨k, hk⟩ := List.mem_iff_getElem?.1 hy
    rw [List.getElem?_take] at hk
    split at hk
    · rename_i hlt; simp [hn k y hlt hk]
    · cases hk
  exact ⟨h1, by rw [keep_snoc hx, h1, hp]; simp⟩
theorem del_end (h : i < j ∧ j ≤ L.length ∧ M.length = L.length ∧ M.take i = keep p (L.take j) ∧ M.drop j = L.drop j) (hj : L.length ≤ j) : M.take i = keep p L := by
  rw [h.2.2.2.1, List.take_of_length_le hj]
theorem del_get (h : M.drop j = L.drop j) (hx : M[j]? = some x) : L[j]? = some x := by
  have := congrArg (·[0]?) h
  simpa [hx] using this.symm
theorem del_drop1 (h : M.drop j = L.drop j) : M.drop (j + 1) = L.drop (j + 1) := by
  have := congrArg (List.drop 1) h
  simpa [List.drop_drop] using this
theorem del_keep (h : i < j ∧ j ≤ L.length ∧ M.length = L.length ∧ M.take i = keep p (L.take j) ∧ M.drop j = L.drop j) (hj : j < L.length) (hx : M[j]? = some x) (hp : p x = false) :
    i + 1 < j + 1 ∧ j + 1 ≤ L.length ∧ (M.set i x).length = L.length ∧ (M.set i x).take (i + 1) = keep p (L.take (j + 1)) ∧ (M.set i x).drop (j + 1) = L.drop (j + 1) := by
  obtain ⟨h1, h2, h3, h4, h5⟩ := h
  refine ⟨by omega, by omega, by simpa using h3, ?_, ?_⟩
  · rw [keep_snoc (del_get h5 hx), ← h4, hp, List.take_add_one, List.getElem?_set_self (by omega), List.take_set_of_le (Nat.le_refl _)]
    simp
  · rw [List.drop_set_of_lt (by omega)]; exact del_drop1 h5
theorem del_drop (h : i < j ∧ j ≤ L.length ∧ M.length = L.length ∧ M.take i = keep p (L.take j) ∧ M.drop j = L.drop j) (hj : j < L.length) (hx : M[j]? = some x) (hp : p x = true) :
    i < j + 1 ∧ j + 1 ≤ L.length ∧ M.length = L.length ∧ M.take i = keep p (L.take (j + 1)) ∧ M.drop (j + 1) = L.drop (j + 1) := by
  obtain ⟨h1, h2, h3, h4, h5⟩ := h
  exact ⟨by omega, by omega, h3, by rw [keep_snoc (del_get h5 hx), ← h4, hp]; simp, del_drop1 h5⟩
end
end Go.Proofs.YtlpapeeaghmjpaaDoor
