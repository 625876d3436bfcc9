/- Plain words on visits. -/
import Derived.Test.YthgbcadgnihdiaaGreatDoorFn
import Derived.Test.YthgbcadgnihdiaaGreatDoorFp
namespace Go.Proofs.YthgbcadgnihdiaaGreatDoor
open Go Go.RowKit Fw
@[reducible] def encI (x : Int) : List Value := [.int .i64 x]
@[reducible] def encS (x : List UInt8) : List Value := [str x]
@[ext] structure Visit where
  Reader : Int
  Seat : Int
  From : Int
  Until : Int
  deriving DecidableEq, Inhabited
@[reducible] def encVisit (x : Visit) : List Value := [.int .i64 x.Reader, .int .i64 x.Seat, .int .i64 x.From, .int .i64 x.Until]
@[reducible] def mkInt (k : Int) : Int := k
@[reducible] def mkVisit (k : Int) : Visit := ⟨k, k + 1, k + 2, k + 3⟩
def VOK (v : Visit) : Prop := (1 ≤ v.Reader ∧ v.Reader ≤ 999) ∧ (1 ≤ v.Seat ∧ v.Seat ≤ 6) ∧ (480 ≤ v.From ∧ v.From ≤ 1200) ∧ (480 ≤ v.Until ∧ v.Until ≤ 1200) ∧ v.From < v.Until
instance (v : Visit) : Decidable (VOK v) := by unfold VOK; infer_instance
def meetV (v : Visit) (a b : Int) : Prop := v.From < b ∧ a < v.Until
instance (v : Visit) (a b : Int) : Decidable (meetV v a b) := by unfold meetV; infer_instance
/-- Two visits that cannot be. -/
def clash (y x : Visit) : Prop := meetV y x.From x.Until ∧ (y.Seat = x.Seat ∨ y.Reader = x.Reader)
instance (y x : Visit) : Decidable (clash y x) := by unfold clash; infer_instance
def VStep (L : List Visit) (j : Nat) (x : Visit) : Prop := VOK x ∧ (∀ y, 0 < j → L[j - 1]? = some y → y.From ≤ x.From) ∧ ∀ i y, i < j → L[i]? = some y → ¬ clash y x
def VsTo (L : List Visit) (k : Nat) : Prop := ∀ j x, j < k → L[j]? = some x → VStep L j x
def VsOK (L : List Visit) : Prop := (∀ j x, L[j]? = some x → VStep L j x) ∧ L.length ≤ 15
noncomputable instance (L : List Visit) : Decidable (VsOK L) := Classical.propDecidable _
def ClTo (L : List Visit) (x : Visit) (j : Nat) : Prop := ∀ i y, i < j → L[i]? = some y → ¬ clash y x
section
variable {L : List Visit} {k j n : Nat} {x y : Visit}
theorem VsTo.zero : VsTo L 0 := fun _ _ h => absurd h (by omega)
theorem ClTo.zero : ClTo L x 0 := fun _ _ h => absurd h (by omega)
theorem ClTo.next (h : ClTo L x j) (hy : L[j]? = some y) (hc : ¬ clash y x) : ClTo L x (j + 1) := by
  intro i z hi hz
  rcases Nat.lt_or_ge i j with h1 | h1
  · exact h i z h1 hz
  · obtain rfl : i = j := by omega
    rw [hy] at hz; injection hz with hz; subst hz; exact hc
theorem cl_any (h : ¬ (L.take k).any (fun y => decide (clash y x)) = true) : ClTo L x k := by
  intro i y hi hy
  have : y ∈ L.take k := List.mem_iff_getElem?.2 ⟨i, by rw [List.getElem?_take, if_pos hi]; exact hy⟩
  simp only [List.any_eq_true, not_exists, not_and, decide_eq_true_eq] at h
  exact h y this
theorem cl_bad (h : (L.take k).any (fun y => decide (clash y x)) = true) (hx : L[k]? = some x) : ¬ VsOK L := by
  simp only [List.any_eq_true, decide_eq_true_eq] at h
  obtain ⟨y, hy, hc⟩ := h
  obtain ⟨i, hi⟩ := List.mem_iff_getElem?.1 hy
  rw [List.getElem?_take] at hi
  split at hi
  · exact fun hr => (hr.1 _ _ hx).2.2 i y (by omega) hi hc
  · cases hi
theorem vs_bad (hx : L[k]? = some x) (h : ¬ VStep L k x) : ¬ VsOK L := fun hr => h (hr.1 _ _ hx)
theorem vs_next (ht : VsTo L k) (hx : L[k]? = some x) (h : VStep L k x) : VsTo L (k + 1) := by
  intro j y hj hy
  rcases Nat.lt_or_ge j k with h1 | h1
  · exact ht j y h1 hy
  · obtain rfl : j = k := by omega
    rw [hx] at hy; injection hy with hy; subst hy; exact h
theorem vstep_of (hok : VOK x) (h0 : ¬ 0 < (k : Int)) (hc : ClTo L x k) : VStep L k x := ⟨hok, fun _ h => absurd h (by omega), hc⟩
theorem vstep_of' (hok : VOK x) (hy : L[k - 1]? = some y) (hle : y.From ≤ x.From) (hc : ClTo L x k) : VStep L k x :=
  ⟨hok, fun z _ hz => by rw [hy] at hz; injection hz with hz; subst hz; exact hle, hc⟩
theorem vs_end (ht : VsTo L k) (hn : n = L.length) (hk : n ≤ k ∨ 15 < k) : (n : Int) ≤ 15 ↔ VsOK L :=
  ⟨fun h' => ⟨fun j x hx => ht j x (by have := (List.getElem?_eq_some_iff.1 hx).1; omega) hx, by omega⟩, fun h => by have := h.2; omega⟩
theorem vs_rng (h : VsOK L) (hx : L[k]? = some x) : ((1 : Int) ≤ x.Reader ∧ x.Reader ≤ 999) ∧ ((1 : Int) ≤ x.Seat ∧ x.Seat ≤ 6) ∧ ((480 : Int) ≤ x.From ∧ x.From ≤ 1200) ∧ ((480 : Int) ≤ x.Until ∧ x.Until ≤ 1200) ∧ x.From < x.Until := (h.1 k x hx).1
theorem vs_len (h : VsOK L) : L.length ≤ 15 := h.2
end
/-- The visit of a reader in a minute. -/
def atV (r m : Int) (v : Visit) : Bool := decide (v.Reader = r ∧ v.From ≤ m ∧ m ≤ v.Until - 1)
def atW (r m : Int) (v : Visit) : Bool := decide (v.Reader = r ∧ v.From ≤ m ∧ m ≤ IntKind.i64.wrap (v.Until - 1))
theorem atW_eq {L : List Visit} (h : VsOK L) (r m : Int) : idxF (atW r m) L = idxF (atV r m) L :=
  idx_congr fun j x hx => by
    have := vs_rng h hx
    unfold atW atV
    rw [wrap64_in (by omega)]
noncomputable def chg (L : List Visit) (r m s : Int) : Option (List Visit) :=
  if VsOK L ∧ 480 ≤ m ∧ m ≤ 1200 ∧ 0 ≤ idxF (atV r m) L then
    match L[(idxF (atV r m) L).toNat]? with
    | some x => if x.Seat = s then none else if VsOK (L.set (idxF (atV r m) L).toNat { x with Seat := s }) then some (L.set (idxF (atV r m) L).toNat { x with Seat := s }) else none
    | none => none
  else none
section
variable {L : List Visit} {r m s : Int} {x : Visit}
theorem chg_no (h : ¬ (VsOK L ∧ 480 ≤ m ∧ m ≤ 1200 ∧ 0 ≤ idxF (atV r m) L)) : chg L r m s = none := by unfold chg; rw [if_neg h]
variable {i : Int}
theorem chg_same (hx : L[i.toNat]? = some x) (hi : i = idxF (atV r m) L) (h : x.Seat = s) : chg L r m s = none := by subst hi; unfold chg; rw [hx]; simp [h]
theorem chg_bad (hx : L[i.toNat]? = some x) (hi : i = idxF (atV r m) L) (h : ¬ VsOK (L.set i.toNat { x with Seat := s })) : chg L r m s = none := by subst hi; unfold chg; rw [hx]; simp [h]
theorem chg_yes (hx : L[i.toNat]? = some x) (hi : i = idxF (atV r m) L) (h : VsOK L ∧ 480 ≤ m ∧ m ≤ 1200 ∧ 0 ≤ i) (hs : ¬ x.Seat = s) (hv : VsOK (L.set i.toNat { x with Seat := s })) :
    chg L r m s = some (L.set i.toNat { x with Seat := s }) := by subst hi; unfold chg; rw [if_pos h, hx]; simp [hs, hv]
theorem chg_len (L : List Visit) (r m s : Int) : ((chg L r m s).getD []).length ≤ 15 := by
  unfold chg
  split
  · split
    · split
      · simp
      · split
        · rename_i h; exact h.2
        · simp
    · simp
  · simp
theorem chg_noW (h : ¬ (VsOK L ∧ (1 ≤ r ∧ r ≤ 999) ∧ (480 ≤ m ∧ m ≤ 1200) ∧ 0 ≤ idxF (atW r m) L)) (ha : VsOK L → 0 ≤ idxF (atV r m) L → 1 ≤ r ∧ r ≤ 999) : chg L r m s = none :=
  chg_no fun k => h ⟨k.1, ha k.1 k.2.2.2, ⟨k.2.1, k.2.2.1⟩, by rw [atW_eq k.1]; exact k.2.2.2⟩
theorem at_rdr {L : List Visit} (hv : VsOK L) (h : 0 ≤ idxF (atV r m) L) : 1 ≤ r ∧ r ≤ 999 := by
  obtain ⟨x, hx, hp, _⟩ := idx_spec rfl h
  have := vs_rng hv hx
  unfold atV at hp
  simp at hp; omega
theorem chg_len' (h : VsOK L) : L.length ≤ 15 := h.2
end
noncomputable def lvs (L : List Visit) (r m : Int) : Option (List Visit) :=
  if VsOK L ∧ 480 ≤ m ∧ m ≤ 1200 ∧ 0 ≤ idxF (atV r m) L then
    match L[(idxF (atV r m) L).toNat]? with
    | some x => if x.From = m then some (L.take (idxF (atV r m) L).toNat ++ L.drop (idxF (atV r m) L + 1).toNat) else some (L.set (idxF (atV r m) L).toNat { x with Until := m })
    | none => none
  else none
section
variable {L : List Visit} {r m i : Int} {x : Visit}
theorem lvs_no (h : ¬ (VsOK L ∧ 480 ≤ m ∧ m ≤ 1200 ∧ 0 ≤ idxF (atV r m) L)) : lvs L r m = none := by unfold lvs; rw [if_neg h]
theorem lvs_noW (h : ¬ (VsOK L ∧ (1 ≤ r ∧ r ≤ 999) ∧ (480 ≤ m ∧ m ≤ 1200) ∧ 0 ≤ idxF (atW r m) L)) : lvs L r m = none :=
  lvs_no fun k => h ⟨k.1, at_rdr k.1 k.2.2.2, ⟨k.2.1, k.2.2.1⟩, by rw [atW_eq k.1]; exact k.2.2.2⟩
theorem lvs_del (hx : L[i.toNat]? = some x) (hi : i = idxF (atV r m) L) (h : VsOK L ∧ 480 ≤ m ∧ m ≤ 1200 ∧ 0 ≤ i) (he : x.From = m) : lvs L r m = some (L.take i.toNat ++ L.drop (i + 1).toNat) := by
  subst hi; unfold lvs; rw [if_pos h, hx]; simp [he]
theorem lvs_set (hx : L[i.toNat]? = some x) (hi : i = idxF (atV r m) L) (h : VsOK L ∧ 480 ≤ m ∧ m ≤ 1200 ∧ 0 ≤ i) (he : ¬ x.From = m) : lvs L r m = some (L.set i.toNat { x with Until := m }) := by
  subst hi; unfold lvs; rw [if_pos h, hx]; simp [he]
theorem lvs_len (L : List Visit) (r m : Int) : ((lvs L r m).getD []).length ≤ 15 := by
  unfold lvs
  split
  · rename_i h
    have := h.1.2
    split
    · split
      · simp; omega
      · simpa using this
    · simp
  · simp
end
end Go.Proofs.YthgbcadgnihdiaaGreatDoor
