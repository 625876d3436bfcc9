/- Plain words on the steps of a library. -/
import Derived.Test.YtgobbcilgcbkaaaDoorUa
namespace Go.Proofs.YtgobbcilgcbkaaaDoor
open Go Go.RowKit Fw
theorem Fw.r_nilc {P : Program} {n : Nat} {f : Env} {w : World} {d : Option Tmp} {t : TypeId} {p : String} {af : Array Edge} {g : Option (Nat × Bool)} {x : Operand} {a : Addr} (hx : ev n f x = .pointer (some a)) : Run P ⟨d, .nilCheck x, t, p, af, g⟩ n f w (.pointer (some a)) := by
  simp [Run, execOp, hx]
section
variable {α β : Type} [Inhabited α] {p q : α → Bool} {L : List α} {k : Nat} {c : α → β → Int} {t : β}
theorem tw_len : ∀ {L : List α} {k : Nat}, (∀ j, j < k → p (gt L j) = true) → k ≤ L.length → (k = L.length ∨ p (gt L k) = false) → (L.takeWhile p).length = k
  | [], k, _, hk, _ => by simp at hk; simp [hk]
  | x :: r, 0, _, _, h => by
    rcases h with h | h
    · simp at h
    · have : p x = false := by simpa [gt] using h
      simp [List.takeWhile, this]
  | x :: r, k + 1, h, hk, hx => by
    have h0 : p x = true := by simpa [gt] using h 0 (by omega)
    have e : ∀ j, gt (x :: r) (j + 1) = gt r j := fun j => by simp [gt]
    have := tw_len (L := r) (k := k) (fun j hj => by have := h (j + 1) (by omega); rwa [e] at this) (by simpa using hk) (by
      rcases hx with hx | hx
      · exact .inl (by simpa using hx)
      · exact .inr (by rwa [e] at hx))
    simp [List.takeWhile, h0, this]
omit [Inhabited α] in
theorem tw_le (p : α → Bool) (L : List α) : (L.takeWhile p).length ≤ L.length := (List.takeWhile_sublist p).length_le
/-- What the search finds in a sorted list. -/
theorem bs_spec (hq : ∀ x, q x = true ↔ c x t = 0) (hs : ∀ i j, i < j → j < L.length → c (gt L j) t ≤ 0 → c (gt L i) t < 0) :
    bsP c t L = (L.takeWhile (fun x => decide (c x t < 0))).length ∧ (bsF c t L ↔ 0 ≤ idxF q L) ∧ (bsF c t L → (bsP c t L : Int) = idxF q L) := by
  have hp := bsr_spec (p := fun x => decide (c x t < 0)) (L := L) (fun a b hab hb hpb => by
    simp only [decide_eq_true_eq] at hpb ⊢
    rcases Nat.lt_or_ge a b with h1 | h1
    · exact hs a b h1 hb (by omega)
    · obtain rfl : a = b := by omega
      exact hpb) L.length 0 L.length (by omega) (by omega) (by omega) (fun a ha => absurd ha (by omega)) (fun a h1 h2 => absurd h2 (by omega))
  have hle := bsP_le (c := c) (t := t) (L := L)
  have h3 : bsF c t L → (bsP c t L : Int) = idxF q L := by
    rintro ⟨h1, h2⟩
    have hlt : bsP c t L < L.length := by omega
    refine idx_at (k := bsP c t L) (fun j x hj hx => ?_) (gt_get hlt) ((hq _).2 h2)
    have := hp.2.1 j hj
    simp only [decide_eq_true_eq, gt_eq hx] at this
    cases hqx : q x
    · rfl
    · have := (hq x).1 hqx; omega
  refine ⟨(tw_len hp.2.1 hle ?_).symm, ⟨fun h => by have := h3 h; omega, fun h => ?_⟩, h3⟩
  · rcases Nat.lt_or_ge (bsP c t L) L.length with h | h
    · exact .inr (hp.2.2 _ (Nat.le_refl _) h)
    · exact .inl (by omega)
  · obtain ⟨x, hx, hqx, _⟩ := idx_spec (p := q) (L := L) rfl h
    generalize (idxF q L).toNat = i at *
    have hil := (List.getElem?_eq_some_iff.1 hx).1
    have hg := gt_eq hx
    have h0 := (hq x).1 hqx
    have hge : bsP c t L ≤ i := by
      rcases Nat.lt_or_ge i (bsP c t L) with h1 | h1
      · have := hp.2.1 i h1
        simp only [decide_eq_true_eq, hg] at this; omega
      · exact h1
    have hlt : bsP c t L < L.length := by omega
    have h2 := hp.2.2 (bsP c t L) (Nat.le_refl _) hlt
    simp only [decide_eq_false_iff_not] at h2
    rcases Nat.lt_or_ge (bsP c t L) i with h1 | h1
    · exact absurd (hs _ _ h1 hil (by rw [hg]; omega)) h2
    · have e : bsP c t L = i := by omega
      exact ⟨by omega, by rw [e, hg]; exact h0⟩
end
theorem cmpI_le {a b : Int} : cmpI a b ≤ 0 ↔ a ≤ b := by unfold cmpI; split <;> (try split) <;> omega
theorem cmpA_le {p q : Away} : cmpA p q ≤ 0 ↔ lexlt p q ∨ p = q := by
  rw [← cmpA_lt, ← cmpA_eq]; omega
theorem lex_trans {p q r : Away} (h1 : lexlt p q) (h2 : lexlt q r) : lexlt p r := by unfold lexlt at *; omega
theorem lex_ne {p q : Away} (h : lexlt p q) : p ≠ q := by rintro rfl; unfold lexlt at h; omega
instance (p q : Away) : Decidable (lexlt p q) := by unfold lexlt; infer_instance
def bdM (id : Int) (L : List LMap) : Nat := (L.takeWhile (fun m => decide (cmpM m id < 0))).length
def bdA (t : Away) (L : List Away) : Nat := (L.takeWhile (fun a => decide (cmpA a t < 0))).length
def isA (id r : Int) (a : Away) : Bool := decide (a.Map = id ∧ a.Reader = r)
def insAt {α : Type} (L : List α) (k : Nat) (x : α) : List α := L.take k ++ [x] ++ L.drop k
def delAt {α : Type} (L : List α) (k : Nat) : List α := L.take k ++ L.drop (k + 1)
theorem ins_len1 {α : Type} (L : List α) (y : α) (i : Nat) : (L.take i ++ [y] ++ L.drop i).length = L.length + 1 := by simp; omega
theorem del_lenT {α : Type} (L : List α) {i j : Nat} (h : i ≤ j) : (L.take i ++ L.drop j).length ≤ L.length := by simp; omega
def AwS (A : List Away) : Prop := ∀ i j, i < j → j < A.length → lexlt (gt A i) (gt A j)
section
variable {L M : List LMap} {A : List Away} {k : Nat} {x : Library} {id r : Int}
theorem bdM_le (id : Int) (L : List LMap) : bdM id L ≤ L.length := tw_le _ _
theorem bdA_le (t : Away) (A : List Away) : bdA t A ≤ A.length := tw_le _ _
theorem isA_iff (a : Away) : isA id r a = true ↔ cmpA a ⟨id, r⟩ = 0 := by
  unfold isA; rw [decide_eq_true_eq, cmpA_eq, Away.ext_iff]
theorem hasId_iff (m : LMap) : hasId id m = true ↔ cmpM m id = 0 := by unfold hasId cmpM; rw [decide_eq_true_eq, cmpI_eq]
theorem bsM (h : MapsOK L) (id : Int) : bsP cmpM id L = bdM id L ∧ (bsF cmpM id L ↔ 0 ≤ idxF (hasId id) L) ∧ (bsF cmpM id L → (bsP cmpM id L : Int) = idxF (hasId id) L) :=
  bs_spec hasId_iff fun i j hij hj h1 => by
    have := maps_lt h hij hj
    simp only [cmpM, cmpI_le, cmpI_lt] at *; omega
theorem aw_at (h : AwayOK M A) (hk : k < A.length) (h0 : 0 < k) : lexlt (gt A (k - 1)) (gt A k) := by
  have := Classical.not_not.1 (h k hk)
  exact this.2.2 (by omega)
theorem aw_s (h : AwayOK M A) : AwS A := by
  intro i j hij hj
  induction j with
  | zero => omega
  | succ j ih =>
    have h1 := aw_at h hj (by omega)
    simp only [Nat.add_sub_cancel] at h1
    rcases Nat.lt_or_ge i j with h2 | h2
    · exact lex_trans (ih h2 (by omega)) h1
    · obtain rfl : i = j := by omega
      exact h1
theorem bsA (h : AwS A) (id r : Int) : bsP cmpA ⟨id, r⟩ A = bdA ⟨id, r⟩ A ∧ (bsF cmpA ⟨id, r⟩ A ↔ 0 ≤ idxF (isA id r) A) ∧ (bsF cmpA ⟨id, r⟩ A → (bsP cmpA ⟨id, r⟩ A : Int) = idxF (isA id r) A) :=
  bs_spec isA_iff fun i j hij hj h1 => by
    have h2 := h i j hij hj
    rw [cmpA_le] at h1; rw [cmpA_lt]
    rcases h1 with h1 | h1
    · exact lex_trans h2 h1
    · rwa [h1] at h2
theorem del_gt {α : Type} [Inhabited α] {A : List α} {k i : Nat} (hk : k < A.length) : gt (delAt A k) i = gt A (if i < k then i else i + 1) := by
  have e : (delAt A k)[i]? = A[if i < k then i else i + 1]? := by
    have hm : (A.take k).length = k := by simp; omega
    unfold delAt
    rcases Nat.lt_or_ge i k with h | h
    · rw [List.getElem?_append_left (by omega), if_pos h, List.getElem?_take_of_lt h]
    · rw [List.getElem?_append_right (by omega), if_neg (by omega), List.getElem?_drop, hm]; congr 1; omega
  simp only [gt, List.getD_eq_getElem?_getD, e]
theorem del_len {α : Type} {A : List α} {k : Nat} (hk : k < A.length) : (delAt A k).length = A.length - 1 := by unfold delAt; simp; omega
theorem ins_len {α : Type} {A : List α} {k : Nat} {y : α} (hk : k ≤ A.length) : (insAt A k y).length = A.length + 1 := by unfold insAt; simp; omega
theorem del_s (h : AwS A) (hk : k < A.length) : AwS (delAt A k) := by
  intro i j hij hj
  rw [del_len hk] at hj
  rw [del_gt hk, del_gt hk]
  refine h _ _ ?_ ?_
  · split <;> split <;> omega
  · split <;> omega
/-- What is not the one that went is still there. -/
theorem del_has {q : Away → Bool} (hk : k < A.length) (hq : q (gt A k) = false) : 0 ≤ idxF q (delAt A k) ↔ 0 ≤ idxF q A := by
  have e : A = A.take k ++ gt A k :: A.drop (k + 1) := by
    have h1 := List.take_append_drop k A
    rw [List.drop_eq_getElem_cons hk] at h1
    have h2 : gt A k = A[k] := gt_eq (List.getElem?_eq_getElem hk)
    rw [h2]; exact h1.symm
  rw [any_idx, any_idx]
  conv => rhs; rw [e]
  unfold delAt; simp [hq]
theorem loopM_next (h : ∀ j, j < k → cmpM (gt L j) id < 0) (h1 : (gt L k).Id < id) : ∀ j, j < k + 1 → cmpM (gt L j) id < 0 := fun j hj => by
  rcases Nat.lt_or_ge j k with h2 | h2
  · exact h j h2
  · obtain rfl : j = k := by omega
    exact cmpI_lt.2 h1
theorem loopM_end (h : ∀ j, j < k → cmpM (gt L j) id < 0) (hk : k ≤ L.length) (hn : k = L.length ∨ ¬ (gt L k).Id < id) : k = bdM id L :=
  (tw_len (p := fun m => decide (cmpM m id < 0)) (fun j hj => decide_eq_true (h j hj)) hk (hn.imp (fun h => h) fun h' => decide_eq_false (fun q => h' (cmpI_lt.1 (show cmpI (gt L k).Id id < 0 from q))))).symm
theorem loopA_next {t : Away} (h : ∀ j, j < k → cmpA (gt A j) t < 0) (h1 : lexlt (gt A k) t) : ∀ j, j < k + 1 → cmpA (gt A j) t < 0 := fun j hj => by
  rcases Nat.lt_or_ge j k with h2 | h2
  · exact h j h2
  · obtain rfl : j = k := by omega
    exact cmpA_lt.2 h1
theorem loopA_end {t : Away} (h : ∀ j, j < k → cmpA (gt A j) t < 0) (hk : k ≤ A.length) (hn : k = A.length ∨ ¬ lexlt (gt A k) t) : k = bdA t A :=
  (tw_len (p := fun a => decide (cmpA a t < 0)) (fun j hj => decide_eq_true (h j hj)) hk (hn.imp (fun h => h) fun h' => decide_eq_false (fun q => h' (cmpA_lt.1 q)))).symm
end
theorem lib_rng {x : Library} (h : LibOK x) : x.Maps.length ≤ 8 ∧ x.Away.length ≤ 8 ∧ (0 ≤ x.Bought ∧ x.Bought ≤ 9999) ∧ (0 ≤ x.Dropped ∧ x.Dropped ≤ 9999) ∧ (0 ≤ x.Mended ∧ x.Mended ≤ 9999) :=
  ⟨h.1.2, h.2.1.2, h.2.2.1, h.2.2.2.1, h.2.2.2.2.1⟩
def goneN (x : Library) (id r : Int) : Library := { x with Away := insAt x.Away (bdA ⟨id, r⟩ x.Away) ⟨id, r⟩ }
def backN (x : Library) (a : Int) : Library := { x with Away := delAt x.Away a.toNat }
def moreM (m : LMap) (n : Int) : LMap := ⟨m.Id, m.Copies + n, m.Torn⟩
def boughtN (x : Library) (id n : Int) : Library :=
  if 0 ≤ idxF (hasId id) x.Maps then { x with Maps := x.Maps.set (idxF (hasId id) x.Maps).toNat (moreM (gt x.Maps (idxF (hasId id) x.Maps).toNat) n), Bought := x.Bought + n }
  else { x with Maps := insAt x.Maps (bdM id x.Maps) ⟨id, n, 0⟩, Bought := x.Bought + n }
end Go.Proofs.YtgobbcilgcbkaaaDoor
