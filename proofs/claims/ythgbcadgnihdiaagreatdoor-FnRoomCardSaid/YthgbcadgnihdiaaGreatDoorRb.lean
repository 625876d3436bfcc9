/- Plain words on free seats. -/
import Derived.Test.YthgbcadgnihdiaaGreatDoorRa
namespace Go.Proofs.YthgbcadgnihdiaaGreatDoor
open Go Go.RowKit Fw
/-- A visit keeps a seat in a time. -/
def keepV (s a b : Int) (v : Visit) : Bool := decide (v.Seat = s ∧ meetV v a b)
/-- The free ones of the first seats. -/
def freeN (L : List Visit) (a b : Int) : Nat → List Int
  | 0 => []
  | k + 1 => freeN L a b k ++ (if L.any (keepV (k + 1) a b) then [] else [((k : Int) + 1)])
section
variable {L : List Visit} {a b : Int} {k n : Nat} {q : Bool}
theorem free_keep (h : L.any (keepV (k + 1) a b) = true) : freeN L a b k = freeN L a b (k + 1) := by simp [freeN, h]
theorem free_add (h : ¬ L.any (keepV (k + 1) a b) = true) : freeN L a b k ++ [((k : Int) + 1)] = freeN L a b (k + 1) := by simp [freeN, h]
theorem free_len (L : List Visit) (a b : Int) (k : Nat) : (freeN L a b k).length ≤ k := by
  induction k with
  | zero => simp [freeN]
  | succ k ih =>
    simp only [freeN, List.length_append]
    split <;> simp <;> omega
theorem free_rng {x : Int} : ∀ {k : Nat}, x ∈ freeN L a b k → 1 ≤ x ∧ x ≤ k
  | 0, h => by simp [freeN] at h
  | k + 1, h => by
    simp only [freeN, List.mem_append] at h
    rcases h with h | h
    · have := free_rng h; omega
    · split at h
      · simp at h
      · simp at h; omega
theorem any_mono {p : Visit → Bool} (h : k ≤ n ∧ q = (L.take k).any p) (hn : n = L.length) (hk : (k : Int) < (n : Int)) (hq : q = true) : true = (L.take (k + 1)).any p := by
  rw [List.take_add_one, List.any_append, ← h.2, hq]; rfl
theorem any_end {p : Visit → Bool} (h : k ≤ n ∧ q = (L.take k).any p) (hn : n = L.length) (hk : ¬ (k : Int) < (n : Int)) : q = L.any p := by
  rw [h.2, List.take_of_length_le (by omega)]
theorem any_next {p : Visit → Bool} {x : Visit} (hx : L[k]? = some x) : (L.take (k + 1)).any p = ((L.take k).any p || p x) := by
  rw [take_snoc hx]; simp
end
/-- Where a visit from minute a is laid in. -/
def IsPos (L : List Visit) (a : Int) (k : Nat) : Prop := k ≤ L.length ∧ (∀ j x, j < k → L[j]? = some x → x.From ≤ a) ∧ (∀ j x, k ≤ j → L[j]? = some x → a < x.From)
def posV (L : List Visit) (a : Int) : Nat := (L.takeWhile (fun v => decide (v.From ≤ a))).length
theorem pos_eq : ∀ {L : List Visit} {a : Int} {k : Nat}, IsPos L a k → posV L a = k
  | [], a, k, h => by have := h.1; simp at this; subst this; rfl
  | x :: L, a, 0, h => by
    have := h.2.2 0 x (by omega) rfl
    unfold posV
    rw [List.takeWhile_cons_of_neg (by simp; omega)]; rfl
  | x :: L, a, k + 1, h => by
    have h0 := h.2.1 0 x (by omega) rfl
    have ih := pos_eq (L := L) (a := a) (k := k) ⟨by have := h.1; simpa using this, fun j y hj hy => h.2.1 (j + 1) y (by omega) (by simpa using hy), fun j y hj hy => h.2.2 (j + 1) y (by omega) (by simpa using hy)⟩
    unfold posV at ih ⊢
    rw [List.takeWhile_cons_of_pos (by simpa using h0), List.length_cons, ih]
theorem vs_sorted {L : List Visit} (hr : VsOK L) : ∀ {i j : Nat} {x y : Visit}, i ≤ j → L[i]? = some x → L[j]? = some y → x.From ≤ y.From := by
  intro i j
  induction j with
  | zero => intro x y h hx hy; obtain rfl : i = 0 := by omega
            rw [hx] at hy; injection hy with hy; subst hy; omega
  | succ j ih =>
    intro x y h hx hy
    rcases Nat.lt_or_ge j i with h2 | h2
    · obtain rfl : i = j + 1 := by omega
      rw [hx] at hy; injection hy with hy; subst hy; omega
    · obtain ⟨z, hz⟩ : ∃ z, L[j]? = some z := ⟨L[j]'(by have := (List.getElem?_eq_some_iff.1 hy).1; omega), List.getElem?_eq_getElem _⟩
      have h1 := (hr.1 _ _ hy).2.1 z (by omega) (by simpa using hz)
      have := ih h2 hx hz; omega
def timeOK (a b : Int) : Prop := (480 ≤ a ∧ a ≤ 1200) ∧ (480 ≤ b ∧ b ≤ 1200) ∧ a < b
noncomputable def seatR (L : List Visit) (r a b : Int) : Option (List Visit × Int) :=
  if VsOK L ∧ (480 ≤ a ∧ a ≤ 1200) ∧ (480 ≤ b ∧ b ≤ 1200) ∧ a < b then
    match (freeN L a b 6)[0]? with
    | some s => if VsOK (L.take (posV L a) ++ [⟨r, s, a, b⟩] ++ L.drop (posV L a)) then some (L.take (posV L a) ++ [⟨r, s, a, b⟩] ++ L.drop (posV L a), s) else none
    | none => none
  else none
section
variable {L : List Visit} {r a b s : Int} {k n : Nat}
theorem seat_no (h : ¬ (VsOK L ∧ (480 ≤ a ∧ a ≤ 1200) ∧ (480 ≤ b ∧ b ≤ 1200) ∧ a < b)) : seatR L r a b = none := by unfold seatR; rw [if_neg h]
theorem seat_full (hn : n = (freeN L a b 6).length) (h : (n : Int) = 0) : seatR L r a b = none := by
  have : freeN L a b 6 = [] := List.eq_nil_of_length_eq_zero (by omega)
  unfold seatR; rw [this]; simp
theorem seat_bad (hs : (freeN L a b 6)[0]? = some s) (hp : posV L a = k) (h : ¬ VsOK (L.take k ++ [⟨r, s, a, b⟩] ++ L.drop k)) : seatR L r a b = none := by
  subst hp; unfold seatR; rw [hs]; simp only [h, if_false]; split <;> rfl
theorem seat_yes (hv : VsOK L) (ht : (480 ≤ a ∧ a ≤ 1200) ∧ (480 ≤ b ∧ b ≤ 1200) ∧ a < b) (hs : (freeN L a b 6)[0]? = some s) (hp : posV L a = k) (h : VsOK (L.take k ++ [⟨r, s, a, b⟩] ++ L.drop k)) : seatR L r a b = some (L.take k ++ [⟨r, s, a, b⟩] ++ L.drop k, s) := by
  subst hp; unfold seatR; rw [if_pos ⟨hv, ht⟩, hs]; simp only [h, if_true]
theorem seat_len (L : List Visit) (r a b : Int) : ((seatR L r a b).elim [] (·.1)).length ≤ 15 := by
  unfold seatR
  split
  · split
    · split
      · rename_i h; exact h.2
      · simp
    · simp
  · simp
/-- Scanning from the front. -/
def LeTo (L : List Visit) (a : Int) (k : Nat) : Prop := ∀ j x, j < k → L[j]? = some x → x.From ≤ a
def GtFrom (L : List Visit) (a : Int) (k : Nat) : Prop := ∀ j x, k ≤ j → L[j]? = some x → a < x.From
theorem leTo_zero : LeTo L a 0 := fun _ _ h => absurd h (by omega)
theorem leTo_next {x : Visit} (h : LeTo L a k) (hx : L[k]? = some x) (hl : x.From ≤ a) : LeTo L a (k + 1) := by
  intro j y hj hy
  rcases Nat.lt_or_ge j k with h1 | h1
  · exact h j y h1 hy
  · obtain rfl : j = k := by omega
    rw [hx] at hy; injection hy with hy; subst hy; exact hl
theorem gtFrom_top (hn : n = L.length) : GtFrom L a n := fun j x hj hx => by have := (List.getElem?_eq_some_iff.1 hx).1; omega
theorem gtFrom_next {x : Visit} (h : GtFrom L a k) (hx : L[k - 1]? = some x) (hk : 0 < k) (hl : a < x.From) : GtFrom L a (k - 1) := by
  intro j y hj hy
  rcases Nat.lt_or_ge j k with h1 | h1
  · obtain rfl : j = k - 1 := by omega
    rw [hx] at hy; injection hy with hy; subst hy; exact hl
  · exact h j y h1 hy
theorem pos_front (h : LeTo L a k) (hn : n = L.length) (hkn : k ≤ n) (hk : ¬ (k : Int) < (n : Int)) : posV L a = k := pos_eq ⟨by omega, h, fun j x hj hx => by have := (List.getElem?_eq_some_iff.1 hx).1; omega⟩
theorem pos_front' {x : Visit} (hv : VsOK L) (h : LeTo L a k) (hx : L[k]? = some x) (hl : ¬ x.From ≤ a) : posV L a = k :=
  pos_eq ⟨by have := (List.getElem?_eq_some_iff.1 hx).1; omega, h, fun j y hj hy => by have := vs_sorted hv hj hx hy; omega⟩
theorem pos_back (h : GtFrom L a k) (hn : n = L.length) (hkn : k ≤ n) (hk : ¬ 0 < (k : Int)) : posV L a = k := pos_eq ⟨by omega, fun j x hj => absurd hj (by omega), h⟩
theorem pos_back' {x : Visit} (hv : VsOK L) (h : GtFrom L a k) (hx : L[k - 1]? = some x) (hn : n = L.length) (hkn : k ≤ n) (hl : ¬ a < x.From) : posV L a = k :=
  pos_eq ⟨by omega, fun j y hj hy => by have := vs_sorted hv (show j ≤ k - 1 by omega) hy hx; omega, h⟩
end
end Go.Proofs.YthgbcadgnihdiaaGreatDoor
