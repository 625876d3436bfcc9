/- Slices: what a slice reads as; a slice of the call's own. -/
import Derived.Test.YtnbbfokkpkphoaaGreatDoorFc
namespace Go.Proofs.YtnbbfokkpkphoaaGreatDoor.Fw
open Go Go.RowKit

section
variable {α : Type} {w w' : World} {B : Nat} {enc : α → List Value} {sz n c : Nat} {A : Option Addr} {L : List α}
/-- The slice reads as 'L': below block B; each element is 'sz' cells. -/
structure SlR (w : World) (B : Nat) (enc : α → List Value) (sz : Nat) (A : Option Addr) (n c : Nat) (L : List α) : Prop where
  len : n = L.length
  cap : n ≤ c
  max : c ≤ maxLen
  bd : B ≤ w.heap.size
  esz : ∀ x, (enc x).length = sz
  some : 0 < n → A.isSome = true
  blk : 0 < n → (adr A).block < B
  at_ : ∀ i x, L[i]? = Option.some x → ∀ j u, (enc x)[j]? = Option.some u → w.cell? ((adr A).add (i * sz + j)) = Option.some u

theorem SlR.kp {S : Nat → Prop} (h : SlR w B enc sz A n c L) (k : Kp S w w') (hS : ∀ b, b < B → ¬ S b) : SlR w' B enc sz A n c L := by
  refine ⟨h.len, h.cap, h.max, Nat.le_trans h.bd k.size, h.esz, h.some, h.blk, fun i x hx j u hu => ?_⟩
  have hn : 0 < n := by have := List.getElem?_eq_some_iff.1 hx |>.1; rw [h.len]; omega
  rw [← h.at_ i x hx j u hu]
  refine World.cell?_of_block (k.block _ ?_ ?_)
  · rw [add_block]; exact Nat.lt_of_lt_of_le (h.blk hn) h.bd
  · rw [add_block]; exact hS _ (h.blk hn)
theorem SlR.kn {q : Nat} (h : SlR w B enc sz A n c L) (k : Kp (· = q) w w') (hq : B ≤ q) : SlR w' B enc sz A n c L := h.kp k fun b hb e => by have e' : b = q := e; omega
theorem SlR.lo (h : SlR w B enc sz A n c L) (k : Lo w w') : SlR w' B enc sz A n c L := h.kp k fun _ _ => id
theorem SlR.up (h : SlR w B enc sz A n c L) {B' : Nat} (hb : B ≤ B') (hb' : B' ≤ w.heap.size) : SlR w B' enc sz A n c L :=
  ⟨h.len, h.cap, h.max, hb', h.esz, h.some, fun hn => Nat.lt_of_lt_of_le (h.blk hn) hb, h.at_⟩
theorem SlR.top (h : SlR w B enc sz A n c L) : SlR w w.heap.size enc sz A n c L := h.up h.bd (Nat.le_refl _)
theorem SlR.get (h : SlR w B enc sz A n c L) {i : Nat} (hi : i < n) : ∃ x, L[i]? = Option.some x := by
  have := h.len
  exact ⟨L[i]'(by omega), List.getElem?_eq_getElem _⟩
theorem SlR.cell (h : SlR w B enc sz A n c L) {i : Nat} {x : α} (hx : L[i]? = Option.some x) {j : Nat} {u : Value} (hu : (enc x)[j]? = Option.some u) : w.cell? (((adr A).add (i * sz)).add j) = Option.some u := by
  rw [add_add]; exact h.at_ i x hx j u hu
theorem SlR.cell0 (h : SlR w B enc sz A n c L) {i : Nat} {x : α} (hx : L[i]? = Option.some x) {u : Value} (hu : (enc x)[0]? = Option.some u) : w.cell? ((adr A).add (i * sz)) = Option.some u := by
  have := h.at_ i x hx 0 u hu
  rwa [Nat.add_zero] at this
theorem SlR.nil (w : World) (he : ∀ x, (enc x).length = sz) : SlR w w.heap.size enc sz Option.none 0 0 ([] : List α) :=
  ⟨rfl, Nat.le_refl _, by decide, Nat.le_refl _, he, fun h => absurd h (by omega), fun h => absurd h (by omega), fun i x hx => by simp at hx⟩
theorem SlR.bound (h : SlR w B enc sz A n c L) : (n : Int) ≤ 9223372036854775807 := by
  have h1 := h.cap; have h2 := h.max; unfold maxLen at h2; omega
end

section
variable {α : Type} {P : Program} {B : Nat} {enc : α → List Value} {sz m c : Nat} {A : Option Addr} {L : List α} {n : Nat} {f : Env} {w : World} {v : Value} {d : Option Tmp} {t : TypeId} {p : String} {af : Array Edge} {g : Option (Nat × Bool)} {x y : Operand} {tx e : TypeId} {k : IntKind} {z : Int}
/-- The address of an element. -/
theorem r_ixR (ht : TSl P tx e sz) (hs : SlR w B enc sz A m c L) (hx : ev n f x = .slice A m c) (hy : ev n f y = .int k z) (hi : 0 ≤ z ∧ z < (m : Int)) : Run P ⟨d, .indexAddr tx x y, t, p, af, g⟩ n f w (.pointer (some ((adr A).add (z.toNat * sz)))) := by
  obtain ⟨i, rfl⟩ := Int.eq_ofNat_of_zero_le hi.1
  exact r_ix ht hx hy (by omega) (hs.some (by omega))
end

section
variable {α : Type} {w w' : World} {base e : Nat} {enc : α → List Value} {sz n c : Nat} {A : Option Addr} {L : List α}
/-- A slice of the call's own: nil, or the head of a block from 'base' on. -/
structure SlO (w : World) (base : Nat) (enc : α → List Value) (sz e : Nat) (A : Option Addr) (n c : Nat) (L : List α) : Prop where
  row : w.ownsRow base e sz (.slice A n c) n (L.flatMap enc)
  len : n = L.length
  esz : ∀ x, (enc x).length = sz
  bd : base ≤ w.heap.size

theorem flat_get (he : ∀ x, (enc x).length = sz) : ∀ (L : List α) (i j : Nat) (x : α) (u : Value), L[i]? = some x → (enc x)[j]? = some u → (L.flatMap enc)[i * sz + j]? = some u
  | [], i, j, x, u, h, _ => by simp at h
  | a :: r, 0, j, x, u, h, hu => by
    simp only [List.getElem?_cons_zero, Option.some.injEq] at h
    subst h
    rw [List.flatMap_cons, Nat.zero_mul, Nat.zero_add, List.getElem?_append_left (List.getElem?_eq_some_iff.1 hu).1]; exact hu
  | a :: r, i + 1, j, x, u, h, hu => by
    rw [List.flatMap_cons, List.getElem?_append_right (by rw [he, Nat.add_mul, Nat.one_mul]; omega), he]
    rw [show (i + 1) * sz + j - sz = i * sz + j by rw [Nat.add_mul, Nat.one_mul]; omega]
    exact flat_get he r i j x u (by simpa using h) hu
theorem flat_len (he : ∀ x, (enc x).length = sz) : ∀ L : List α, (L.flatMap enc).length = L.length * sz
  | [] => by simp
  | a :: r => by rw [List.flatMap_cons, List.length_append, he, flat_len he r, List.length_cons, Nat.add_mul, Nat.one_mul, Nat.add_comm]

theorem SlO.kp {S : Nat → Prop} (h : SlO w base enc sz e A n c L) (k : Kp S w w') (hS : ∀ b, A = some ⟨b, 0, none⟩ → ¬ S b) : SlO w' base enc sz e A n c L := by
  refine ⟨⟨h.row.1, ?_⟩, h.len, h.esz, Nat.le_trans h.bd k.size⟩
  rcases h.row.2 with h0 | ⟨g, cap, cur, hv, hg, hh, r⟩
  · exact .inl h0
  · have hA : A = some ⟨g, 0, none⟩ := by injection hv
    have hlt : g < w.heap.size := by
      rcases Nat.lt_or_ge g w.heap.size with h' | h'
      · exact h'
      · rw [Array.getElem?_eq_none h'] at hh; cases hh
    exact .inr ⟨g, cap, cur, hv, hg, (k.block g hlt (hS g hA)).trans hh, r⟩
theorem SlO.lo (h : SlO w base enc sz e A n c L) (k : Lo w w') : SlO w' base enc sz e A n c L := h.kp k fun _ _ => id
/-- It reads. -/
theorem SlO.rd (h : SlO w base enc sz e A n c L) : SlR w w.heap.size enc sz A n c L := by
  rcases h.row.2 with ⟨h0, h1⟩ | ⟨g, cap, cur, hv, hg, hh, hn, hm, hs, ht⟩
  · injection h0 with e1 e2 e3
    subst e1 e2 e3
    have hL : L = [] := List.eq_nil_of_length_eq_zero (by have := h.len; omega)
    subst hL
    exact SlR.nil w h.esz
  · injection hv with e1 e2 e3
    subst e1 e3
    have hlt : g < w.heap.size := by
      rcases Nat.lt_or_ge g w.heap.size with h' | h'
      · exact h'
      · rw [Array.getElem?_eq_none h'] at hh; cases hh
    refine ⟨h.len, hn, hm, Nat.le_refl _, h.esz, fun _ => rfl, fun _ => hlt, fun i x hx j u hu => ?_⟩
    show w.cell? ((⟨g, 0, none⟩ : Addr).add _) = _
    have h1 := flat_get h.esz L i j x u hx hu
    rw [add_at, cell_of_row w g _ _ e (0, 0) hh, Nat.zero_add]
    rw [← ht, List.getElem?_take] at h1
    split at h1
    · simpa using h1
    · cases h1
theorem SlO.base_le (h : SlO w base enc sz e A n c L) {b : Nat} (hA : A = some ⟨b, 0, none⟩) : base ≤ b ∧ b < w.heap.size := by
  subst hA
  exact h.row.lt b rfl
theorem SlO.kn {q : Nat} (h : SlO w base enc sz e A n c L) (k : Kp (· = q) w w') (hq : q < base ∨ w.heap.size ≤ q) : SlO w' base enc sz e A n c L := h.kp k fun b hb e => by have e' : b = q := e; have := h.base_le hb; omega
theorem SlO.kd {q : Nat} (h : SlO w base enc sz e A n c L) (k : Kp (· = q) w w') (hd : ¬ A = some ⟨q, 0, none⟩) : SlO w' base enc sz e A n c L := h.kp k fun b hb e => hd (by have e' : b = q := e; rw [← e']; exact hb)
theorem SlO.nil (he : ∀ x, (enc x).length = sz) {base : Nat} (hb : base ≤ w.heap.size) : SlO w base enc sz e none 0 0 ([] : List α) := ⟨World.ownsRow_nil w base e sz, rfl, he, hb⟩
theorem SlO.down (h : SlO w base enc sz e A n c L) {b : Nat} (hb : b ≤ base) : SlO w b enc sz e A n c L := by
  refine ⟨⟨h.row.1, ?_⟩, h.len, h.esz, Nat.le_trans hb h.bd⟩
  rcases h.row.2 with h0 | ⟨g, cap, cur, hv, hg, r⟩
  · exact .inl h0
  · exact .inr ⟨g, cap, cur, hv, Nat.le_trans hb hg, r⟩
theorem SlO.eqv {L' : List α} (h : SlO w base enc sz e A n c L) (hL : L = L') : SlO w base enc sz e A n c L' := hL ▸ h
end
end Go.Proofs.YtnbbfokkpkphoaaGreatDoor.Fw
