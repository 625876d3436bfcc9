/- Function values, literals of structures, searching. -/
import Derived.Test.YtnbbfokkpkphoaaGreatDoorFo
import Derived.Laws.Tables
import Derived.Lib.MinMax
namespace Go.Proofs.YtnbbfokkpkphoaaGreatDoor.Fw
open Go Go.RowKit
/-- A function value that answers 'p' of its one argument, in every later world. -/
def Fnc {α : Type} (P : Program) (w : World) (k : FuncId) (caps : List Value) (av : α → Value) (p : α → Bool) : Prop :=
  Ent P k ∧ ∀ w', Lo w w' → ∀ x, Calls P k (av x :: caps).toArray w' fun e w'' => e = .returned (.bool (p x)) ∧ Lo w' w''
/-- The same where 'S' may be written. -/
def FncS {α : Type} (S : Nat → Prop) (P : Program) (w : World) (k : FuncId) (caps : List Value) (av : α → Value) (p : α → Bool) : Prop :=
  Ent P k ∧ ∀ w', Kp S w w' → ∀ x, Calls P k (av x :: caps).toArray w' fun e w'' => e = .returned (.bool (p x)) ∧ Lo w' w''
theorem FncS.fnc {α : Type} {S : Nat → Prop} {P : Program} {w w' : World} {k : FuncId} {caps : List Value} {av : α → Value} {p : α → Bool} (h : FncS S P w k caps av p) (hk : Kp S w w') : Fnc P w' k caps av p :=
  ⟨h.1, fun w'' h' x => h.2 w'' (hk.lo h') x⟩
theorem Fnc.lo {α : Type} {P : Program} {w w' : World} {k : FuncId} {caps : List Value} {av : α → Value} {p : α → Bool} (h : Fnc P w k caps av p) (hk : Lo w w') : Fnc P w' k caps av p :=
  ⟨h.1, fun w'' h' x => h.2 w'' (hk.trans h') x⟩
section
variable {P : Program} {ops : Array Oper} {N R : Act → World → Prop} {X : Nat → Act → World → Prop} {n : Nat} {rest : List Oper} {f : Env} {w : World} {v : Value}
theorem SR.callv {k : FuncId} {x : Operand} {cap : List Value} {l : List Operand} {ts : Array TypeId} {t : TypeId} {p : String} {d : Nat} {af : Array Edge} {vs : List Value} {Rr : Ending → World → Prop} (he : Ent P k) (hx : ev n f x = .func (.func k) #[] cap.toArray)
    (hc : Calls P k vs.toArray w Rr) (ha : l.map (ev n f) ++ cap = vs) (h : ∀ e w', Rr e w' → ∃ v, e = .returned v ∧ SR P ops N R X n rest (set f d v) w') :
    SR P ops N R X n (⟨some d, .call ⟨.value x, l.toArray, ts⟩, t, p, af, none⟩ :: rest) f w := SR.enter (run_callv he hx ha) rfl rfl hc h
theorem r_build {d : Option Tmp} {t ty : TypeId} {p : String} {af : Array Edge} {g : Option (Nat × Bool)} {ps : List (Nat × Operand)} {vs : List (Nat × Value)} {l : List Value} (hv : ps.map (fun q => (q.1, ev n f q.2)) = vs) (h : P.built t vs = some l.toArray) :
    Run P ⟨d, .build t ps.toArray, ty, p, af, g⟩ n f w (.agg l.toArray) := by
  subst hv
  have e : (ps.toArray.map fun x : Nat × Operand => (x.1, ev n f x.2)).toList = ps.map fun q => (q.1, ev n f q.2) := by simp
  have := run_build (P := P) w t (ps.toArray.map fun x : Nat × Operand => (x.1, ev n f x.2)) l.toArray (by rw [e]; exact h)
  simp [Run, execOp] at this ⊢
  rw [this]; rfl
variable {d : Option Tmp} {t : TypeId} {p : String} {af : Array Edge} {g : Option (Nat × Bool)} {x y : Operand} {a b : Int} {ts : Array TypeId}
theorem r_max (hx : ev n f x = .int .i64 a) (hy : ev n f y = .int .i64 b) : Run P ⟨d, .call ⟨.builtin .max, #[x, y], ts⟩, t, p, af, g⟩ n f w (.int .i64 (max a b)) := by
  simp [Run, execOp, resolve, invoke, builtin, hx, hy, Go.Lib.run_max_ints]
theorem r_min (hx : ev n f x = .int .i64 a) (hy : ev n f y = .int .i64 b) : Run P ⟨d, .call ⟨.builtin .min, #[x, y], ts⟩, t, p, af, g⟩ n f w (.int .i64 (min a b)) := by
  simp [Run, execOp, resolve, invoke, builtin, hx, hy, Go.Lib.run_min_ints]
end
section
variable {P : Program} {n : Nat} {f : Env} {w : World} {d : Option Tmp} {t tx ty e : TypeId} {p : String} {af : Array Edge} {g : Option (Nat × Bool)} {x y : Operand} {A : Option Addr} {m c : Nat}
theorem eq_nil (ht : P.underlying tx = some (.slice e)) : (Op.equal tx (.slice A m c) (.slice none 0 0)).run P w = .ok A.isNone w := by
  have key : ∀ dd, (Op.equalIn (dd + 1) tx (.slice A m c) (.slice none 0 0)).run P w = .ok A.isNone w := fun dd => by
    cases A <;> simp [Op.equalIn, run_underlying ht]
  exact key 9999
theorem r_eqlnil (ht : P.underlying tx = some (.slice e)) (hx : ev n f x = .slice A m c) (hy : ev n f y = .slice none 0 0) : Run P ⟨d, .binOp .eql tx x y ty, t, p, af, g⟩ n f w (.bool A.isNone) := by
  simp [Run, execOp, hx, hy, binOp, eqGuard, eq_nil ht]
theorem r_neqnil (ht : P.underlying tx = some (.slice e)) (hx : ev n f x = .slice A m c) (hy : ev n f y = .slice none 0 0) : Run P ⟨d, .binOp .neq tx x y ty, t, p, af, g⟩ n f w (.bool (!A.isNone)) := by
  simp [Run, execOp, hx, hy, binOp, eqGuard, eq_nil ht]
theorem slR_nil {α : Type} {B sz : Nat} {enc : α → List Value} {L : List α} (h : SlR w B enc sz A m c L) (hA : A.isNone = true) : m = 0 := by
  rcases Nat.eq_zero_or_pos m with h0 | h0
  · exact h0
  · have := h.some h0; cases A <;> simp at this hA
end
theorem SlR.cutl {α : Type} {w : World} {B sz m c l : Nat} {enc : α → List Value} {A : Option Addr} {L : List α} (hR : SlR w B enc sz A m c L) (hl : l ≤ m) : SlR w B enc sz (cutA A c l sz) (m - l) (c - l) (L.drop l) := by
  have := hR.cut (l := l) (h := m) hl (Nat.le_refl _)
  rwa [List.take_of_length_le (by rw [List.length_drop]; have := hR.len; omega)] at this
/-- The first place whose element answers yes, or -1. -/
def idxF {α : Type} (p : α → Bool) (L : List α) : Int := match L.findIdx? p with
  | some i => i
  | none => -1
section
variable {α : Type} {p q : α → Bool} {L : List α} {k n : Nat} {x : α}
def NoneTo (p : α → Bool) (L : List α) (k : Nat) : Prop := ∀ j x, j < k → L[j]? = some x → p x = false
theorem NoneTo.zero : NoneTo p L 0 := fun _ _ h => absurd h (by omega)
theorem NoneTo.next (h : NoneTo p L k) (hx : L[k]? = some x) (hp : p x = false) : NoneTo p L (k + 1) := by
  intro j y hj hy
  rcases Nat.lt_or_ge j k with h1 | h1
  · exact h j y h1 hy
  · obtain rfl : j = k := by omega
    rw [hx] at hy; injection hy with hy; subst hy; exact hp
theorem idx_at (h : NoneTo p L k) (hx : L[k]? = some x) (hp : p x = true) : (k : Int) = idxF p L := by
  obtain ⟨hk1, hk2⟩ := (List.getElem?_eq_some_iff.1 hx)
  have : L.findIdx? p = some k := by
    rw [List.findIdx?_eq_some_iff_getElem]
    refine ⟨hk1, by rw [hk2]; exact hp, fun j hj => ?_⟩
    rw [h j _ hj (List.getElem?_eq_getElem (by omega))]; simp
  simp [idxF, this]
theorem idx_no (h : NoneTo p L k) (hn : n = L.length) (hk : ¬ (k : Int) < (n : Int)) : (-1 : Int) = idxF p L := by
  have : L.findIdx? p = none := by
    rw [List.findIdx?_eq_none_iff]
    intro x hx
    obtain ⟨j, hj, rfl⟩ := List.mem_iff_getElem.1 hx
    exact h j _ (by omega) (List.getElem?_eq_getElem hj)
  simp [idxF, this]
theorem any_idx : (0 ≤ idxF p L) ↔ L.any p = true := by
  unfold idxF
  cases h : L.findIdx? p with
  | none =>
    rw [List.findIdx?_eq_none_iff] at h
    simp
    exact h
  | some i =>
    rw [List.findIdx?_eq_some_iff_getElem] at h
    simp
    exact ⟨_, List.getElem_mem h.1, h.2.1⟩
theorem idx_spec {i : Int} (h : idxF p L = i) (h0 : 0 ≤ i) : ∃ x, L[i.toNat]? = some x ∧ p x = true ∧ NoneTo p L i.toNat := by
  unfold idxF at h
  cases hf : L.findIdx? p with
  | none => rw [hf] at h; simp at h; omega
  | some j =>
    rw [hf] at h
    simp at h
    subst h
    rw [List.findIdx?_eq_some_iff_getElem] at hf
    refine ⟨L[j]'hf.1, by simp [hf.1], hf.2.1, fun k x hk hx => ?_⟩
    have h2 := hf.2.2 k (by omega)
    have h3 := (List.getElem?_eq_some_iff.1 hx).2
    rw [h3] at h2; simpa using h2
theorem idx_lt : idxF p L < L.length ∧ -1 ≤ idxF p L := by
  unfold idxF
  cases hf : L.findIdx? p with
  | none => simp; omega
  | some j => rw [List.findIdx?_eq_some_iff_getElem] at hf; have := hf.1; simp; omega
theorem idx_congr (h : ∀ (j : Nat) (x : α), L[j]? = some x → p x = q x) : idxF p L = idxF q L := by
  unfold idxF
  rw [show L.findIdx? p = L.findIdx? q from ?_]
  have : ∀ (L : List α), (∀ x ∈ L, p x = q x) → L.findIdx? p = L.findIdx? q := by
    intro L hL
    induction L with
    | nil => rfl
    | cons a r ih => rw [List.findIdx?_cons, List.findIdx?_cons, hL a (by simp), ih fun x hx => hL x (by simp [hx])]
  exact this L fun x hx => by
    obtain ⟨j, hj, rfl⟩ := List.mem_iff_getElem.1 hx
    exact h j _ (List.getElem?_eq_getElem hj)
end
end Go.Proofs.YtnbbfokkpkphoaaGreatDoor.Fw
