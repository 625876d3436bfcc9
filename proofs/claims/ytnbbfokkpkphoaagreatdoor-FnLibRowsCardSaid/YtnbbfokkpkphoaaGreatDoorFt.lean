/- Conversions of integers, shifts, function values of two arguments. -/
import Derived.Test.YtnbbfokkpkphoaaGreatDoorFp
namespace Go.Proofs.YtnbbfokkpkphoaaGreatDoor.Fw
open Go Go.RowKit
/-- A function value of two arguments that answers an integer, in every later world. -/
def Fnc2 {α β : Type} (P : Program) (w : World) (k : FuncId) (caps : List Value) (av : α → Value) (bv : β → Value) (c : α → β → Int) : Prop :=
  Ent P k ∧ ∀ w', Lo w w' → ∀ x y, Calls P k (av x :: bv y :: caps).toArray w' fun e w'' => e = .returned (.int .i64 (c x y)) ∧ Lo w' w''
theorem Fnc2.lo {α β : Type} {P : Program} {w w' : World} {k : FuncId} {caps : List Value} {av : α → Value} {bv : β → Value} {c : α → β → Int} (h : Fnc2 P w k caps av bv c) (hk : Lo w w') : Fnc2 P w' k caps av bv c :=
  ⟨h.1, fun w'' h' x y => h.2 w'' (hk.trans h') x y⟩
section
variable {P : Program} {n : Nat} {f : Env} {w : World} {d : Option Tmp} {s t u tx : TypeId} {p : String} {af : Array Edge} {g : Option (Nat × Bool)} {x y : Operand} {k k' : IntKind} {a b : Int}
theorem r_conv (ht : P.underlying t = some (.int k')) (hs : P.underlying s = some (.int k)) (hx : ev n f x = .int k a) : Run P ⟨d, .convert s t x, u, p, af, g⟩ n f w (.int k' (k'.wrap a)) := by
  simp [Run, execOp, hx, convert, run_underlying ht, run_underlying hs, Conv.intToInt]
theorem wrapU_in {a : Int} (h : 0 ≤ a ∧ a ≤ 18446744073709551615) : IntKind.u64.wrap a = a := by
  simp only [IntKind.wrap_u64]; omega
theorem r_convU (ht : P.underlying t = some (.int .u64)) (hs : P.underlying s = some (.int .i64)) (hx : ev n f x = .int .i64 a) (h : 0 ≤ a ∧ a ≤ 9223372036854775807) : Run P ⟨d, .convert s t x, u, p, af, g⟩ n f w (.int .u64 a) := by
  have := r_conv (d := d) (u := u) (p := p) (af := af) (g := g) (w := w) ht hs hx; rwa [wrapU_in (by omega)] at this
theorem r_convI (ht : P.underlying t = some (.int .i64)) (hs : P.underlying s = some (.int k)) (hx : ev n f x = .int k a) (h : 0 ≤ a ∧ a ≤ 9223372036854775807) : Run P ⟨d, .convert s t x, u, p, af, g⟩ n f w (.int .i64 a) := by
  have := r_conv (d := d) (u := u) (p := p) (af := af) (g := g) (w := w) ht hs hx; rwa [wrap64_in (by omega)] at this
theorem r_half (hx : ev n f x = .int .u64 a) (hy : ev n f y = .int k 1) (_h : 0 ≤ a) : Run P ⟨d, .binOp .shr tx x y u, t, p, af, g⟩ n f w (.int .u64 (a / 2)) := by
  have e : a.fdiv 2 = a / 2 := Int.fdiv_eq_ediv_of_nonneg _ (by omega)
  have eb : min 1 IntKind.u64.bits = 1 := by decide
  simp [Run, execOp, hx, hy, binOp, Op.shift, eqGuard, eb, e]
end
section
variable {P : Program} {ops : Array Oper} {N R : Act → World → Prop} {X : Nat → Act → World → Prop} {n : Nat} {rest : List Oper} {f : Env} {w : World} {v : Value}
theorem SR.gcallv {l : List Oper} {k : FuncId} {x : Operand} {cap : List Value} {la : List Operand} {ts : Array TypeId} {t : TypeId} {p : String} {d j : Nat} {b : Bool} {af : Array Edge} {vs : List Value} {Rr : Ending → World → Prop} (hy : yn l f n j = some b) (he : Ent P k) (hx : ev n f x = .func (.func k) #[] cap.toArray)
    (hc : Calls P k vs.toArray w Rr) (ha : la.map (ev n f) ++ cap = vs) (h : ∀ e w', Rr e w' → ∃ v, e = .returned v ∧ SR P l.toArray N R X n rest (set f d v) w') :
    SR P l.toArray N R X n (⟨some d, .call ⟨.value x, la.toArray, ts⟩, t, p, af, some (j, b)⟩ :: rest) f w := SR.genter (run_callv he hx ha) rfl hy rfl hc h
end
/-- Where a binary search ends. -/
def bsr {α : Type} [Inhabited α] (p : α → Bool) (L : List α) (i j : Nat) : Nat :=
  if h : i < j then (if p (gt L ((i + j) / 2)) then bsr p L ((i + j) / 2 + 1) j else bsr p L i ((i + j) / 2)) else i
termination_by j - i
decreasing_by all_goals omega
section
variable {α : Type} [Inhabited α] {p : α → Bool} {L : List α} {i j : Nat}
theorem bsr_lo (h : i < j) (hp : p (gt L ((i + j) / 2)) = true) : bsr p L ((i + j) / 2 + 1) j = bsr p L i j := by
  rw [bsr.eq_def p L i j, dif_pos h, if_pos hp]
theorem bsr_hi (h : i < j) (hp : p (gt L ((i + j) / 2)) = false) : bsr p L i ((i + j) / 2) = bsr p L i j := by
  rw [bsr.eq_def p L i j, dif_pos h, if_neg (by simp [hp])]
theorem bsr_end (h : ¬ i < j) : bsr p L i j = i := by rw [bsr.eq_def, dif_neg h]
theorem bsr_spec (hpart : ∀ a b, a ≤ b → b < L.length → p (gt L b) = true → p (gt L a) = true) : ∀ n i j, j - i ≤ n → i ≤ j → j ≤ L.length → (∀ a, a < i → p (gt L a) = true) → (∀ a, j ≤ a → a < L.length → p (gt L a) = false) →
    bsr p L i j ≤ L.length ∧ (∀ a, a < bsr p L i j → p (gt L a) = true) ∧ (∀ a, bsr p L i j ≤ a → a < L.length → p (gt L a) = false) := by
  intro n
  induction n with
  | zero =>
    intro i j hn hij hj h1 h2
    obtain rfl : i = j := by omega
    rw [bsr_end (by omega)]
    exact ⟨hj, h1, h2⟩
  | succ n ih =>
    intro i j hn hij hj h1 h2
    rcases Nat.lt_or_ge i j with h | h
    · cases hp : p (gt L ((i + j) / 2))
      · rw [← bsr_hi h hp]
        refine ih _ _ (by omega) (by omega) (by omega) h1 fun a ha hl => ?_
        cases ha' : p (gt L a)
        · rfl
        · have := hpart ((i + j) / 2) a ha hl ha'; rw [hp] at this; cases this
      · rw [← bsr_lo h hp]
        refine ih _ _ (by omega) (by omega) hj (fun a ha => ?_) h2
        exact hpart a ((i + j) / 2) (by omega) (by omega) hp
    · obtain rfl : i = j := by omega
      rw [bsr_end (by omega)]
      exact ⟨hj, h1, h2⟩
theorem bsr_le (n i j : Nat) : j - i ≤ n → i ≤ j → bsr p L i j ≤ j := by
  induction n generalizing i j with
  | zero => intro h1 h2; rw [bsr_end (by omega)]; exact h2
  | succ n ih =>
    intro h1 h2
    rcases Nat.lt_or_ge i j with h | h
    · cases hp : p (gt L ((i + j) / 2))
      · rw [← bsr_hi h hp]; exact Nat.le_trans (ih _ _ (by omega) (by omega)) (by omega)
      · rw [← bsr_lo h hp]; exact ih _ _ (by omega) (by omega)
    · rw [bsr_end (by omega)]; exact h2
end
end Go.Proofs.YtnbbfokkpkphoaaGreatDoor.Fw
