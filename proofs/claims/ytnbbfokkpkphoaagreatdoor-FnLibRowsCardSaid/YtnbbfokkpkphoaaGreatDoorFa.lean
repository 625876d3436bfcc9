/- The walk's own ground, over any program: a frame as a function of its slots, rules for code, rules for operations. -/
import Derived.WalkKit
import Derived.Deep.Quiet
import Derived.Deep.LoopGhost
namespace Go.Proofs.YtnbbfokkpkphoaaGreatDoor.Fw
open Go Go.RowKit

abbrev Env := Nat → Value
def set (f : Env) (d : Nat) (v : Value) : Env := fun t => cond (Nat.beq t d) v (f t)
def act (n : Nat) (f : Env) : Act := { tmps := ((List.range n).map f).toArray, defers := [] }
def ev (n : Nat) (f : Env) : Operand → Value
  | .tmp t => cond (Nat.blt t n) (f t) undef
  | .const v => v
  | .global g => .pointer (some ⟨g, 0, none⟩)
  | .func i => .func (.func i) #[] #[]
def sets (f : Env) : List (Nat × Value) → Env
  | [] => f
  | p :: r => set (sets f r) p.1 p.2

theorem getD_act (n : Nat) (f : Env) (t : Nat) : (act n f).tmps.getD t undef = cond (Nat.blt t n) (f t) undef := by
  unfold act
  by_cases h : t < n
  · have : Nat.blt t n = true := by simp [Nat.blt]; omega
    simp [this, h]
  · have : Nat.blt t n = false := by
      cases hb : Nat.blt t n
      · rfl
      · simp [Nat.blt] at hb; omega
    simp [this, h]

theorem eval_act (n : Nat) (f : Env) : (act n f).eval = ev n f := by
  funext x
  cases x with
  | tmp t => exact getD_act n f t
  | _ => rfl

theorem put_act (n : Nat) (f : Env) (d : Nat) (v : Value) : (act n f).put (some d) v = act n (set f d v) := by
  unfold Act.put act
  simp only [Act.mk.injEq, and_true]
  apply Array.ext_getElem?
  intro i
  by_cases hi : i < n
  · by_cases hd : i = d
    · subst hd; simp [hi, set]
    · have hb : Nat.beq i d = false := by
        cases h : Nat.beq i d
        · rfl
        · exact absurd (Nat.eq_of_beq_eq_true h) hd
      simp [hi, set, hb, Ne.symm hd]
  · simp [hi]

theorem put_none (n : Nat) (f : Env) (v : Value) : (act n f).put none v = act n f := rfl

theorem set_self (f : Env) (d : Nat) (v : Value) (h : f d = v) : set f d v = f := by
  funext t
  unfold set
  cases hb : Nat.beq t d
  · rfl
  · have : t = d := by simpa using hb
    subst this; exact h.symm

/-- Every listed slot holds what is listed. -/
def At (f : Env) : List (Nat × Value) → Prop
  | [] => True
  | p :: r => f p.1 = p.2 ∧ At f r
theorem sets_of_at {f : Env} : ∀ {l : List (Nat × Value)}, At f l → sets f l = f
  | [], _ => rfl
  | p :: r, h => by
    show set (sets f r) p.1 p.2 = f
    rw [sets_of_at h.2]; exact set_self f p.1 p.2 h.1

/-- The frame when the call begins. -/
def ini (l : List Value) : Env := fun t => l.getD t undef
theorem ini_act (n : Nat) (l : List Value) (h : l.length ≤ n) : { tmps := l.toArray ++ Array.replicate (n - l.length) undef, defers := [] } = act n (ini l) := by
  unfold act ini
  simp only [Act.mk.injEq, and_true]
  apply Array.ext_getElem?
  intro i
  by_cases hi : i < n
  · simp only [List.getElem?_toArray, List.getElem?_map, List.getElem?_range hi, Option.map_some]
    by_cases hl : i < l.length
    · rw [Array.getElem?_append_left (by simpa using hl)]; simp [hl]
    · rw [Array.getElem?_append_right (by simpa using hl), Array.getElem?_replicate, if_pos (by simp; omega)]
      simp [hl]
  · rw [Array.getElem?_eq_none (by simp; omega)]
    simp [hi]

/-! Code. -/
def mk (N R : Act → World → Prop) (X : Nat → Act → World → Prop) : Exit → Act → World → Prop
  | .normal, a, w => N a w
  | .ret, a, w => R a w
  | .exit i, a, w => X i a w
  | _, _, _ => False
def W (P : Program) (c : Code) (N R : Act → World → Prop) (X : Nat → Act → World → Prop) (a : Act) (w : World) : Prop := c.wp P (mk N R X) a w
theorem W_def {P : Program} {c : Code} {N R : Act → World → Prop} {X : Nat → Act → World → Prop} {a : Act} {w : World} : W P c N R X a w = c.wp P (mk N R X) a w := rfl
def xin (id : Nat) (N : Act → World → Prop) (X : Nat → Act → World → Prop) : Nat → Act → World → Prop := fun i => cond (Nat.beq i id) N (X i)
def xno : Nat → Act → World → Prop := fun _ _ _ => False

section
variable {P : Program} {N R : Act → World → Prop} {X : Nat → Act → World → Prop} {a : Act} {w : World}
theorem W.seq {x y : Code} (h : W P x (fun a w => W P y N R X a w) R X a w) : W P (.seq x y) N R X a w :=
  wp_seq (wp_mono h fun e a w q => by cases e <;> first | exact q | exact q.elim)
theorem W.skip (h : N a w) : W P .skip N R X a w := wp_skip h
theorem W.ret (h : R a w) : W P .ret N R X a w := wp_ret h
theorem W.exit {id : Nat} (h : X id a w) : W P (.exit id) N R X a w := wp_exit h
theorem xin_here {id : Nat} (h : N a w) : xin id N X id a w := by
  unfold xin; rw [show Nat.beq id id = true from by simp]; exact h
theorem xin_out {id i : Nat} (hne : Nat.beq i id = false) (h : X i a w) : xin id N X i a w := by
  unfold xin; rw [hne]; exact h
theorem W.block {id : Nat} {c : Code} (h : W P c N R (xin id N X) a w) : W P (.block id c) N R X a w :=
  wp_block (wp_mono h fun e a w q => by
    cases e with
    | exit i =>
      simp only [mk, xin] at q
      simp only [Exit.inBlock, mk]
      cases hb : Nat.beq i id
      · rw [hb] at q
        have : ¬ i = id := by intro e; subst e; simp at hb
        rw [if_neg this]; exact q
      · rw [hb] at q
        have : i = id := by simpa using hb
        rw [if_pos this]; exact q
    | _ => first | exact q | exact q.elim)
theorem W.mono {c : Code} {N' R' : Act → World → Prop} {X' : Nat → Act → World → Prop} (h : W P c N R X a w) (hN : ∀ a w, N a w → N' a w) (hR : ∀ a w, R a w → R' a w) (hX : ∀ i a w, X i a w → X' i a w) : W P c N' R' X' a w :=
  wp_mono h fun e a w q => by cases e <;> first | exact hN _ _ q | exact hR _ _ q | exact hX _ _ _ q | exact q.elim
end

section
variable {P : Program} {n : Nat} {f : Env} {N R : Act → World → Prop} {X : Nat → Act → World → Prop} {w : World}
theorem W.cond_t {c : Operand} {x y : Code} (hc : ev n f c = .bool true) (h : W P x N R X (act n f) w) : W P (.cond c x y) N R X (act n f) w :=
  wp_cond_true (by rw [eval_act]; exact hc) h
theorem W.cond_f {c : Operand} {x y : Code} (hc : ev n f c = .bool false) (h : W P y N R X (act n f) w) : W P (.cond c x y) N R X (act n f) w :=
  wp_cond_false (by rw [eval_act]; exact hc) h
theorem W.cond_b {c : Operand} {x y : Code} {t : Bool} (hc : ev n f c = .bool t) (ht : t = true → W P x N R X (act n f) w) (hf : t = false → W P y N R X (act n f) w) : W P (.cond c x y) N R X (act n f) w :=
  wp_cond_split (by rw [eval_act]; exact hc) ht hf
theorem W.cond_d {c : Operand} {x y : Code} {p : Prop} [Decidable p] (hc : ev n f c = .bool (decide p)) (ht : p → W P x N R X (act n f) w) (hf : ¬ p → W P y N R X (act n f) w) : W P (.cond c x y) N R X (act n f) w :=
  W.cond_b hc (fun h => ht (of_decide_eq_true h)) (fun h => hf (of_decide_eq_false h))
theorem W.cond_n {c : Operand} {x y : Code} {p : Prop} [Decidable p] (hc : ev n f c = .bool (!decide p)) (ht : ¬ p → W P x N R X (act n f) w) (hf : p → W P y N R X (act n f) w) : W P (.cond c x y) N R X (act n f) w :=
  W.cond_b hc (fun h => ht (of_decide_eq_false (by simpa using h))) (fun h => hf (of_decide_eq_true (by simpa using h)))

/-- A loop: 'V g' the slots that are known at its head, 'Φ g' what holds there, 'μ g' falls. -/
theorem W.loop {σ : Type} {c : Code} (V : σ → List (Nat × Value)) (Φ : σ → World → Prop) (μ : σ → Nat) (g₀ : σ) (h0 : At f (V g₀)) (hΦ : Φ g₀ w)
    (round : ∀ g f w, Φ g w → W P c (fun a' w' => ∃ g' f', a' = act n f' ∧ At f' (V g') ∧ Φ g' w' ∧ μ g' < μ g) R X (act n (sets f (V g))) w) : W P (.loop c) N R X (act n f) w := by
  refine wp_loop_ghost (fun k a w => ∃ g f, μ g = k ∧ a = act n f ∧ At f (V g) ∧ Φ g w) (μ g₀) ⟨g₀, f, rfl, rfl, h0, hΦ⟩ ?_
  rintro k a w ⟨g, f, rfl, rfl, hat, hp⟩
  have hr := round g f w hp
  rw [sets_of_at hat] at hr
  refine wp_mono hr ?_
  intro e a' w' q
  cases e with
  | normal =>
    obtain ⟨g', f', ha, hat', hp', hlt⟩ := q
    exact ⟨μ g', hlt, g', f', rfl, ha, hat', hp'⟩
  | _ => first | exact q | exact q.elim
end

/-! A call's body. -/
theorem calls_W {P : Program} {k : FuncId} {fn : Func} {c : Code} {l : List Value} {w : World} {R : Ending → World → Prop} (m : Nat)
    (hf : P.funcs[k]? = some fn) (hb : fn.body = some c) (hm : fn.ntmps = m) (hn : Nat.ble l.length m = true)
    (h : W P c (fun a w => bodyPost P fn R .normal a w) (fun a w => bodyPost P fn R .ret a w) xno (act m (ini l)) w) : Calls P k l.toArray w R := by
  subst hm
  refine calls_of_wp hf hb ?_
  have e := ini_act fn.ntmps l (Nat.le_of_ble_eq_true hn)
  simp only [List.size_toArray] at e ⊢
  rw [e]
  exact wp_mono h fun e a w q => by cases e <;> first | exact q | exact q.elim

section
variable {P : Program} {fn : Func} {n : Nat} {f : Env} {w : World} {R : Ending → World → Prop}
theorem ret1 {t : Nat} {v : Value} (hr : fn.results = #[.tmp t]) (hv : ev n f (.tmp t) = v) (h : R (.returned v) w) : bodyPost P fn R .ret (act n f) w :=
  bodyPost_ret (v := v) (by rw [results_tmp hr, getD_act]; exact congrArg (fun x => Result.ok x w) hv) rfl h
theorem ret2 {t u : Nat} {v v' : Value} (hr : fn.results = #[.tmp t, .tmp u]) (hv : ev n f (.tmp t) = v) (hv' : ev n f (.tmp u) = v') (h : R (.returned (.tuple #[v, v'])) w) : bodyPost P fn R .ret (act n f) w :=
  bodyPost_ret (v := .tuple #[v, v']) (by rw [results_tmp2 hr, getD_act, getD_act]; exact congrArg (fun x => Result.ok x w) (by rw [← hv, ← hv']; rfl)) rfl h
theorem ret3 {t u s : Nat} {v v' v'' : Value} (hr : fn.results = #[.tmp t, .tmp u, .tmp s]) (hv : ev n f (.tmp t) = v) (hv' : ev n f (.tmp u) = v') (hv'' : ev n f (.tmp s) = v'') (h : R (.returned (.tuple #[v, v', v''])) w) : bodyPost P fn R .ret (act n f) w :=
  bodyPost_ret (v := .tuple #[v, v', v'']) (by rw [results_tmp3 hr, getD_act, getD_act, getD_act]; exact congrArg (fun x => Result.ok x w) (by rw [← hv, ← hv', ← hv'']; rfl)) rfl h
/-- Any results, run by hand. -/
theorem retX {v : Value} (hv : (results fn (act n f).tmps).run P w = .ok v w) (h : R (.returned v) w) : bodyPost P fn R .ret (act n f) w :=
  bodyPost_ret (v := v) hv rfl h
end
attribute [irreducible] W
end Go.Proofs.YtnbbfokkpkphoaaGreatDoor.Fw
