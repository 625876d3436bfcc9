/- The ends of a walk. -/
import Derived.Test.YtnbbfokkpkphoaaGreatDoorFd
namespace Go.Proofs.YtnbbfokkpkphoaaGreatDoor.Fw
open Go Go.RowKit
theorem eI {k : IntKind} {a b : Int} (h : a = b) : Value.int k a = Value.int k b := by rw [h]
theorem eB {a b : Bool} (h : a = b) : Value.bool a = Value.bool b := by rw [h]
theorem eS {a b : List UInt8} (h : a = b) : str a = str b := by rw [h]
theorem eA {a b : List Value} (h : a = b) : Value.agg a.toArray = Value.agg b.toArray := by rw [h]
theorem eDT {q : Prop} [Decidable q] (h : q) : Value.bool true = Value.bool (decide q) := by rw [decide_eq_true h]
theorem eDF {q : Prop} [Decidable q] (h : ¬ q) : Value.bool false = Value.bool (decide q) := by rw [decide_eq_false h]
theorem eDD {p q : Prop} [Decidable p] [Decidable q] (h : p ↔ q) : Value.bool (decide p) = Value.bool (decide q) := by rw [decide_eq_decide.2 h]
theorem eND {p q : Prop} [Decidable p] [Decidable q] (h : ¬ p ↔ q) : Value.bool (!decide p) = Value.bool (decide q) := by
  by_cases hp : p
  · rw [decide_eq_true hp, decide_eq_false (fun hq => (h.2 hq) hp)]; rfl
  · rw [decide_eq_false hp, decide_eq_true (h.1 hp)]; rfl
theorem eBD {p : Bool} {q : Prop} [Decidable q] (h : p = true ↔ q) : Value.bool p = Value.bool (decide q) := by
  cases p
  · rw [decide_eq_false (fun hq => by have := h.2 hq; cases this)]
  · rw [decide_eq_true (h.1 rfl)]
theorem eC {a b : Value} {l m : List Value} (h : a = b) (k : l = m) : a :: l = b :: m := by rw [h, k]
theorem Blk.eqv {w : World} {g e : Nat} {l l' : List Value} (h : Blk w g e l) (k : l = l') : Blk w g e l' := k ▸ h
/-- Element 'i'. -/
def gt {α : Type} [Inhabited α] (L : List α) (i : Nat) : α := L.getD i default
theorem gt_eq {α : Type} [Inhabited α] {L : List α} {i : Nat} {x : α} (h : L[i]? = some x) : gt L i = x := by simp [gt, List.getD, h]
section
variable {c q r : Prop}
theorem j1t (h : c) : True ↔ c := ⟨fun _ => h, fun _ => trivial⟩
theorem j1f (h : ¬ c) : False ↔ c := ⟨False.elim, h⟩
theorem j2t (h : c) : False ↔ ¬ c := ⟨False.elim, fun k => k h⟩
theorem j2f (h : ¬ c) : True ↔ ¬ c := ⟨fun _ => h, fun _ => trivial⟩
theorem jat (h : c) : q ↔ c ∧ q := ⟨fun k => ⟨h, k⟩, fun k => k.2⟩
theorem jaf (h : ¬ c) : False ↔ c ∧ q := ⟨False.elim, fun k => h k.1⟩
theorem jot (h : c) : True ↔ c ∨ q := ⟨fun _ => .inl h, fun _ => trivial⟩
theorem jof (h : ¬ c) : q ↔ c ∨ q := ⟨.inr, fun k => k.elim (fun x => absurd x h) id⟩
theorem jnt (h : c) : False ↔ ¬ c ∧ q := ⟨False.elim, fun k => k.1 h⟩
theorem jnf (h : ¬ c) : q ↔ ¬ c ∧ q := ⟨fun k => ⟨h, k⟩, fun k => k.2⟩
theorem jmt (h : c) : q ↔ ¬ c ∨ q := ⟨.inr, fun k => k.elim (fun x => absurd h x) id⟩
theorem jmf (h : ¬ c) : True ↔ ¬ c ∨ q := ⟨fun _ => .inl h, fun _ => trivial⟩
theorem jgt (h : c) : q ↔ (c ∧ q) ∨ (¬ c ∧ r) := ⟨fun k => .inl ⟨h, k⟩, fun k => k.elim And.right fun x => absurd h x.1⟩
theorem jgf (h : ¬ c) : r ↔ (c ∧ q) ∨ (¬ c ∧ r) := ⟨fun k => .inr ⟨h, k⟩, fun k => k.elim (fun x => absurd x.1 h) And.right⟩
end
section
variable {P : Program} {n : Nat} {f : Env} {N R : Act → World → Prop} {X : Nat → Act → World → Prop} {w : World} {id : Nat} {l : List Oper}
theorem W.regJD (hm : P.follows .mixedOrders = true) (hB : Region.lexB .any l.toArray = true) (J : Env → World → Prop)
    (h : QR P l.toArray (Lo w) n (fun f' => ∀ w', Lo w w' → J f' w') l f) (k : ∀ f' w', J f' w' → N (act n f') w') : W P (.region id l.toArray true) N R X (act n f) w :=
  W.mono (W.regD (N := fun a w => ∃ f', a = act n f' ∧ J f' w) (R := R) (X := X) hm hB (by
    unfold QR at h ⊢
    refine wpQuiet_mono' ?_ h
    rintro a ⟨f', rfl, h⟩
    exact ⟨f', rfl, fun w' hw' => ⟨f', rfl, h w' hw'⟩⟩)) (by rintro a w ⟨f', rfl, h⟩; exact k f' w h) (fun _ _ h => h) (fun _ _ _ h => h)
theorem W.regJS (J : Env → World → Prop)
    (h : SR P l.toArray (fun a w => ∃ f', a = act n f' ∧ J f' w) R X n l f w) (k : ∀ f' w', J f' w' → N (act n f') w') : W P (.region id l.toArray false) N R X (act n f) w :=
  W.mono (W.regS h) (by rintro a w ⟨f', rfl, h⟩; exact k f' w h) (fun _ _ h => h) (fun _ _ _ h => h)
theorem W.thenJ {x : Code} (J : Env → World → Prop) (h : W P x (fun a w => ∃ f', a = act n f' ∧ J f' w) R X (act n f) w) (k : ∀ f' w', J f' w' → N (act n f') w') : W P x N R X (act n f) w :=
  W.mono h (by rintro a w ⟨f', rfl, h⟩; exact k f' w h) (fun _ _ h => h) (fun _ _ _ h => h)
end
theorem not_decide_t {p : Prop} [Decidable p] (h : p) : (!decide p) = false := by simp [h]
theorem not_decide_f {p : Prop} [Decidable p] (h : ¬ p) : (!decide p) = true := by simp [h]
section
variable {P : Program} {ops : Array Oper} {N R : Act → World → Prop} {X : Nat → Act → World → Prop} {n d : Nat} {rest : List Oper} {f : Env} {w : World} {C : World → Prop} {K : Env → Prop} {b c : Bool}
theorem QR.known (h : b = c) (k : QR P ops C n K rest (set f d (.bool c))) : QR P ops C n K rest (set f d (.bool b)) := h ▸ k
theorem SR.known (h : b = c) (k : SR P ops N R X n rest (set f d (.bool c)) w) : SR P ops N R X n rest (set f d (.bool b)) w := h ▸ k
end
theorem SlR.elem {α : Type} [Inhabited α] {w : World} {B : Nat} {enc : α → List Value} {sz n c : Nat} {A : Option Addr} {L : List α} (h : SlR w B enc sz A n c L) {i : Nat} (hi : i < n) : L[i]? = Option.some (Fw.gt L i) := by
  have h1 := h.len
  simp [Fw.gt, List.getD, List.getElem?_eq_getElem (show i < L.length by omega)]
theorem eR {a b : Value} (h : a = b) : Ending.returned a = Ending.returned b := by rw [h]
theorem eT2 {a b a' b' : Value} (h : a = a') (k : b = b') : Value.tuple #[a, b] = .tuple (List.toArray [a', b']) := by rw [h, k]
theorem eT3 {a b c a' b' c' : Value} (h : a = a') (k : b = b') (l : c = c') : Value.tuple #[a, b, c] = .tuple (List.toArray [a', b', c']) := by rw [h, k, l]

section
variable {P : Program} {fn : Func} {n : Nat} {f : Env} {w : World} {R : Ending → World → Prop}
theorem ret0 (hr : fn.results = #[]) (h : R (.returned (.tuple #[])) w) : bodyPost P fn R .ret (act n f) w :=
  bodyPost_ret (v := .tuple #[]) (results_none hr _ _ _) rfl h
theorem end0 (hr : fn.results = #[]) (h : R (.returned (.tuple #[])) w) : bodyPost P fn R .normal (act n f) w :=
  bodyPost_end (v := .tuple #[]) (results_none hr _ _ _) rfl h
theorem load_cell {t : TypeId} {m g e : Nat} {l : List Value} (ht : TAgg P t m) (hb : Blk w g e l) (hl : l.length = m) : (loadVar t ⟨g, 0, none⟩).run P w = .ok (.agg l.toArray) w := by
  have h1 := run_loadCells_list (P := P) w ⟨g, 0, none⟩ l (fun j u hu => hb.cell hu)
  subst hl
  simp [loadVar, Sem.run_bind, ht.1 w, ht.2 w, h1]
theorem retC {p t m g e : Nat} {l : List Value} (hr : fn.results = #[.cell p t]) (hp : ev n f (.tmp p) = .pointer (some ⟨g, 0, none⟩)) (ht : TAgg P t m) (hb : Blk w g e l) (hl : l.length = m)
    (h : R (.returned (.agg l.toArray)) w) : bodyPost P fn R .ret (act n f) w := by
  refine bodyPost_ret (v := .agg l.toArray) ?_ rfl h
  have e1 := getD_act n f p
  rw [show cond (Nat.blt p n) (f p) undef = ev n f (.tmp p) from rfl, hp] at e1
  simp only [Array.getD_eq_getD_getElem?] at e1
  simp [results, hr, e1, asAddr, load_cell ht hb hl]
theorem retCT {p t m g e u : Nat} {l : List Value} {v : Value} (hr : fn.results = #[.cell p t, .tmp u]) (hp : ev n f (.tmp p) = .pointer (some ⟨g, 0, none⟩)) (ht : TAgg P t m) (hb : Blk w g e l) (hl : l.length = m)
    (hu : ev n f (.tmp u) = v) (h : R (.returned (.tuple #[.agg l.toArray, v])) w) : bodyPost P fn R .ret (act n f) w := by
  refine bodyPost_ret (v := .tuple #[.agg l.toArray, v]) ?_ rfl h
  have e1 := getD_act n f p
  have e2 := getD_act n f u
  rw [show cond (Nat.blt p n) (f p) undef = ev n f (.tmp p) from rfl, hp] at e1
  rw [show cond (Nat.blt u n) (f u) undef = ev n f (.tmp u) from rfl, hu] at e2
  simp only [Array.getD_eq_getD_getElem?] at e1 e2
  simp [results, hr, e1, e2, asAddr, load_cell ht hb hl]
theorem retCTT {p t m g e u s : Nat} {l : List Value} {v v' : Value} (hr : fn.results = #[.cell p t, .tmp u, .tmp s]) (hp : ev n f (.tmp p) = .pointer (some ⟨g, 0, none⟩)) (ht : TAgg P t m) (hb : Blk w g e l) (hl : l.length = m)
    (hu : ev n f (.tmp u) = v) (hs : ev n f (.tmp s) = v') (h : R (.returned (.tuple #[.agg l.toArray, v, v'])) w) : bodyPost P fn R .ret (act n f) w := by
  refine bodyPost_ret (v := .tuple #[.agg l.toArray, v, v']) ?_ rfl h
  have e1 := getD_act n f p
  have e2 := getD_act n f u
  have e3 := getD_act n f s
  rw [show cond (Nat.blt p n) (f p) undef = ev n f (.tmp p) from rfl, hp] at e1
  rw [show cond (Nat.blt u n) (f u) undef = ev n f (.tmp u) from rfl, hu] at e2
  rw [show cond (Nat.blt s n) (f s) undef = ev n f (.tmp s) from rfl, hs] at e3
  simp only [Array.getD_eq_getD_getElem?] at e1 e2 e3
  simp [results, hr, e1, e2, e3, asAddr, load_cell ht hb hl]
end
end Go.Proofs.YtnbbfokkpkphoaaGreatDoor.Fw
