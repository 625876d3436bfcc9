/- Rules for the operations of a region, over any program. -/
import Derived.Test.YtnbbfokkpkphoaaGreatDoorFa
import Derived.IntWalk
namespace Go.Proofs.YtnbbfokkpkphoaaGreatDoor.Fw
open Go Go.RowKit

theorem blt_t {d n : Nat} (h : d < n) : Nat.blt d n = true := by unfold Nat.blt; exact Nat.ble_eq_true_of_le h
theorem blt_f {d n : Nat} (h : ¬ d < n) : Nat.blt d n = false := by
  cases hb : Nat.blt d n
  · rfl
  · exact absurd (Nat.le_of_ble_eq_true hb) h
/-- The operation yields 'v' and leaves the world alone. -/
def Run (P : Program) (o : Oper) (n : Nat) (f : Env) (w : World) (v : Value) : Prop := (execOp (ev n f) o).run P w = .ok (.value v) w
/-- A region in its one order. -/
def SR (P : Program) (ops : Array Oper) (N R : Act → World → Prop) (X : Nat → Act → World → Prop) (n : Nat) (l : List Oper) (f : Env) (w : World) : Prop := wpList P ops (mk N R X) l (act n f) w
/-- A region that draws its order, its operations quiet in a class of worlds. -/
def QR (P : Program) (ops : Array Oper) (C : World → Prop) (n : Nat) (K : Env → Prop) (l : List Oper) (f : Env) : Prop := wpQuiet P ops C (fun a => ∃ f', a = act n f' ∧ K f') l (act n f)
/-- Calling function 'k' enters its body. -/
def Ent (P : Program) (k : FuncId) : Prop := ∀ args w, (callFunc k args).run P w = .ok (.enter k args) w
/-- What was there is as it was, but for the blocks of 'S'. -/
structure Kp (S : Nat → Prop) (w w' : World) : Prop where
  os : w'.os = w.os
  tape : w'.tape = w.tape
  output : w'.output = w.output
  size : w.heap.size ≤ w'.heap.size
  block : ∀ k, k < w.heap.size → ¬ S k → w'.heap[k]? = w.heap[k]?
def no : Nat → Prop := fun _ => False
def Lo (w w' : World) : Prop := Kp no w w'

section
variable {P : Program} {ops : Array Oper} {N R : Act → World → Prop} {X : Nat → Act → World → Prop} {n : Nat} {o : Oper} {rest : List Oper} {f : Env} {w : World} {v : Value} {C : World → Prop} {K : Env → Prop}

theorem ent_of {k : FuncId} {fn : Func} (hf : P.funcs[k]? = some fn) (hn : (fn.name == "runtime.NumGoroutine") = false) (hb : fn.body.isNone = false) : Ent P k := by
  intro args w
  have hn' : ¬ fn.name = "runtime.NumGoroutine" := by simpa using hn
  have hb' : ¬ fn.body = none := by intro e; rw [e] at hb; simp at hb
  simp [callFunc, program, Sem.run, hf, hn', hb']

theorem SR.nil (h : N (act n f) w) : SR P ops N R X n [] f w := h
theorem SR.q {d : Nat} (hr : Run P o n f w v) (hg : o.guard = none) (hd : o.dst = some d) (k : SR P ops N R X n rest (set f d v) w) : SR P ops N R X n (o :: rest) f w := by
  unfold SR at *
  refine wpList_plain hg fun K hK => ?_
  unfold Oper.wp
  rw [eval_act, hr]
  simp only [Oper.upon, hd, put_act]
  exact hK _ _ k
/-- An operation that changes the world: what it does is said by its run. -/
theorem SR.run {v : Value} {w' : World} {d : Nat} (hr : (execOp (ev n f) o).run P w = .ok (.value v) w') (hg : o.guard = none) (hd : o.dst = some d) (k : SR P ops N R X n rest (set f d v) w') : SR P ops N R X n (o :: rest) f w := by
  unfold SR at *
  refine wpList_plain hg fun K hK => ?_
  unfold Oper.wp
  rw [eval_act, hr]
  simp only [Oper.upon, hd, put_act]
  exact hK _ _ k
theorem SR.run_skip {w' : World} (hr : (execOp (ev n f) o).run P w = .ok .skip w') (hg : o.guard = none) (hd : o.dst = none) (k : SR P ops N R X n rest f w') : SR P ops N R X n (o :: rest) f w := by
  unfold SR at *
  refine wpList_plain hg fun K hK => ?_
  unfold Oper.wp
  rw [eval_act, hr]
  simp only [Oper.upon, hd, put_none]
  exact hK _ _ k
theorem SR.run_none {v : Value} {w' : World} (hr : (execOp (ev n f) o).run P w = .ok (.value v) w') (hg : o.guard = none) (hd : o.dst = none) (k : SR P ops N R X n rest f w') : SR P ops N R X n (o :: rest) f w := by
  unfold SR at *
  refine wpList_plain hg fun K hK => ?_
  unfold Oper.wp
  rw [eval_act, hr]
  simp only [Oper.upon, hd, put_none]
  exact hK _ _ k

theorem run_call {k : FuncId} {l : List Operand} {ts : Array TypeId} {t : TypeId} {p : String} {d : Option Tmp} {af : Array Edge} {g : Option (Nat × Bool)} {vs : List Value} (he : Ent P k) (ha : l.map (ev n f) = vs) :
    (execOp (ev n f) ⟨d, .call ⟨.value (.func k), l.toArray, ts⟩, t, p, af, g⟩).run P w = .ok (.enter k vs.toArray) w := by
  subst ha
  simp [execOp, resolve, ev, Deferred.ofValue, invoke, he _ w]

theorem run_callv {k : FuncId} {x : Operand} {cap : List Value} {l : List Operand} {ts : Array TypeId} {t : TypeId} {p : String} {d : Option Tmp} {af : Array Edge} {g : Option (Nat × Bool)} {vs : List Value} (he : Ent P k) (hx : ev n f x = .func (.func k) #[] cap.toArray) (ha : l.map (ev n f) ++ cap = vs) :
    (execOp (ev n f) ⟨d, .call ⟨.value x, l.toArray, ts⟩, t, p, af, g⟩).run P w = .ok (.enter k vs.toArray) w := by
  subst ha
  simp [execOp, resolve, hx, Deferred.ofValue, invoke, he _ w]

theorem SR.enter {k : FuncId} {d : Nat} {vs : List Value} {Rr : Ending → World → Prop} (hr : (execOp (ev n f) o).run P w = .ok (.enter k vs.toArray) w) (hg : o.guard = none) (hd : o.dst = some d)
    (hc : Calls P k vs.toArray w Rr) (h : ∀ e w', Rr e w' → ∃ v, e = .returned v ∧ SR P ops N R X n rest (set f d v) w') : SR P ops N R X n (o :: rest) f w := by
  unfold SR at *
  refine wpList_plain hg fun K hK => ?_
  unfold Oper.wp
  rw [eval_act, hr]
  refine hc.mono fun e w' he => ?_
  obtain ⟨v, rfl, hs⟩ := h e w' he
  simp only [hd, put_act]
  exact hK _ _ hs
theorem SR.enter_none {k : FuncId} {vs : List Value} {Rr : Ending → World → Prop} (hr : (execOp (ev n f) o).run P w = .ok (.enter k vs.toArray) w) (hg : o.guard = none) (hd : o.dst = none)
    (hc : Calls P k vs.toArray w Rr) (h : ∀ e w', Rr e w' → ∃ v, e = .returned v ∧ SR P ops N R X n rest f w') : SR P ops N R X n (o :: rest) f w := by
  unfold SR at *
  refine wpList_plain hg fun K hK => ?_
  unfold Oper.wp
  rw [eval_act, hr]
  refine hc.mono fun e w' he => ?_
  obtain ⟨v, rfl, hs⟩ := h e w' he
  simp only [hd, put_none]
  exact hK _ _ hs
/-- A call by name. -/
theorem SR.call {k : FuncId} {l : List Operand} {ts : Array TypeId} {t : TypeId} {p : String} {d : Nat} {af : Array Edge} {vs : List Value} {Rr : Ending → World → Prop} (he : Ent P k)
    (hc : Calls P k vs.toArray w Rr) (ha : l.map (ev n f) = vs) (h : ∀ e w', Rr e w' → ∃ v, e = .returned v ∧ SR P ops N R X n rest (set f d v) w') :
    SR P ops N R X n (⟨some d, .call ⟨.value (.func k), l.toArray, ts⟩, t, p, af, none⟩ :: rest) f w := SR.enter (run_call he ha) rfl rfl hc h
theorem SR.call0 {k : FuncId} {l : List Operand} {ts : Array TypeId} {t : TypeId} {p : String} {af : Array Edge} {vs : List Value} {Rr : Ending → World → Prop} (he : Ent P k)
    (hc : Calls P k vs.toArray w Rr) (ha : l.map (ev n f) = vs) (h : ∀ e w', Rr e w' → ∃ v, e = .returned v ∧ SR P ops N R X n rest f w') :
    SR P ops N R X n (⟨none, .call ⟨.value (.func k), l.toArray, ts⟩, t, p, af, none⟩ :: rest) f w := SR.enter_none (run_call he ha) rfl rfl hc h

/-! Guards: an operation whose guard's outcome is known. -/
def yn (ops : List Oper) (f : Env) (n : Nat) (j : Nat) : Option Bool :=
  match ops[j]? with
  | some o => match o.dst with
    | some d => match ev n f (.tmp d) with
      | .bool b => some b
      | _ => none
    | none => none
  | none => none
theorem yielded_act (l : List Oper) (j : Nat) : yielded l.toArray (act n f).tmps j = yn l f n j := by
  unfold yielded yn
  simp only [List.getElem?_toArray]
  cases hl : l[j]? with
  | none => simp
  | some o =>
    simp only [Option.bind_some]
    cases hd : o.dst with
    | none => simp
    | some d =>
      simp only [Option.bind_some]
      have e := getD_act n f d
      show _ = _
      simp only [ev] at *
      cases h : Nat.blt d n
      · simp only [h, cond_false] at e ⊢
        have hs : ¬ d < n := by intro hlt; rw [blt_t hlt] at h; cases h
        rw [Array.getElem?_eq_none (by simp [act]; exact Nat.le_of_not_lt hs)]
        simp [undef]
      · simp only [h, cond_true] at e ⊢
        have hs : d < n := by
          rcases Nat.lt_or_ge d n with h' | h'
          · exact h'
          · rw [blt_f (by omega)] at h; cases h
        have hg : (act n f).tmps[d]? = some (f d) := by simp [act, hs]
        rw [hg]
        cases f d <;> rfl

theorem QR.nil (h : K f) : QR P ops C n K [] f := ⟨f, rfl, h⟩
theorem quiet_q (hr : ∀ w', C w' → Run P o n f w' v) {Kk : Act → Prop} {d : Nat} (hd : o.dst = some d) (h : Kk (act n (set f d v))) : o.quiet P (act n f) C Kk := by
  refine ⟨v, fun w' hw' => ?_, by rw [hd, put_act]; exact h⟩
  unfold Oper.quietAt
  rw [eval_act, hr w' hw']
  exact ⟨rfl, rfl⟩
theorem quiet_c {k : FuncId} {vs : List Value} (hr : ∀ w', C w' → (execOp (ev n f) o).run P w' = .ok (.enter k vs.toArray) w') (hc : ∀ w', C w' → Calls P k vs.toArray w' fun e w'' => e = .returned v ∧ C w'') {Kk : Act → Prop} {d : Nat} (hd : o.dst = some d) (h : Kk (act n (set f d v))) : o.quiet P (act n f) C Kk := by
  refine ⟨v, fun w' hw' => ?_, by rw [hd, put_act]; exact h⟩
  unfold Oper.quietAt
  rw [eval_act, hr w' hw']
  exact ⟨rfl, hc w' hw'⟩
theorem QR.q {d : Nat} (hr : ∀ w', C w' → Run P o n f w' v) (hg : o.guard = none) (hd : o.dst = some d) (k : QR P ops C n K rest (set f d v)) : QR P ops C n K (o :: rest) f := by
  unfold QR wpQuiet
  rw [if_pos (by simp [Region.wanted, hg])]
  exact quiet_q hr hd k
theorem QR.call {k : FuncId} {l : List Operand} {ts : Array TypeId} {t : TypeId} {p : String} {d : Nat} {af : Array Edge} {vs : List Value} (he : Ent P k)
    (hc : ∀ w', C w' → Calls P k vs.toArray w' fun e w'' => e = .returned v ∧ C w'') (ha : l.map (ev n f) = vs) (h : QR P ops C n K rest (set f d v)) :
    QR P ops C n K (⟨some d, .call ⟨.value (.func k), l.toArray, ts⟩, t, p, af, none⟩ :: rest) f := by
  unfold QR wpQuiet
  rw [if_pos (by simp [Region.wanted])]
  exact quiet_c (fun w' _ => run_call he ha) hc rfl h
theorem QR.callv {k : FuncId} {x : Operand} {cap : List Value} {l : List Operand} {ts : Array TypeId} {t : TypeId} {p : String} {d : Nat} {af : Array Edge} {vs : List Value} (he : Ent P k) (hx : ev n f x = .func (.func k) #[] cap.toArray)
    (hc : ∀ w', C w' → Calls P k vs.toArray w' fun e w'' => e = .returned v ∧ C w'') (ha : l.map (ev n f) ++ cap = vs) (h : QR P ops C n K rest (set f d v)) :
    QR P ops C n K (⟨some d, .call ⟨.value x, l.toArray, ts⟩, t, p, af, none⟩ :: rest) f := by
  unfold QR wpQuiet
  rw [if_pos (by simp [Region.wanted])]
  exact quiet_c (fun w' _ => run_callv he hx ha) hc rfl h
section
variable {l : List Oper}
/-- A guarded operation that runs. -/
theorem QR.gq {d j : Nat} {b : Bool} (hg : o.guard = some (j, b)) (hy : yn l f n j = some b) (hr : ∀ w', C w' → Run P o n f w' v) (hd : o.dst = some d) (k : QR P l.toArray C n K rest (set f d v)) : QR P l.toArray C n K (o :: rest) f := by
  unfold QR wpQuiet
  rw [if_pos (by simp [Region.wanted, hg, yielded_act, hy])]
  exact quiet_q hr hd k
theorem QR.gcall {k : FuncId} {la : List Operand} {ts : Array TypeId} {t : TypeId} {p : String} {d j : Nat} {b : Bool} {af : Array Edge} {vs : List Value} (hy : yn l f n j = some b) (he : Ent P k)
    (hc : ∀ w', C w' → Calls P k vs.toArray w' fun e w'' => e = .returned v ∧ C w'') (ha : la.map (ev n f) = vs) (h : QR P l.toArray C n K rest (set f d v)) :
    QR P l.toArray C n K (⟨some d, .call ⟨.value (.func k), la.toArray, ts⟩, t, p, af, some (j, b)⟩ :: rest) f := by
  unfold QR wpQuiet
  rw [if_pos (by simp [Region.wanted, yielded_act, hy])]
  exact quiet_c (fun w' _ => run_call he ha) hc rfl h
theorem QR.gcallv {k : FuncId} {x : Operand} {cap : List Value} {la : List Operand} {ts : Array TypeId} {t : TypeId} {p : String} {d j : Nat} {b : Bool} {af : Array Edge} {vs : List Value} (hy : yn l f n j = some b) (he : Ent P k) (hx : ev n f x = .func (.func k) #[] cap.toArray)
    (hc : ∀ w', C w' → Calls P k vs.toArray w' fun e w'' => e = .returned v ∧ C w'') (ha : la.map (ev n f) ++ cap = vs) (h : QR P l.toArray C n K rest (set f d v)) :
    QR P l.toArray C n K (⟨some d, .call ⟨.value x, la.toArray, ts⟩, t, p, af, some (j, b)⟩ :: rest) f := by
  unfold QR wpQuiet
  rw [if_pos (by simp [Region.wanted, yielded_act, hy])]
  exact quiet_c (fun w' _ => run_callv he hx ha) hc rfl h
/-- A guarded operation that is passed over. -/
theorem QR.gs {d j : Nat} {b c : Bool} (hg : o.guard = some (j, b)) (hy : yn l f n j = some c) (hne : (c == b) = false) (hd : o.dst = some d) (k : QR P l.toArray C n K rest (set f d undef)) : QR P l.toArray C n K (o :: rest) f := by
  unfold QR wpQuiet
  rw [if_neg (by
    simp only [Region.wanted, hg, yielded_act, hy]
    intro h
    have h' : c = b := by simpa using h
    rw [h'] at hne; simp at hne), hd, put_act]
  exact k
theorem QR.gu {d j : Nat} {b : Bool} (hg : o.guard = some (j, b)) (hy : yn l f n j = none) (hd : o.dst = some d) (k : QR P l.toArray C n K rest (set f d undef)) : QR P l.toArray C n K (o :: rest) f := by
  unfold QR wpQuiet
  rw [if_neg (by simp [Region.wanted, hg, yielded_act, hy]), hd, put_act]
  exact k
theorem SR.gu {d j : Nat} {b : Bool} (hg : o.guard = some (j, b)) (hy : yn l f n j = none) (hd : o.dst = some d) (k : SR P l.toArray N R X n rest (set f d undef) w) : SR P l.toArray N R X n (o :: rest) f w := by
  unfold SR at *
  refine wpList_step fun K hK => ?_
  rw [if_neg (by simp [Region.wanted, hg, yielded_act, hy]), hd, put_act]
  exact hK _ _ k
theorem SR.g {d j : Nat} {b : Bool} (hg : o.guard = some (j, b)) (hy : yn l f n j = some b) (hr : Run P o n f w v) (hd : o.dst = some d) (k : SR P l.toArray N R X n rest (set f d v) w) : SR P l.toArray N R X n (o :: rest) f w := by
  unfold SR at *
  refine wpList_step fun K hK => ?_
  rw [if_pos (by simp [Region.wanted, hg, yielded_act, hy])]
  unfold Oper.wp
  rw [eval_act, hr]
  simp only [Oper.upon, hd, put_act]
  exact hK _ _ k
theorem SR.genter {k : FuncId} {d j : Nat} {b : Bool} {vs : List Value} {Rr : Ending → World → Prop} (hr : (execOp (ev n f) o).run P w = .ok (.enter k vs.toArray) w) (hg : o.guard = some (j, b)) (hy : yn l f n j = some b) (hd : o.dst = some d)
    (hc : Calls P k vs.toArray w Rr) (h : ∀ e w', Rr e w' → ∃ v, e = .returned v ∧ SR P l.toArray N R X n rest (set f d v) w') : SR P l.toArray N R X n (o :: rest) f w := by
  unfold SR at *
  refine wpList_step fun K hK => ?_
  rw [if_pos (by simp [Region.wanted, hg, yielded_act, hy])]
  unfold Oper.wp
  rw [eval_act, hr]
  refine hc.mono fun e w' he => ?_
  obtain ⟨v, rfl, hs⟩ := h e w' he
  simp only [hd, put_act]
  exact hK _ _ hs
theorem SR.gcall {k : FuncId} {la : List Operand} {ts : Array TypeId} {t : TypeId} {p : String} {d j : Nat} {b : Bool} {af : Array Edge} {vs : List Value} {Rr : Ending → World → Prop} (hy : yn l f n j = some b) (he : Ent P k)
    (hc : Calls P k vs.toArray w Rr) (ha : la.map (ev n f) = vs) (h : ∀ e w', Rr e w' → ∃ v, e = .returned v ∧ SR P l.toArray N R X n rest (set f d v) w') :
    SR P l.toArray N R X n (⟨some d, .call ⟨.value (.func k), la.toArray, ts⟩, t, p, af, some (j, b)⟩ :: rest) f w := SR.genter (run_call he ha) rfl hy rfl hc h
theorem SR.gs {d j : Nat} {b c : Bool} (hg : o.guard = some (j, b)) (hy : yn l f n j = some c) (hne : (c == b) = false) (hd : o.dst = some d) (k : SR P l.toArray N R X n rest (set f d undef) w) : SR P l.toArray N R X n (o :: rest) f w := by
  unfold SR at *
  refine wpList_step fun K hK => ?_
  rw [if_neg (by
    simp only [Region.wanted, hg, yielded_act, hy]
    intro h
    have h' : c = b := by simpa using h
    rw [h'] at hne; simp at hne), hd, put_act]
  exact hK _ _ k
end
/-- An operation that yields a Bool, and the two ways from there on, each with the Bool known. -/
theorem QR.split {d : Nat} {b : Bool} (ht : b = true → QR P ops C n K rest (set f d (.bool true))) (hf : b = false → QR P ops C n K rest (set f d (.bool false))) : QR P ops C n K rest (set f d (.bool b)) := by
  cases b
  · exact hf rfl
  · exact ht rfl
theorem QR.splitD {d : Nat} {q : Prop} [Decidable q] (ht : q → QR P ops C n K rest (set f d (.bool true))) (hf : ¬ q → QR P ops C n K rest (set f d (.bool false))) : QR P ops C n K rest (set f d (.bool (decide q))) :=
  QR.split (fun h => ht (of_decide_eq_true h)) (fun h => hf (of_decide_eq_false h))
theorem QR.splitN {d : Nat} {q : Prop} [Decidable q] (ht : ¬ q → QR P ops C n K rest (set f d (.bool true))) (hf : q → QR P ops C n K rest (set f d (.bool false))) : QR P ops C n K rest (set f d (.bool (!decide q))) :=
  QR.split (fun h => ht (of_decide_eq_false (by simpa using h))) (fun h => hf (of_decide_eq_true (by simpa using h)))
theorem SR.split {d : Nat} {b : Bool} (ht : b = true → SR P ops N R X n rest (set f d (.bool true)) w) (hf : b = false → SR P ops N R X n rest (set f d (.bool false)) w) : SR P ops N R X n rest (set f d (.bool b)) w := by
  cases b
  · exact hf rfl
  · exact ht rfl

theorem SR.splitD {d : Nat} {q : Prop} [Decidable q] (ht : q → SR P ops N R X n rest (set f d (.bool true)) w) (hf : ¬ q → SR P ops N R X n rest (set f d (.bool false)) w) : SR P ops N R X n rest (set f d (.bool (decide q))) w :=
  SR.split (fun h => ht (of_decide_eq_true h)) (fun h => hf (of_decide_eq_false h))
theorem SR.splitN {d : Nat} {q : Prop} [Decidable q] (ht : ¬ q → SR P ops N R X n rest (set f d (.bool true)) w) (hf : q → SR P ops N R X n rest (set f d (.bool false)) w) : SR P ops N R X n rest (set f d (.bool (!decide q))) w :=
  SR.split (fun h => ht (of_decide_eq_false (by simpa using h))) (fun h => hf (of_decide_eq_true (by simpa using h)))
/-! The same, the operation written out. -/
section
variable {l : List Oper} {op : Op} {t : TypeId} {p : String} {af : Array Edge} {d j : Nat} {b : Bool}
theorem SR.q' (hr : Run P ⟨some d, op, t, p, af, none⟩ n f w v) (k : SR P ops N R X n rest (set f d v) w) : SR P ops N R X n (⟨some d, op, t, p, af, none⟩ :: rest) f w := SR.q hr rfl rfl k
theorem QR.q' (hr : ∀ w', C w' → Run P ⟨some d, op, t, p, af, none⟩ n f w' v) (k : QR P ops C n K rest (set f d v)) : QR P ops C n K (⟨some d, op, t, p, af, none⟩ :: rest) f := QR.q hr rfl rfl k
theorem SR.g' (hy : yn l f n j = some b) (hr : Run P ⟨some d, op, t, p, af, some (j, b)⟩ n f w v) (k : SR P l.toArray N R X n rest (set f d v) w) : SR P l.toArray N R X n (⟨some d, op, t, p, af, some (j, b)⟩ :: rest) f w := SR.g rfl hy hr rfl k
theorem QR.g' (hy : yn l f n j = some b) (hr : ∀ w', C w' → Run P ⟨some d, op, t, p, af, some (j, b)⟩ n f w' v) (k : QR P l.toArray C n K rest (set f d v)) : QR P l.toArray C n K (⟨some d, op, t, p, af, some (j, b)⟩ :: rest) f := QR.gq rfl hy hr rfl k
theorem SR.s' (hy : yn l f n j = some (!b)) (k : SR P l.toArray N R X n rest (set f d undef) w) : SR P l.toArray N R X n (⟨some d, op, t, p, af, some (j, b)⟩ :: rest) f w := SR.gs rfl hy (by cases b <;> rfl) rfl k
theorem QR.s' (hy : yn l f n j = some (!b)) (k : QR P l.toArray C n K rest (set f d undef)) : QR P l.toArray C n K (⟨some d, op, t, p, af, some (j, b)⟩ :: rest) f := QR.gs rfl hy (by cases b <;> rfl) rfl k
theorem SR.u' (hy : yn l f n j = none) (k : SR P l.toArray N R X n rest (set f d undef) w) : SR P l.toArray N R X n (⟨some d, op, t, p, af, some (j, b)⟩ :: rest) f w := SR.gu rfl hy rfl k
theorem QR.u' (hy : yn l f n j = none) (k : QR P l.toArray C n K rest (set f d undef)) : QR P l.toArray C n K (⟨some d, op, t, p, af, some (j, b)⟩ :: rest) f := QR.gu rfl hy rfl k
end
theorem W.regS {id : Nat} {l : List Oper} (h : SR P l.toArray N R X n l f w) : W P (.region id l.toArray false) N R X (act n f) w := by
  rw [W_def]; exact wp_region_lit h
theorem Kp.refl {S : Nat → Prop} (w : World) : Kp S w w := ⟨rfl, rfl, rfl, Nat.le_refl _, fun _ _ _ => rfl⟩
theorem Kp.trans {S : Nat → Prop} {a b c : World} (h : Kp S a b) (k : Kp S b c) : Kp S a c :=
  ⟨k.os.trans h.os, k.tape.trans h.tape, k.output.trans h.output, Nat.le_trans h.size k.size, fun i hi hs => (k.block i (Nat.lt_of_lt_of_le hi h.size) hs).trans (h.block i hi hs)⟩
/-- A later step that writes nothing that was there at the beginning, but for 'S'. -/
theorem Kp.step {S T : Nat → Prop} {a b c : World} (h : Kp S a b) (k : Kp T b c) (hT : ∀ i, i < a.heap.size → T i → S i) : Kp S a c :=
  ⟨k.os.trans h.os, k.tape.trans h.tape, k.output.trans h.output, Nat.le_trans h.size k.size, fun i hi hs => (k.block i (Nat.lt_of_lt_of_le hi h.size) (fun ht => hs (hT i hi ht))).trans (h.block i hi hs)⟩
theorem Kp.lo {S : Nat → Prop} {a b c : World} (h : Kp S a b) (k : Lo b c) : Kp S a c := h.step k fun _ _ f => f.elim
theorem Kp.new {S : Nat → Prop} {g : Nat} {a b c : World} (h : Kp S a b) (k : Kp (· = g) b c) (hg : a.heap.size ≤ g) : Kp S a c := h.step k fun i hi e => absurd hi (by have e' : i = g := e; omega)
theorem Kp.sub {S T : Nat → Prop} {a b : World} (h : Kp S a b) (hT : ∀ i, S i → T i) : Kp T a b := ⟨h.os, h.tape, h.output, h.size, fun i hi hs => h.block i hi fun x => hs (hT i x)⟩
theorem Kp.below {a b : World} (h : Lo a b) : Below a.heap.size a b := ⟨h.os, h.tape, h.output, h.size, fun k hk => h.block k hk id⟩
theorem lo_of {a b : World} (h : Below a.heap.size a b) : Lo a b := ⟨h.os, h.tape, h.output, h.size, fun k hk _ => h.block k hk⟩
theorem kp_of {a b : World} {r : Option Nat} (h : a.grownBy b r) : Kp (fun k => r = some k) a b := ⟨h.os, h.tape, h.output, h.size, fun k hk hn => h.block k hk fun e => hn e.symm⟩
theorem Lo.refl (w : World) : Lo w w := Kp.refl w
theorem Lo.trans {a b c : World} (h : Lo a b) (k : Lo b c) : Lo a c := Kp.trans h k
theorem Lo.drew (w : World) : Lo w { w with drawn := w.drawn + 1 } := ⟨rfl, rfl, rfl, Nat.le_refl _, fun _ _ _ => rfl⟩
theorem Lo.alloc (w : World) (o : Obj) : Lo w (w.alloc o) := ⟨rfl, rfl, rfl, by simp, fun k hk _ => Below.heap_alloc _ _ _ hk⟩
theorem wpQuiet_mono' {Q Q' : Act → Prop} (hq : ∀ a, Q a → Q' a) : ∀ {l : List Oper} {a : Act}, wpQuiet P ops C Q l a → wpQuiet P ops C Q' l a
  | [], a, h => hq a h
  | o :: r, a, h => by
    unfold wpQuiet at h ⊢
    split
    · rename_i hw
      rw [if_pos hw] at h
      exact Oper.quiet_mono (fun a h => wpQuiet_mono' hq h) h
    · rename_i hw
      rw [if_neg hw] at h
      exact wpQuiet_mono' hq h
theorem W.regD {id : Nat} {l : List Oper} (hm : P.follows .mixedOrders = true) (hB : Region.lexB .any l.toArray = true)
    (h : QR P l.toArray (Lo w) n (fun f' => ∀ w', Lo w w' → N (act n f') w') l f) : W P (.region id l.toArray true) N R X (act n f) w := by
  rw [W_def]
  refine wp_region_quiet (C := Lo w) hm hB (Lo.drew w) ?_
  refine wpQuiet_mono' ?_ h
  rintro a ⟨f', rfl, h⟩ w' hw'
  exact h w' hw'
end
attribute [irreducible] SR QR Run
end Go.Proofs.YtnbbfokkpkphoaaGreatDoor.Fw
