/- Regions that draw their order and write. -/
import Derived.Test.YtnbbfokkpkphoaaGreatDoorFn
import Derived.OrdersHeld
import Derived.StillTail
namespace Go.Proofs.YtnbbfokkpkphoaaGreatDoor.Fw
open Go Go.RowKit
/-- Whatever order is picked from here on. -/
def AH (P : Program) (ops : Array Oper) (N R : Act → World → Prop) (X : Nat → Act → World → Prop) (S : World → Prop) (n fuel : Nat) (listed : Array Bool) (f : Env) (w : World) : Prop :=
  wpAnyH P .any ops (mk N R X) S fuel listed (act n f) w
section
variable {P : Program} {N R : Act → World → Prop} {X : Nat → Act → World → Prop} {S : World → Prop} {n fuel : Nat} {listed : Array Bool} {f : Env} {w : World} {l : List Oper} {v : Value} {op : Op} {t : TypeId} {p : String} {af : Array Edge} {d : Nat} {J : Env → World → Prop}
/-- The operation's guard lets it run. -/
def Wn (l : List Oper) (n : Nat) (f : Env) (o : Oper) : Prop :=
  match o.guard with
  | none => True
  | some (j, b) => yn l f n j = some b
theorem Wn.wanted {o : Oper} (h : Wn l n f o) : Region.wanted o (yielded l.toArray (act n f).tmps) = true := by
  unfold Wn at h
  unfold Region.wanted
  cases hg : o.guard with
  | none => rfl
  | some jb =>
    obtain ⟨j, b⟩ := jb
    rw [hg] at h
    simp only at h ⊢
    rw [yielded_act, h]; simp
def tk (l : List Oper) (listed : Array Bool) (i : Nat) : Bool := Region.noSelect l.toArray && Region.free .any l.toArray listed i && (Region.ready .any l.toArray listed).contains i
theorem tk_spec {i : Nat} (h : tk l listed i = true) : Region.noSelect l.toArray = true ∧ Region.free .any l.toArray listed i = true ∧ (Region.ready .any l.toArray listed).contains i = true := by
  unfold tk at h
  simp only [Bool.and_eq_true] at h
  exact ⟨h.1.1, h.1.2, h.2⟩
variable {gd : Option (Nat × Bool)} {j : Nat} {b : Bool}
theorem AH.take (i : Nat) (hi : l[i]? = some ⟨some d, op, t, p, af, gd⟩) (hk : tk l listed i = true) (hy : Wn l n f ⟨some d, op, t, p, af, gd⟩)
    (hS : S w) (hrun : ∀ w', S w' → Run P ⟨some d, op, t, p, af, gd⟩ n f w' v) (k : AH P l.toArray N R X S n fuel (listed.setIfInBounds i true) (set f d v) w) : AH P l.toArray N R X S n (fuel + 1) listed f w := by
  unfold AH at *
  obtain ⟨hs, hf, hr⟩ := tk_spec hk
  have hi' : l.toArray[i]? = some ⟨some d, op, t, p, af, gd⟩ := by simpa using hi
  refine wpAnyH_take hi' hs hf hr (fun c a w h => h.elim) (v := v) (.inl ⟨hy.wanted, fun w' hw' => ?_⟩) hS ?_
  · have := hrun w' hw'
    unfold Run at this
    rw [eval_act]; exact this
  · rw [put_act]; exact k
theorem AH.skip {dd : Option Nat} (i : Nat) (hi : l[i]? = some ⟨dd, op, t, p, af, some (j, b)⟩) (hk : tk l listed i = true) (hy : ¬ yn l f n j = some b)
    (hS : S w) (k : AH P l.toArray N R X S n fuel (listed.setIfInBounds i true) (match dd with | some d => set f d undef | none => f) w) : AH P l.toArray N R X S n (fuel + 1) listed f w := by
  unfold AH at *
  obtain ⟨hs, hf, hr⟩ := tk_spec hk
  have hi' : l.toArray[i]? = some ⟨dd, op, t, p, af, some (j, b)⟩ := by simpa using hi
  refine wpAnyH_take hi' hs hf hr (fun c a w h => h.elim) (v := undef) (.inr ⟨?_, rfl⟩) hS ?_
  · simp only [Region.wanted, yielded_act]
    cases hyn : yn l f n j with
    | none => rfl
    | some c => 
      have : ¬ c = b := fun e => hy (by rw [hyn, e])
      simpa using this
  · cases dd with
    | none => exact k
    | some d => rw [put_act]; exact k
theorem AH.s' (i : Nat) (hi : l[i]? = some ⟨some d, op, t, p, af, some (j, b)⟩) (hk : tk l listed i = true) (hy : yn l f n j = some (!b))
    (hS : S w) (k : AH P l.toArray N R X S n fuel (listed.setIfInBounds i true) (set f d undef) w) : AH P l.toArray N R X S n (fuel + 1) listed f w :=
  AH.skip i hi hk (by rw [hy]; cases b <;> simp) hS k
theorem AH.u' (i : Nat) (hi : l[i]? = some ⟨some d, op, t, p, af, some (j, b)⟩) (hk : tk l listed i = true) (hy : yn l f n j = none)
    (hS : S w) (k : AH P l.toArray N R X S n fuel (listed.setIfInBounds i true) (set f d undef) w) : AH P l.toArray N R X S n (fuel + 1) listed f w :=
  AH.skip i hi hk (by rw [hy]; simp) hS k
theorem AH.s0 (i : Nat) (hi : l[i]? = some ⟨none, op, t, p, af, some (j, b)⟩) (hk : tk l listed i = true) (hy : yn l f n j = some (!b))
    (hS : S w) (k : AH P l.toArray N R X S n fuel (listed.setIfInBounds i true) f w) : AH P l.toArray N R X S n (fuel + 1) listed f w :=
  AH.skip i hi hk (by rw [hy]; cases b <;> simp) hS k
theorem AH.split (ht : b = true → AH P l.toArray N R X S n fuel listed (set f d (.bool true)) w) (hf : b = false → AH P l.toArray N R X S n fuel listed (set f d (.bool false)) w) : AH P l.toArray N R X S n fuel listed (set f d (.bool b)) w := by
  cases b
  · exact hf rfl
  · exact ht rfl
theorem AH.known {b c : Bool} (h : b = c) (k : AH P l.toArray N R X S n fuel listed (set f d (.bool c)) w) : AH P l.toArray N R X S n fuel listed (set f d (.bool b)) w := h ▸ k
theorem AH.splitD {q : Prop} [Decidable q] (ht : q → AH P l.toArray N R X S n fuel listed (set f d (.bool true)) w) (hf : ¬ q → AH P l.toArray N R X S n fuel listed (set f d (.bool false)) w) : AH P l.toArray N R X S n fuel listed (set f d (.bool (decide q))) w :=
  AH.split (fun h => ht (of_decide_eq_true h)) (fun h => hf (of_decide_eq_false h))
theorem AH.splitN {q : Prop} [Decidable q] (ht : ¬ q → AH P l.toArray N R X S n fuel listed (set f d (.bool true)) w) (hf : q → AH P l.toArray N R X S n fuel listed (set f d (.bool false)) w) : AH P l.toArray N R X S n fuel listed (set f d (.bool (!decide q))) w :=
  AH.split (fun h => ht (of_decide_eq_false (by simpa using h))) (fun h => hf (of_decide_eq_true (by simpa using h)))
theorem wp_of_SR {N' : Act → World → Prop} {ops : Array Oper} {o : Oper} (hg : Region.wanted o (yielded ops (act n f).tmps) = true) (h : SR P ops N' R X n [o] f w) : ∃ K : Act → World → Prop, (∀ a w, K a w → N' a w) ∧ o.wp P (act n f) w K (mk N R X) := by
  unfold SR at h
  unfold wpList at h
  rw [if_pos hg] at h
  rcases h with h | ⟨_, a, w, hq⟩
  · refine ⟨N', fun _ _ h => h, ?_⟩
    unfold Oper.wp at *
    generalize (execOp (act n f).eval o).run P w = r at *
    cases r with
    | ok x w' => cases x with
      | value v => exact h
      | skip => exact h
      | defer d => exact h
      | enter g args =>
        refine Calls.mono h fun e w'' he => ?_
        cases e
        · exact he
        · exact he.elim
        · obtain ⟨a, w, q⟩ := he
          exact q.elim
      | row s args => exact h
      | _ => exact h.elim
    | halt hh w' => cases hh with
      | panic v => exact h.elim
      | _ => exact h.elim
  · exact hq.elim
/-- One that may come up, carried out. -/
def Br (P : Program) (l : List Oper) (N R : Act → World → Prop) (X : Nat → Act → World → Prop) (S : World → Prop) (n fuel : Nat) (listed : Array Bool) (f : Env) (w : World) (i : Nat) : Prop :=
  ∃ o, l[i]? = some o ∧ Wn l n f o ∧ SR P l.toArray (fun a' w' => S w' ∧ ∃ f', a' = act n f' ∧ AH P l.toArray N R X S n fuel (listed.setIfInBounds i true) f' w') R X n [o] f w
theorem Br.mk' {i : Nat} {o : Oper} (hi : l[i]? = some o) (hw : Wn l n f o) (h : SR P l.toArray (fun a' w' => S w' ∧ ∃ f', a' = act n f' ∧ AH P l.toArray N R X S n fuel (listed.setIfInBounds i true) f' w') R X n [o] f w) : Br P l N R X S n fuel listed f w i := ⟨o, hi, hw, h⟩
theorem AH.br (rs : List Nat) (hr : Region.ready .any l.toArray listed = rs) (hne : rs.isEmpty = false) (h : rs.foldr (fun i q => Br P l N R X S n fuel listed f w i ∧ q) True) : AH P l.toArray N R X S n (fuel + 1) listed f w := by
  unfold AH
  refine wpAnyH_all hr (by intro e; rw [e] at hne; simp at hne) fun i hi => ?_
  have hb : ∀ (rs : List Nat), rs.foldr (fun i q => Br P l N R X S n fuel listed f w i ∧ q) True → i ∈ rs → Br P l N R X S n fuel listed f w i := by
    intro rs
    induction rs with
    | nil => intro _ h; simp at h
    | cons j r ih =>
      intro h hi
      rcases List.mem_cons.1 hi with rfl | hi
      · exact h.1
      · exact ih h.2 hi
  obtain ⟨o, hi', hw, hs⟩ := hb rs h hi
  have hi2 : l.toArray[i]? = some o := by simpa using hi'
  unfold wpOp
  simp only [hi2]
  rw [if_pos hw.wanted]
  obtain ⟨K, hK, hw2⟩ := wp_of_SR (N := N) hw.wanted hs
  refine .inl (Oper.wp_mono (fun a w hk => ?_) hw2)
  obtain ⟨h1, f', rfl, h2⟩ := hK a w hk
  unfold AH at h2
  exact ⟨h1, h2⟩
theorem AH.done (hr : Region.ready .any l.toArray listed = []) (h : J f w) : AH P l.toArray (fun a w => ∃ f', a = act n f' ∧ J f' w) R X S n fuel listed f w := by
  unfold AH
  exact wpAnyH_done hr ⟨f, rfl, h⟩ _
theorem AH.via (L : Array Bool) (F : Nat) (J : Env → World → Prop) (h : ∀ f' w', J f' w' → AH P l.toArray N R X S n F L f' w') (k : (∀ f' w', J f' w' → AH P l.toArray N R X S n F L f' w') → AH P l.toArray N R X S n fuel listed f w) : AH P l.toArray N R X S n fuel listed f w := k h
theorem AH.goto {L : Array Bool} {F : Nat} (hl : listed = L) (hf : fuel = F) (h : AH P l.toArray N R X S n F L f w) : AH P l.toArray N R X S n fuel listed f w := by subst hl; subst hf; exact h
theorem W.regA {id : Nat} (S : World → Prop) (J : Env → World → Prop) (hm : P.follows .mixedOrders = true) (h : ∀ w1, Lo w w1 → AH P l.toArray (fun a w => ∃ f', a = act n f' ∧ J f' w) R X S n l.length (Array.replicate l.length false) f w1)
    (k : ∀ f' w', J f' w' → N (act n f') w') : W P (.region id l.toArray true) N R X (act n f) w := by
  have h1 := h _ (Lo.drew w)
  unfold AH at h1
  have : W P (.region id l.toArray true) (fun a w => ∃ f', a = act n f' ∧ J f' w) R X (act n f) w := by
    rw [W_def]
    refine wp_region_held (S := S) hm ?_
    simpa using h1
  refine W.mono this (fun a w' h => ?_) (fun _ _ h => h) (fun _ _ _ h => h)
  obtain ⟨f', rfl, hj⟩ := h
  exact k f' w' hj
/-- Reads, then what writes, in their one order. -/
def TR (P : Program) (ops : Array Oper) (n : Nat) (K : Env → Prop) (l : List Oper) (f : Env) (w : World) : Prop := wpStill P ops w (fun a => ∃ f', a = act n f' ∧ K f') l (act n f)
theorem TR.nil {ops : Array Oper} {K : Env → Prop} (h : K f) : TR P ops n K [] f w := ⟨f, rfl, h⟩
theorem TR.q' {ops : Array Oper} {rest : List Oper} {K : Env → Prop} (hr : Run P ⟨some d, op, t, p, af, none⟩ n f w v) (k : TR P ops n K rest (set f d v) w) : TR P ops n K (⟨some d, op, t, p, af, none⟩ :: rest) f w := by
  unfold TR wpStill
  rw [if_pos (by simp [Region.wanted])]
  unfold Oper.still
  unfold Run at hr
  rw [eval_act, hr]
  simp only [Oper.stillUpon, true_and, put_act]
  exact k
theorem wpStill_mono' {ops : Array Oper} {Q Q' : Act → Prop} (hq : ∀ a, Q a → Q' a) : ∀ {l : List Oper} {a : Act}, wpStill P ops w Q l a → wpStill P ops w Q' l a
  | [], a, h => hq a h
  | o :: r, a, h => by
    unfold wpStill at h ⊢
    split
    · rename_i hw
      rw [if_pos hw] at h
      unfold Oper.still at *
      generalize (execOp a.eval o).run P w = res at *
      cases res with
      | ok x w' => cases x with
        | value v => exact ⟨h.1, wpStill_mono' hq h.2⟩
        | skip => exact ⟨h.1, wpStill_mono' hq h.2⟩
        | enter f args => obtain ⟨h1, v, h2, h3⟩ := h; exact ⟨h1, v, h2, wpStill_mono' hq h3⟩
        | _ => exact h
      | halt hh w' => exact h
    · rename_i hw
      rw [if_neg hw] at h
      exact wpStill_mono' hq h
theorem W.regT {id : Nat} (k : Nat) (hm : P.follows .mixedOrders = true) (hB : Region.lexTailB .any l.toArray k = true)
    (h : ∀ w1, Lo w w1 → TR P l.toArray n (fun f' => SR P l.toArray N R X n (l.drop k) f' w1) (l.take k) f w1) : W P (.region id l.toArray true) N R X (act n f) w := by
  rw [W_def]
  refine wp_region_still_tail k hm hB ?_
  refine wpStill_mono' (fun a ha => ?_) (h _ (Lo.drew w))
  obtain ⟨f', rfl, hs⟩ := ha
  unfold SR at hs
  exact hs
end
attribute [irreducible] AH TR Br
end Go.Proofs.YtnbbfokkpkphoaaGreatDoor.Fw
