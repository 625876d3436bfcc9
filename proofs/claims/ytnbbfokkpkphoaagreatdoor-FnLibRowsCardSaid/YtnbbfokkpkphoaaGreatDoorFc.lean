/- Operations that compute, and memory. -/
import Derived.Test.YtnbbfokkpkphoaaGreatDoorFb
namespace Go.Proofs.YtnbbfokkpkphoaaGreatDoor.Fw
open Go Go.RowKit

section
variable {P : Program} {n : Nat} {f : Env} {w : World} {v : Value} {d : Option Tmp} {t : TypeId} {p : String} {af : Array Edge} {g : Option (Nat × Bool)} {x y : Operand} {tx ty : TypeId} {a b : Int} {s r : List UInt8} {k : IntKind} {ps qs : Bool}

theorem wrap64_in {n : Int} (h : -9223372036854775808 ≤ n ∧ n ≤ 9223372036854775807) : IntKind.i64.wrap n = n := IntWalk.i64_in n h

theorem r_mv (hx : ev n f x = v) : Run P ⟨d, .move x, t, p, af, g⟩ n f w v := by subst hx; unfold Run; rfl
theorem r_as (hx : ev n f x = v) : Run P ⟨d, .assign x, t, p, af, g⟩ n f w v := by subst hx; unfold Run; rfl
theorem r_pick {c z z' : Operand} (q : Bool) (hc : ev n f c = .bool q) (hv : cond q (ev n f z) (ev n f z') = v) : Run P ⟨d, .pick c z z', t, p, af, g⟩ n f w v := by
  subst hv; cases q <;> simp [Run, execOp, hc, asBool]

theorem eg (op : BinOp) (x y : Operand) (k k' : IntKind) (a b : Int) : (eqGuard op tx x y (.int k a) (.int k' b)).run P w = .ok () w := by
  unfold eqGuard; cases op <;> simp
theorem r_add (hx : ev n f x = .int .i64 a) (hy : ev n f y = .int .i64 b) (h : -9223372036854775808 ≤ a + b ∧ a + b ≤ 9223372036854775807) : Run P ⟨d, .binOp .add tx x y ty, t, p, af, g⟩ n f w (.int .i64 (a + b)) := by
  simp [Run, execOp, hx, hy, binOp, Op.intArith, eqGuard, wrap64_in h]
theorem r_sub (hx : ev n f x = .int .i64 a) (hy : ev n f y = .int .i64 b) (h : -9223372036854775808 ≤ a - b ∧ a - b ≤ 9223372036854775807) : Run P ⟨d, .binOp .sub tx x y ty, t, p, af, g⟩ n f w (.int .i64 (a - b)) := by
  simp [Run, execOp, hx, hy, binOp, Op.intArith, eqGuard, wrap64_in h]
theorem r_mul (hx : ev n f x = .int .i64 a) (hy : ev n f y = .int .i64 b) (h : -9223372036854775808 ≤ a * b ∧ a * b ≤ 9223372036854775807) : Run P ⟨d, .binOp .mul tx x y ty, t, p, af, g⟩ n f w (.int .i64 (a * b)) := by
  simp [Run, execOp, hx, hy, binOp, Op.intArith, eqGuard, wrap64_in h]
theorem r_addW (hx : ev n f x = .int k a) (hy : ev n f y = .int k b) : Run P ⟨d, .binOp .add tx x y ty, t, p, af, g⟩ n f w (.int k (k.wrap (a + b))) := by
  simp [Run, execOp, hx, hy, binOp, Op.intArith, eqGuard]
theorem r_subW (hx : ev n f x = .int k a) (hy : ev n f y = .int k b) : Run P ⟨d, .binOp .sub tx x y ty, t, p, af, g⟩ n f w (.int k (k.wrap (a - b))) := by
  simp [Run, execOp, hx, hy, binOp, Op.intArith, eqGuard]
theorem r_mulW (hx : ev n f x = .int k a) (hy : ev n f y = .int k b) : Run P ⟨d, .binOp .mul tx x y ty, t, p, af, g⟩ n f w (.int k (k.wrap (a * b))) := by
  simp [Run, execOp, hx, hy, binOp, Op.intArith, eqGuard]
/-- '/' and '%' where neither side is below zero. -/
theorem r_quo (hx : ev n f x = .int .i64 a) (hy : ev n f y = .int .i64 b) (h : 0 ≤ a ∧ a ≤ 9223372036854775807 ∧ 1 ≤ b) : Run P ⟨d, .binOp .quo tx x y ty, t, p, af, g⟩ n f w (.int .i64 (a / b)) := by
  have hb : ¬ b = 0 := by omega
  simp [Run, execOp, hx, hy, binOp, Op.intDiv, eqGuard, hb, IntWalk.i64_quo a b h]
theorem r_rem (hx : ev n f x = .int .i64 a) (hy : ev n f y = .int .i64 b) (h : 0 ≤ a ∧ 1 ≤ b) : Run P ⟨d, .binOp .rem tx x y ty, t, p, af, g⟩ n f w (.int .i64 (a % b)) := by
  have hb : ¬ b = 0 := by omega
  simp [Run, execOp, hx, hy, binOp, Op.intDiv, eqGuard, hb, IntWalk.rem_in a b h.1]
/-- The same where the dividend may be below zero: as Go cuts. -/
theorem r_quoT (hx : ev n f x = .int .i64 a) (hy : ev n f y = .int .i64 b) (h : -9223372036854775808 ≤ a ∧ a ≤ 9223372036854775807 ∧ 1 ≤ b) : Run P ⟨d, .binOp .quo tx x y ty, t, p, af, g⟩ n f w (.int .i64 (a.tdiv b)) := by
  have hb : ¬ b = 0 := by omega
  simp [Run, execOp, hx, hy, binOp, Op.intDiv, eqGuard, hb, IntWalk.i64_quo' a b h]
theorem r_remT (hx : ev n f x = .int .i64 a) (hy : ev n f y = .int .i64 b) (h : b ≠ 0) : Run P ⟨d, .binOp .rem tx x y ty, t, p, af, g⟩ n f w (.int .i64 (a.tmod b)) := by
  simp [Run, execOp, hx, hy, binOp, Op.intDiv, eqGuard, h]
theorem r_lt (hx : ev n f x = .int k a) (hy : ev n f y = .int k b) : Run P ⟨d, .binOp .lss tx x y ty, t, p, af, g⟩ n f w (.bool (decide (a < b))) := by
  simp [Run, execOp, hx, hy, binOp, Op.intCmp, eqGuard]
theorem r_le (hx : ev n f x = .int k a) (hy : ev n f y = .int k b) : Run P ⟨d, .binOp .leq tx x y ty, t, p, af, g⟩ n f w (.bool (decide (a ≤ b))) := by
  simp [Run, execOp, hx, hy, binOp, Op.intCmp, eqGuard]
theorem r_gt (hx : ev n f x = .int k a) (hy : ev n f y = .int k b) : Run P ⟨d, .binOp .gtr tx x y ty, t, p, af, g⟩ n f w (.bool (decide (b < a))) := by
  simp [Run, execOp, hx, hy, binOp, Op.intCmp, eqGuard]
theorem r_ge (hx : ev n f x = .int k a) (hy : ev n f y = .int k b) : Run P ⟨d, .binOp .geq tx x y ty, t, p, af, g⟩ n f w (.bool (decide (b ≤ a))) := by
  simp [Run, execOp, hx, hy, binOp, Op.intCmp, eqGuard]
theorem r_eq (hx : ev n f x = .int k a) (hy : ev n f y = .int k b) : Run P ⟨d, .binOp .eql tx x y ty, t, p, af, g⟩ n f w (.bool (decide (a = b))) := by
  simp [Run, execOp, hx, hy, binOp, Op.intCmp, eqGuard]; rfl
theorem r_ne (hx : ev n f x = .int k a) (hy : ev n f y = .int k b) : Run P ⟨d, .binOp .neq tx x y ty, t, p, af, g⟩ n f w (.bool (!decide (a = b))) := by
  simp [Run, execOp, hx, hy, binOp, Op.intCmp, eqGuard, bne]; rfl
theorem r_eq_s (hx : ev n f x = .int k a) (hy : ev n f y = .int k a) : Run P ⟨d, .binOp .eql tx x y ty, t, p, af, g⟩ n f w (.bool true) := by
  have := r_eq (P := P) (d := d) (t := t) (p := p) (af := af) (g := g) (tx := tx) (ty := ty) (w := w) hx hy; rwa [decide_eq_true rfl] at this
theorem r_ne_s (hx : ev n f x = .int k a) (hy : ev n f y = .int k a) : Run P ⟨d, .binOp .neq tx x y ty, t, p, af, g⟩ n f w (.bool false) := by
  have := r_ne (P := P) (d := d) (t := t) (p := p) (af := af) (g := g) (tx := tx) (ty := ty) (w := w) hx hy; rwa [decide_eq_true rfl] at this
theorem r_not (hx : ev n f x = .bool ps) : Run P ⟨d, .unOp .not tx x, t, p, af, g⟩ n f w (.bool (!ps)) := by
  simp [Run, execOp, hx, Op.unary]
theorem r_neg (hx : ev n f x = .int .i64 a) (h : -9223372036854775807 ≤ a ∧ a ≤ 9223372036854775807) : Run P ⟨d, .unOp .neg tx x, t, p, af, g⟩ n f w (.int .i64 (-a)) := by
  simp [Run, execOp, hx, Op.unary, Op.intArith, wrap64_in (n := -a) (by omega)]
theorem eq_bool (ht : P.underlying tx = some .bool) (q q' : Bool) : (Op.equal tx (.bool q) (.bool q')).run P w = .ok (q == q') w := by
  have key : ∀ dd, (Op.equalIn (dd + 1) tx (.bool q) (.bool q')).run P w = .ok (q == q') w := fun dd => by
    simp only [Op.equalIn, Sem.run_bind, run_underlying ht, Result.andThen_ok, Sem.run_pure]
  exact key 9999
theorem r_eqb (ht : P.underlying tx = some .bool) (hx : ev n f x = .bool ps) (hy : ev n f y = .bool qs) : Run P ⟨d, .binOp .eql tx x y ty, t, p, af, g⟩ n f w (.bool (ps == qs)) := by
  simp [Run, execOp, hx, hy, binOp, eqGuard, eq_bool ht]
theorem r_neb (ht : P.underlying tx = some .bool) (hx : ev n f x = .bool ps) (hy : ev n f y = .bool qs) : Run P ⟨d, .binOp .neq tx x y ty, t, p, af, g⟩ n f w (.bool (!(ps == qs))) := by
  simp [Run, execOp, hx, hy, binOp, eqGuard, eq_bool ht]
theorem r_eqb_s (ht : P.underlying tx = some .bool) (hx : ev n f x = .bool ps) (hy : ev n f y = .bool ps) : Run P ⟨d, .binOp .eql tx x y ty, t, p, af, g⟩ n f w (.bool true) := by
  have := r_eqb (P := P) (d := d) (t := t) (p := p) (af := af) (g := g) (ty := ty) (w := w) ht hx hy; rwa [show (ps == ps) = true from by simp] at this
theorem r_neb_s (ht : P.underlying tx = some .bool) (hx : ev n f x = .bool ps) (hy : ev n f y = .bool ps) : Run P ⟨d, .binOp .neq tx x y ty, t, p, af, g⟩ n f w (.bool false) := by
  have := r_neb (P := P) (d := d) (t := t) (p := p) (af := af) (g := g) (ty := ty) (w := w) ht hx hy; rwa [show (!(ps == ps)) = false from by simp] at this
theorem r_ext {l : List Value} {i : Nat} (hx : ev n f x = .tuple l.toArray) (hv : l[i]? = some v) : Run P ⟨d, .extract x i, t, p, af, g⟩ n f w v := by
  simp [Run, execOp, hx, Instr.extract, hv]
theorem r_mkf {fn : Fn} {fi ca : List Operand} {l m : List Value} (h1 : fi.map (ev n f) = l) (h2 : ca.map (ev n f) = m) : Run P ⟨d, .makeFunc fn fi.toArray ca.toArray, t, p, af, g⟩ n f w (.func fn l.toArray m.toArray) := by
  subst h1 h2
  simp [Run, execOp, Instr.makeFunc]

/-! Strings: as lists of bytes. -/
def str (l : List UInt8) : Value := .string ⟨l.toArray⟩
theorem toList_mk (l : List UInt8) : (⟨l.toArray⟩ : ByteArray).toList = l := by
  rw [ByteArray.toList_eq]
theorem size_mk (l : List UInt8) : (⟨l.toArray⟩ : ByteArray).size = l.length := rfl
theorem append_mk (s r : List UInt8) : (⟨s.toArray⟩ ++ ⟨r.toArray⟩ : ByteArray) = ⟨(s ++ r).toArray⟩ := by
  apply ByteArray.ext; simp
theorem r_cat (hx : ev n f x = str s) (hy : ev n f y = str r) (h : s.length + r.length ≤ 9223372036854775807) : Run P ⟨d, .binOp .add tx x y ty, t, p, af, g⟩ n f w (str (s ++ r)) := by
  have h2 : ¬ (9223372036854775807 : Int) < (s.length : Int) + (r.length : Int) := by omega
  simp [Run, execOp, hx, hy, str, binOp, eqGuard, Op.stringOp, size_mk, append_mk, h2]
theorem r_len_s (ht : P.underlying tx = some .string) (hx : ev n f x = str s) : Run P ⟨d, .call ⟨.builtin .len, #[x], #[tx]⟩, t, p, af, g⟩ n f w (.int .i64 s.length) := by
  simp [Run, execOp, resolve, invoke, builtin, Builtin.len_, hx, str, run_underlying ht, goInt, size_mk]
theorem r_len {A : Option Addr} {m c : Nat} {e : TypeId} (ht : P.underlying tx = some (.slice e)) (hx : ev n f x = .slice A m c) : Run P ⟨d, .call ⟨.builtin .len, #[x], #[tx]⟩, t, p, af, g⟩ n f w (.int .i64 m) := by
  simp [Run, execOp, resolve, invoke, builtin, Builtin.len_, hx, run_underlying ht, goInt]

theorem str_eq (s r : List UInt8) : (({ data := s.toArray } : ByteArray).toList == ({ data := r.toArray } : ByteArray).toList) = decide (s = r) := by
  rw [toList_mk, toList_mk, Bool.eq_iff_iff]; simp
theorem r_eqs (hx : ev n f x = str s) (hy : ev n f y = str r) : Run P ⟨d, .binOp .eql tx x y ty, t, p, af, g⟩ n f w (.bool (decide (s = r))) := by
  simp only [Run, execOp, hx, hy, str, binOp, eqGuard, Op.stringOp, str_eq]; rfl
theorem r_nes (hx : ev n f x = str s) (hy : ev n f y = str r) : Run P ⟨d, .binOp .neq tx x y ty, t, p, af, g⟩ n f w (.bool (!decide (s = r))) := by
  simp only [Run, execOp, hx, hy, str, binOp, eqGuard, Op.stringOp, str_eq]; rfl

theorem r_eqs_s (hx : ev n f x = str s) (hy : ev n f y = str s) : Run P ⟨d, .binOp .eql tx x y ty, t, p, af, g⟩ n f w (.bool true) := by
  have := r_eqs (P := P) (d := d) (t := t) (p := p) (af := af) (g := g) (tx := tx) (ty := ty) (w := w) hx hy; rwa [decide_eq_true rfl] at this
theorem r_nes_s (hx : ev n f x = str s) (hy : ev n f y = str s) : Run P ⟨d, .binOp .neq tx x y ty, t, p, af, g⟩ n f w (.bool false) := by
  have := r_nes (P := P) (d := d) (t := t) (p := p) (af := af) (g := g) (tx := tx) (ty := ty) (w := w) hx hy; rwa [decide_eq_true rfl] at this

/-! Memory. -/
def adr (A : Option Addr) : Addr := A.getD ⟨0, 0, none⟩
def TAgg (P : Program) (t : TypeId) (m : Nat) : Prop := (∀ w, (isAgg t).run P w = .ok true w) ∧ ∀ w, (sizeOf t).run P w = .ok m w
def TSca (P : Program) (t : TypeId) : Prop := (∀ w, (isAgg t).run P w = .ok false w) ∧ ∀ w, (sizeOf t).run P w = .ok 1 w
def FA (P : Program) (s i o : Nat) : Prop := ∀ a w, (Instr.fieldAt s (.pointer (some a)) i).run P w = .ok (.pointer (some (a.add o))) w
def TSl (P : Program) (t e sz : Nat) : Prop := P.underlying t = some (.slice e) ∧ ∀ w, (sizeOf e).run P w = .ok sz w
def TZ (P : Program) (e : TypeId) (z : Value) : Prop := ∀ w, (zeroValue e).run P w = .ok z w

theorem r_fa {i off : Nat} {s : TypeId} {a : Addr} (h : FA P s i off) (hx : ev n f x = .pointer (some a)) : Run P ⟨d, .fieldAddr s x i, t, p, af, g⟩ n f w (.pointer (some (a.add off))) := by
  simp [Run, execOp, hx, h a w]
theorem r_ld {a : Addr} (ht : TSca P tx) (hx : ev n f x = .pointer (some a)) (hc : w.cell? a = some v) : Run P ⟨d, .load tx x, t, p, af, g⟩ n f w v := by
  simp [Run, execOp, hx, Instr.loadAt, Instr.sureAddr, loadVar, ht.1 w, load, Sem.run, hc]
theorem r_lda {a : Addr} {l : List Value} {m : Nat} (ht : TAgg P tx m) (hx : ev n f x = .pointer (some a)) (hc : ∀ j u, l[j]? = some u → w.cell? (a.add j) = some u) (hl : l.length = m) : Run P ⟨d, .load tx x, t, p, af, g⟩ n f w (.agg l.toArray) := by
  have := run_loadCells_list (P := P) w a l hc
  subst hl
  simp [Run, execOp, hx, Instr.loadAt, Instr.sureAddr, loadVar, ht.1 w, ht.2 w, this]
theorem r_ix {e sz m c : Nat} {A : Option Addr} {k : IntKind} {i : Nat} (ht : TSl P tx e sz) (hx : ev n f x = .slice A m c) (hy : ev n f y = .int k i) (hi : i < m) (hA : A.isSome = true) : Run P ⟨d, .indexAddr tx x y, t, p, af, g⟩ n f w (.pointer (some ((adr A).add (i * sz)))) := by
  obtain ⟨a, rfl⟩ := Option.isSome_iff_exists.1 hA
  have h1 : (0 : Int) ≤ i ∧ (i : Int) < m := by omega
  simp [Run, execOp, hx, hy, Instr.indexAt, asIntOf, run_underlying ht.1, h1, hi, ht.2 w, adr]
theorem r_fld {i : Nat} {s : TypeId} {l : List Value} (h : ∀ w, (Instr.field s (.agg l.toArray) i).run P w = .ok v w) (hx : ev n f x = .agg l.toArray) : Run P ⟨d, .field s x i, t, p, af, g⟩ n f w v := by
  simp [Run, execOp, hx, h w]

/-! Blocks of the call's own. -/
def Blk (w : World) (g : Nat) (e : TypeId) (l : List Value) : Prop := w.heap[g]? = some (.cells l.toArray e (0, 0))
/-- 'vs' written over 'l' from place 'o' on. -/
def spl (l : List Value) (o : Nat) (vs : List Value) : List Value := l.take o ++ vs ++ l.drop (o + vs.length)

section
variable {w w' : World} {g : Nat} {e : TypeId} {l : List Value}
theorem Blk.lt (h : Blk w g e l) : g < w.heap.size := by
  rcases Nat.lt_or_ge g w.heap.size with hlt | hge
  · exact hlt
  · unfold Blk at h; rw [Array.getElem?_eq_none hge] at h; cases h
theorem Blk.lo (h : Blk w g e l) (k : Lo w w') : Blk w' g e l := (k.block g h.lt id).trans h
theorem Blk.kp {S : Nat → Prop} (h : Blk w g e l) (k : Kp S w w') (hr : ¬ S g) : Blk w' g e l := (k.block g h.lt hr).trans h
theorem Blk.kn {q : Nat} (h : Blk w g e l) (k : Kp (· = q) w w') (hr : ¬ g = q) : Blk w' g e l := h.kp k hr
theorem Blk.cell0 (h : Blk w g e l) : w.cell? ⟨g, 0, none⟩ = l[0]? := by
  rw [cell_of_row w g 0 _ e (0, 0) h]; simp
theorem add_at (g o j : Nat) : (⟨g, o, none⟩ : Addr).add j = ⟨g, o + j, none⟩ := by
  unfold Addr.add; split <;> simp_all
theorem add_add (a : Addr) (i j : Nat) : (a.add i).add j = a.add (i + j) := by
  unfold Addr.add
  by_cases hi : i = 0 <;> by_cases hj : j = 0 <;> simp [hi, hj, Nat.add_assoc]
theorem add_block (a : Addr) (n : Nat) : (a.add n).block = a.block := by unfold Addr.add; split <;> rfl
theorem Blk.cell (h : Blk w g e l) {j : Nat} {u : Value} (hu : l[j]? = some u) : w.cell? ((⟨g, 0, none⟩ : Addr).add j) = some u := by
  rw [add_at, cell_of_row w g _ _ e (0, 0) h]; simpa using hu
/-- 'm' cells from place 'o' on. -/
theorem Blk.cells (h : Blk w g e l) {o : Nat} {vs : List Value} (hv : (l.drop o).take vs.length = vs) {j : Nat} {u : Value} (hu : vs[j]? = some u) : w.cell? (((⟨g, 0, none⟩ : Addr).add o).add j) = some u := by
  rw [add_add]
  refine h.cell ?_
  rw [← hv] at hu
  rw [List.getElem?_take] at hu
  split at hu
  · rw [List.getElem?_drop] at hu; exact hu
  · cases hu
theorem Blk.cellsW (h : Blk w g e l) {j : Nat} {u : Value} (hu : l[j]? = some u) : w.cell? ((⟨g, 0, none⟩ : Addr).add j) = some u := h.cell hu
theorem Blk.cell2 (h : Blk w g e l) {i j : Nat} {u : Value} (hu : l[i + j]? = some u) : w.cell? (((⟨g, 0, none⟩ : Addr).add i).add j) = some u := by
  rw [add_add]; exact h.cell hu
end

section
variable {P : Program} {ops : Array Oper} {N R : Act → World → Prop} {X : Nat → Act → World → Prop} {n : Nat} {rest : List Oper} {f : Env} {w : World} {v : Value} {d : Nat} {t e : TypeId} {p : String} {af : Array Edge} {x y : Operand}
theorem SR.new {o : Obj} {op : Op} (hr : ∀ w, (execOp (ev n f) ⟨some d, op, t, p, af, none⟩).run P w = .ok (.value (.pointer (some ⟨w.heap.size, 0, none⟩))) (w.alloc o))
    (h : ∀ g w', g = w.heap.size → Lo w w' → w'.heap.size = g + 1 → w'.heap[g]? = some o → SR P ops N R X n rest (set f d (.pointer (some ⟨g, 0, none⟩))) w') : SR P ops N R X n (⟨some d, op, t, p, af, none⟩ :: rest) f w := by
  refine SR.run (hr w) rfl rfl (h _ _ rfl ?_ ?_ ?_)
  · exact Lo.alloc _ _
  · simp
  · exact heap_alloc_new w _
theorem SR.alloc {z : Value} {l : List Value} (hz : TZ P e z) (hl : z.cells = l.toArray)
    (h : ∀ g w', g = w.heap.size → Lo w w' → w'.heap.size = g + 1 → Blk w' g e l → SR P ops N R X n rest (set f d (.pointer (some ⟨g, 0, none⟩))) w') : SR P ops N R X n (⟨some d, .alloc e, t, p, af, none⟩ :: rest) f w := by
  refine SR.new (o := .cells l.toArray e) (fun w => ?_) h
  simp [execOp, Instr.alloc, hz w, newVar, newRow, newObj, Sem.run, hl]
theorem SR.box {l : List Value} (hx : ev n f x = v) (hl : v.cells = l.toArray)
    (h : ∀ g w', g = w.heap.size → Lo w w' → w'.heap.size = g + 1 → Blk w' g e l → SR P ops N R X n rest (set f d (.pointer (some ⟨g, 0, none⟩))) w') : SR P ops N R X n (⟨some d, .box e x, t, p, af, none⟩ :: rest) f w := by
  refine SR.new (o := .cells l.toArray e) (fun w => ?_) h
  simp [execOp, Instr.box, hx, newVar, newRow, newObj, Sem.run, hl]
theorem SR.store {g o : Nat} {a : Addr} {l vs : List Value} (hs : ∀ w, (sizeOf t).run P w = .ok vs.length w) (hx : ev n f x = .pointer (some a)) (ha : a = ⟨g, o, none⟩) (hy : ev n f y = v) (hv : v.cells = vs.toArray)
    (hb : Blk w g e l) (ho : o + vs.length ≤ l.length) (h1 : vs.all (·.oneCell') = true) {t' : TypeId}
    (h : ∀ w', Kp (· = g) w w' → w'.heap.size = w.heap.size → Blk w' g e (spl l o vs) → SR P ops N R X n rest f w') : SR P ops N R X n (⟨none, .store t x y, t', p, af, none⟩ :: rest) f w := by
  subst ha
  have hst := run_storeCells_at (P := P) g o e vs 0 l.toArray w hb (by simpa using ho) (fun u hu => List.all_eq_true.1 h1 u hu)
  refine SR.run_skip (w' := w.setRow g (spl l o vs).toArray) ?_ rfl rfl (h _ ?_ ?_ ?_)
  · simp only [Nat.add_zero] at hst
    have hv' : v.cells.toList = vs := by rw [hv]
    simp [execOp, hx, hy, Instr.storeAt, Instr.sureAddr, storeVar, hs w, hv, hst, spl]
  · refine ⟨rfl, rfl, rfl, by simp [World.setRow], fun k hk hne => ?_⟩
    have : ¬ g = k := fun e => hne e.symm
    simp [World.setRow, Array.getElem?_modify, this]
  · simp [World.setRow]
  · exact setRow_heap w g _ _ e _ hb
end
end
end Go.Proofs.YtnbbfokkpkphoaaGreatDoor.Fw
