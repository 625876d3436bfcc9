/- Numerals that are read, and errors: plain words and rules. -/
import Derived.Test.YtnbbfokkpkphoaaGreatDoorNa
import Derived.WideLaws
namespace Go.Proofs.YtnbbfokkpkphoaaGreatDoor
open Go Go.RowKit Fw
/-- An error that is nil where 'p' holds. -/
def Fw.ErrIs (v : Value) (p : Prop) : Prop := (p ∧ v = .nilIface) ∨ (¬ p ∧ ∃ t x, v = .iface t x)
section
variable {P : Program} {n : Nat} {f : Env} {w : World} {d : Option Tmp} {t tx ty : TypeId} {q : String} {af : Array Edge} {g : Option (Nat × Bool)} {x : Operand} {v : Value} {p : Prop} [Decidable p]
theorem Fw.r_neqErr (hi : P.underlying tx = some (.interface (P.methodsAt tx))) (hx : ev n f x = v) (hE : ErrIs v p) : Run P ⟨d, .binOp .neq tx x (.const .nilIface) ty, t, q, af, g⟩ n f w (.bool (!decide p)) := by
  have hy : ev n f (.const .nilIface) = .nilIface := rfl
  rcases hE with ⟨hp, rfl⟩ | ⟨hp, a, b, rfl⟩
  · have h := run_neq_nil_nil (P := P) w tx hi
    simp [Run, execOp, hx, hy, hp, eqGuard, h]
  · have h := run_neq_held_nil (P := P) w tx a b hi
    simp [Run, execOp, hx, hy, hp, eqGuard, h]
theorem Fw.r_sub8 {y : Operand} {z z2 : Int} (hx : ev n f x = .int .u8 z) (hy : ev n f y = .int .u8 z2) (h : 0 ≤ z - z2 ∧ z - z2 ≤ 255) : Run P ⟨d, .binOp .sub tx x y ty, t, q, af, g⟩ n f w (.int .u8 (z - z2)) := by
  have h2 := r_subW (P := P) (d := d) (tx := tx) (ty := ty) (t := t) (p := q) (af := af) (g := g) (w := w) hx hy
  rwa [IntWalk.u8_in _ h] at h2
end
/-- A text that the library reads as a number. -/
def atB (s : List UInt8) : Bool := match Lib.atoiAll s with | .ok _ => true | _ => false
def AtIs (s : List UInt8) (n : Int) : Prop := (-9223372036854775808 ≤ n ∧ n ≤ 9223372036854775807) ∧ (atB s = true → Lib.atoiAll s = .ok n)
section
variable {s T : List UInt8} {n v : Int} {k : Nat}
theorem par_ok (hA : AtIs s n) (h : ¬ (¬ atB s = true ∨ ¬ (-999999 ≤ n ∧ n ≤ 999999) ∨ ¬ Lib.itoa n = s)) : readN s = (n, true) :=
  readN_yes ⟨Classical.not_not.1 fun q => h (.inr (.inl q)), Classical.not_not.1 fun q => h (.inr (.inr q))⟩
theorem par_not (hA : AtIs s n) (h : ¬ atB s = true ∨ ¬ (-999999 ≤ n ∧ n ≤ 999999) ∨ ¬ Lib.itoa n = s) : readN s = (0, false) := readN_no fun m hm => by
  have h1 := num_atoi hm
  have h2 : atB s = true := by unfold atB; rw [h1]
  have h3 := hA.2 h2
  rw [h1] at h3; injection h3 with h3; subst h3
  rcases h with h | h | h
  · exact h h2
  · exact h hm.1
  · exact h hm.2
theorem strip_yes (h : 1 < (s.length : Int) ∧ ((gt s 0).toNat : Int) = 45) : s.drop 1 = stripS s := by
  unfold stripS; rw [if_pos ⟨by omega, UInt8.toNat_inj.1 (show (gt s 0).toNat = 45 by omega)⟩]
theorem strip_no (h : ¬ (1 < (s.length : Int) ∧ ((gt s 0).toNat : Int) = 45)) : s = stripS s := by
  unfold stripS; rw [if_neg (fun k => h ⟨by omega, by rw [k.2]; rfl⟩)]
theorem read_len (hT : T = stripS s) (h : ¬ (1 ≤ (T.length : Int) ∧ (T.length : Int) ≤ 6)) : readN s = (0, false) := readN_no fun m hm => by
  have := num_len hm; subst hT; omega
theorem read_dig (hT : T = stripS s) (hk : k < T.length) (h : ((gt T k).toNat : Int) < 48 ∨ 57 < ((gt T k).toNat : Int)) : readN s = (0, false) := readN_no fun m hm => by
  subst hT; have := num_dig hm hk; omega
theorem read_neg (hT : T = stripS s) (hk : k = T.length) (hl : (T.length : Int) < (s.length : Int)) (h : ¬ Lib.itoa (- decV (T.take k)) = s) : readN s = (0, false) := readN_no fun m hm => by
  subst hT hk
  have := num_val hm
  rw [if_pos (by omega)] at this
  rw [List.take_of_length_le (Nat.le_refl _), ← this] at h
  exact h hm.2
theorem read_pos (hT : T = stripS s) (hk : k = T.length) (hl : ¬ (T.length : Int) < (s.length : Int)) (h : ¬ Lib.itoa (decV (T.take k)) = s) : readN s = (0, false) := readN_no fun m hm => by
  subst hT hk
  have := num_val hm
  rw [if_neg (by omega)] at this
  rw [List.take_of_length_le (Nat.le_refl _), ← this] at h
  exact h hm.2
theorem read_ok (h : Lib.itoa n = s) (h1 : -999999 ≤ n ∧ n ≤ 999999) : readN s = (n, true) := readN_yes ⟨h1, h⟩
theorem dig_next (hD : ∀ j, j < k → 48 ≤ (gt T j).toNat ∧ (gt T j).toNat ≤ 57) (h : ¬ (((gt T k).toNat : Int) < 48 ∨ 57 < ((gt T k).toNat : Int))) : ∀ j, j < k + 1 → 48 ≤ (gt T j).toNat ∧ (gt T j).toNat ≤ 57 := fun j hj => by
  rcases Nat.lt_or_ge j k with q | q
  · exact hD j q
  · obtain rfl : j = k := by omega
    omega
end
theorem splitB_el {c : UInt8} : ∀ {s : List UInt8} {k : Nat} {x : List UInt8}, (splitB c s)[k]? = some x → x.length ≤ s.length := by
  intro s
  induction s with
  | nil => intro k x h; have := List.mem_of_getElem? h; simp [splitB] at this; subst this; simp
  | cons b r ih =>
    intro k x h
    have hr := splitB_ne c r
    unfold splitB at h
    split at h
    · cases k with
      | zero => simp at h; subst h; simp
      | succ k => simp at h; have := ih h; simp; omega
    · cases hs : splitB c r with
      | nil => exact absurd hs hr
      | cons p ps =>
        rw [hs] at h
        cases k with
        | zero => simp at h; subst h; have := ih (k := 0) (x := p) (by rw [hs]; rfl); simp; omega
        | succ k => simp at h; have := ih (k := k + 1) (x := x) (by rw [hs]; simpa using h); simp; omega
end Go.Proofs.YtnbbfokkpkphoaaGreatDoor
