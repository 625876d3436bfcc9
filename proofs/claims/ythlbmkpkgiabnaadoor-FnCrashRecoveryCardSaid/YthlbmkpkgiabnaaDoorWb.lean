/- Plain words on the log's records. -/
import Derived.Test.YthlbmkpkgiabnaaDoorWa
import Derived.Test.YthlbmkpkgiabnaaDoorFp
namespace Go.Proofs.YthlbmkpkgiabnaaDoor
open Go Go.RowKit Fw
@[reducible] def encI (x : Int) : List Value := [.int .i64 x]
@[reducible] def encS (x : List UInt8) : List Value := [str x]
@[ext] structure LogRecord where
  Command : List UInt8
  Reply : List UInt8
  deriving DecidableEq, Inhabited
@[ext] structure Log where
  Durable : List UInt8
  Pending : List UInt8
  Count : Int
  deriving DecidableEq, Inhabited
@[reducible] def encLogRecord (x : LogRecord) : List Value := [str x.Command, str x.Reply]
@[reducible] def encLog (x : Log) : List Value := [str x.Durable, str x.Pending, .int .i64 x.Count]
def RecOK (e : LogRecord) : Prop := (1 ≤ (e.Command.length : Int) ∧ (e.Command.length : Int) ≤ 160) ∧ (e.Reply.length : Int) ≤ 200 ∧ Plain e.Command ∧ Plain e.Reply ∧ (64 : UInt8) ∉ e.Command
noncomputable instance (e : LogRecord) : Decidable (RecOK e) := Classical.propDecidable _
theorem rec_rng {e : LogRecord} (h : RecOK e) : (1 ≤ (e.Command.length : Int) ∧ (e.Command.length : Int) ≤ 160) ∧ (e.Reply.length : Int) ≤ 200 := ⟨h.1, h.2.1⟩
theorem pl_not (x : UInt8) : decide (((x.toNat : Int) < 32) ∨ ((126 < (x.toNat : Int)) ∨ ((x.toNat : Int) = 35))) = (!decide (PlB x)) := by
  by_cases h : PlB x
  · have h' := h; unfold PlB at h'; rw [decide_eq_true h]; simp only [Bool.not_true, decide_eq_false_iff_not]; omega
  · have h' := h; unfold PlB at h'; rw [decide_eq_false h]; simp only [Bool.not_false, decide_eq_true_eq]; omega
theorem good_iff (r : LogRecord) : ((¬ (r.Command = ([] : List UInt8))) ∧ ((Plain r.Command ∧ (r.Command.length : Int) ≤ 160) ∧ ((¬ ((64 : UInt8) ∈ r.Command)) ∧ (Plain r.Reply ∧ (r.Reply.length : Int) ≤ 200)))) ↔ (RecOK r) := by
  constructor
  · rintro ⟨h1, ⟨h2, h3⟩, h4, h5, h6⟩
    have : 0 < r.Command.length := List.length_pos_iff.2 h1
    exact ⟨⟨by omega, h3⟩, h6, h2, h5, h4⟩
  · rintro ⟨⟨a, b⟩, c, d, e, f⟩
    exact ⟨fun h => by rw [h] at a; simp at a, ⟨d, b⟩, f, e, c⟩
theorem plain_any (s : List UInt8) : (!(s.any fun c => !decide (PlB c))) = true ↔ Plain s := by
  unfold Plain
  simp
/-- A text and its checksum. -/
def sealB (s : List UInt8) : List UInt8 := s ++ [35] ++ Lib.itoa (csum s)
/-- What a record's line holds ahead of the checksum. -/
def bodyB (k : Int) (e : LogRecord) : List UInt8 := Lib.itoa k ++ [32] ++ e.Command ++ [64] ++ e.Reply
def lineB (k : Int) (e : LogRecord) : List UInt8 := sealB (bodyB k e) ++ [10]
theorem dig_plain : ∀ (u : Nat), ∀ c ∈ Lib.decDigits u, 48 ≤ c.toNat ∧ c.toNat ≤ 57 := by
  intro u
  induction u using Nat.strongRecOn with
  | _ u ih =>
    intro c hc
    rw [Lib.decDigits] at hc
    split at hc
    · rename_i h
      obtain rfl := List.mem_singleton.1 hc
      rw [UInt8.toNat_ofNat']; omega
    · rename_i h
      rcases List.mem_append.1 hc with h1 | h1
      · exact ih _ (by omega) c h1
      · obtain rfl := List.mem_singleton.1 h1
        rw [UInt8.toNat_ofNat']; omega
theorem itoa_dig {n : Int} (h : 0 ≤ n) : ∀ c ∈ Lib.itoa n, 48 ≤ c.toNat ∧ c.toNat ≤ 57 := by
  unfold Lib.itoa; rw [if_neg (by omega)]; exact dig_plain _
theorem itoa_plain {n : Int} (h : 0 ≤ n) {c : UInt8} (hc : c.toNat < 48 ∨ 57 < c.toNat) : c ∉ Lib.itoa n := fun hm => by have := itoa_dig h c hm; omega
theorem body_no {k : Int} {e : LogRecord} (h0 : 0 ≤ k) (h : RecOK e) : (35 : UInt8) ∉ bodyB k e := by
  have h1 : (35 : UInt8) ∉ e.Command := fun hm => (h.2.2.1 _ hm).2 rfl
  have h2 : (35 : UInt8) ∉ e.Reply := fun hm => (h.2.2.2.1 _ hm).2 rfl
  have h3 : (35 : UInt8) ∉ Lib.itoa k := itoa_plain h0 (.inl (by decide))
  unfold bodyB; simp [h1, h2, h3]
theorem body_len {k : Int} {e : LogRecord} (h0 : 0 ≤ k ∧ k ≤ 1000000) (h : RecOK e) : (bodyB k e).length ≤ 383 := by
  have h1 := itoa_len (n := k) (by omega) (by omega)
  have h2 := rec_rng h
  unfold bodyB; simp only [List.length_append, List.length_cons, List.length_nil]; omega
theorem seal_len {s : List UInt8} {n : Nat} (h : s.length ≤ n) : (sealB s).length ≤ n + 22 := by
  have h1 := csum_rng s
  have h2 := itoa_len (n := csum s) (by omega) (by omega)
  unfold sealB; simp only [List.length_append, List.length_cons, List.length_nil]; omega
theorem line_lenB {k : Int} {e : LogRecord} (h0 : 0 ≤ k ∧ k ≤ 1000000) (h : RecOK e) : (lineB k e).length ≤ 406 := by
  have := seal_len (body_len h0 h)
  unfold lineB; simp only [List.length_append, List.length_cons, List.length_nil]; omega
theorem line_lenG {k : Int} {e : LogRecord} (h0 : 0 ≤ k ∧ k ≤ 1000000) : (lineB k e).length ≤ e.Command.length + e.Reply.length + 46 := by
  have h1 := itoa_len (n := k) (by omega) (by omega)
  have h2 := seal_len (s := bodyB k e) (Nat.le_refl _)
  have h3 : (bodyB k e).length = (Lib.itoa k).length + 1 + e.Command.length + 1 + e.Reply.length := by unfold bodyB; simp only [List.length_append, List.length_cons, List.length_nil]
  unfold lineB; simp only [List.length_append, List.length_cons, List.length_nil]; omega
/-- The line is cut as it was made. -/
theorem line_cut {k : Int} {e : LogRecord} {s : List UInt8} (h0 : 0 ≤ k) (h : RecOK e) (hs : lineB k e = s ++ [10]) :
    befB s 35 = bodyB k e ∧ Lib.trimPrefix (bodyB k e) (Lib.itoa k ++ [32]) = e.Command ++ [64] ++ e.Reply ∧ befB (e.Command ++ [64] ++ e.Reply) 64 = e.Command ∧ aftB (e.Command ++ [64] ++ e.Reply) 64 = e.Reply := by
  have e1 : s = bodyB k e ++ 35 :: Lib.itoa (csum (bodyB k e)) := by
    unfold lineB sealB at hs
    have := List.append_cancel_right hs
    simpa using this.symm
  have e2 : bodyB k e = (Lib.itoa k ++ [32]) ++ (e.Command ++ [64] ++ e.Reply) := by unfold bodyB; simp
  have e3 : e.Command ++ [64] ++ e.Reply = e.Command ++ 64 :: e.Reply := by simp
  refine ⟨by rw [e1]; exact (befB_app (body_no h0 h)).1, by rw [e2, trimP], ?_, ?_⟩
  · rw [e3]; exact (befB_app h.2.2.2.2).1
  · rw [e3]; exact (befB_app h.2.2.2.2).2
/-- What the encoding gives. -/
noncomputable def encN (k : Int) (e : LogRecord) : List UInt8 × Bool := if (0 ≤ k ∧ k ≤ 59) ∧ RecOK e then (lineB k e, true) else ([], false)
theorem enc_len (k : Int) (e : LogRecord) : (encN k e).1.length ≤ 406 := by
  unfold encN; split
  · rename_i h; exact line_lenB (by omega) h.2
  · simp
def DecOK (k : Int) (s : List UInt8) (e : LogRecord) : Prop := (0 ≤ k ∧ k ≤ 59) ∧ RecOK e ∧ lineB k e = s ++ [10]
end Go.Proofs.YthlbmkpkgiabnaaDoor
