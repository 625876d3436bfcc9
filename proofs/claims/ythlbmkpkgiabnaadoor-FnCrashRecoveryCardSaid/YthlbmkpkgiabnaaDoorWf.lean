/- Laws of logs. -/
import Derived.Test.YthlbmkpkgiabnaaDoorWe
import Derived.Test.YthlbmkpkgiabnaaDoorNa
namespace Go.Proofs.YthlbmkpkgiabnaaDoor
open Go Go.RowKit Fw
section
variable {m k j : Nat} {s t b a P : List UInt8} {R : List LogRecord} {c : UInt8} {l : Log} {e : LogRecord} {n : Int}
theorem opF_none (h : (10 : UInt8) ∉ s) : opF (m + 1) k s = ([], 0) := by
  unfold opF; rw [if_neg (rec_none h)]
theorem opF_nil : opF m k [] = ([], 0) := by cases m with
  | zero => rfl
  | succ m => exact opF_none (by simp)
theorem opF_cons (hb : (10 : UInt8) ∉ b) : opF (m + 1) k (b ++ 10 :: a) = if (impl_decode (k : Int) b).2 = true then ((impl_decode (k : Int) b).1 :: (opF m (k + 1) a).1, b.length + 1 + (opF m (k + 1) a).2) else ([], 0) := by
  obtain ⟨e1, e2⟩ := befB_app (r := a) hb
  conv => lhs; unfold opF
  by_cases h : (impl_decode (k : Int) b).2 = true
  · rw [if_pos h, if_pos (show Rec1 k (b ++ 10 :: a) from ⟨by simp, by rw [e1]; exact h⟩)]
    unfold rec1
    rw [e1, e2]
  · rw [if_neg h, if_neg (fun hr : Rec1 k (b ++ 10 :: a) => h (by have := hr.2; rwa [e1] at this))]
theorem cut10 (h : (10 : UInt8) ∈ s) : ∃ b a, (10 : UInt8) ∉ b ∧ s = b ++ 10 :: a := ⟨befB s 10, aftB s 10, befB_not s, befB_join h⟩
/-- A whole reading goes on. -/
theorem opF_app : ∀ (m k : Nat) (s t : List UInt8), (opF m k s).2 = s.length → opF m k (s ++ t) = ((opF m k s).1 ++ (opF (m - (opF m k s).1.length) (k + (opF m k s).1.length) t).1, s.length + (opF (m - (opF m k s).1.length) (k + (opF m k s).1.length) t).2)
  | 0, k, s, t, h => by
    have : s = [] := List.eq_nil_of_length_eq_zero (by rw [← h]; rfl)
    subst this; rfl
  | m + 1, k, s, t, h => by
    by_cases h10 : (10 : UInt8) ∈ s
    · obtain ⟨b, a, hb, rfl⟩ := cut10 h10
      rw [List.append_assoc, List.cons_append, opF_cons hb, opF_cons hb] at *
      by_cases hd : (impl_decode (k : Int) b).2 = true
      · rw [if_pos hd] at *
        simp only [List.length_append, List.length_cons] at h
        have ih := opF_app m (k + 1) a t (by omega)
        rw [if_pos hd, ih]
        simp only [List.length_cons, List.length_append, List.cons_append]
        rw [show m + 1 - ((opF m (k + 1) a).1.length + 1) = m - (opF m (k + 1) a).1.length by omega, show k + ((opF m (k + 1) a).1.length + 1) = k + 1 + (opF m (k + 1) a).1.length by omega]
        congr 1; omega
      · rw [if_neg hd] at h; simp at h
    · rw [opF_none h10] at h ⊢
      have : s = [] := List.eq_nil_of_length_eq_zero h.symm
      subst this; simp
/-- What was read reads so again. -/
theorem opF_fix : ∀ (m k : Nat) (s : List UInt8), opF m k (s.take (opF m k s).2) = opF m k s
  | 0, k, s => rfl
  | m + 1, k, s => by
    by_cases h10 : (10 : UInt8) ∈ s
    · obtain ⟨b, a, hb, rfl⟩ := cut10 h10
      rw [opF_cons hb]
      by_cases hd : (impl_decode (k : Int) b).2 = true
      · rw [if_pos hd]
        dsimp only
        have e : (b ++ 10 :: a).take (b.length + 1 + (opF m (k + 1) a).2) = b ++ 10 :: a.take (opF m (k + 1) a).2 := by
          rw [Nat.add_assoc, List.take_length_add_append, Nat.add_comm 1, List.take_succ_cons]
        rw [e, opF_cons hb, if_pos hd, opF_fix m (k + 1) a]
      · rw [if_neg hd]; exact opF_nil
    · rw [opF_none h10]; exact opF_nil
/-- What stands at the front of other bytes, perhaps a torn byte behind it. -/
theorem opF_pre : ∀ (m k : Nat) (P X : List UInt8), (∃ j, X = P.take j ∨ ∃ c, c ≠ 10 ∧ X = P.take j ++ [c]) → (opF m k X).1 <+: (opF m k P).1
  | 0, k, P, X, _ => List.prefix_refl _
  | m + 1, k, P, X, hX => by
    by_cases h10 : (10 : UInt8) ∈ X
    · obtain ⟨j, hj⟩ := hX
      have hin : (10 : UInt8) ∈ P.take j := by
        rcases hj with rfl | ⟨c, hc, rfl⟩
        · exact h10
        · rcases List.mem_append.1 h10 with h | h
          · exact h
          · exact absurd (List.mem_singleton.1 h).symm hc
      obtain ⟨b, a, hb, rfl⟩ := cut10 (List.mem_of_mem_take hin)
      have hlt : b.length < j := by
        apply Classical.byContradiction; intro hn
        rw [List.take_append_of_le_length (by omega)] at hin
        exact hb (List.mem_of_mem_take hin)
      have et : (b ++ 10 :: a).take j = b ++ 10 :: a.take (j - b.length - 1) := by
        obtain ⟨q, rfl⟩ : ∃ q, j = b.length + (q + 1) := ⟨j - b.length - 1, by omega⟩
        rw [List.take_length_add_append, List.take_succ_cons]; congr 3; omega
      obtain ⟨Y, rfl, hY⟩ : ∃ Y, X = b ++ 10 :: Y ∧ ∃ j, Y = a.take j ∨ ∃ c, c ≠ 10 ∧ Y = a.take j ++ [c] := by
        rcases hj with rfl | ⟨c, hc, rfl⟩
        · exact ⟨_, et, _, .inl rfl⟩
        · exact ⟨_, by rw [et]; simp, j - b.length - 1, .inr ⟨c, hc, rfl⟩⟩
      rw [opF_cons hb, opF_cons hb]
      by_cases hd : (impl_decode (k : Int) b).2 = true
      · rw [if_pos hd, if_pos hd]
        have := opF_pre m (k + 1) a Y hY
        exact (List.prefix_cons_inj _).2 this
      · rw [if_neg hd, if_neg hd]; exact List.prefix_refl _
    · rw [opF_none h10]; exact List.nil_prefix
/-! A record's line. -/
theorem seal_no (h0 : 0 ≤ n) (h : RecOK e) : (10 : UInt8) ∉ sealB (bodyB n e) := by
  have h1 : (10 : UInt8) ∉ e.Command := fun hm => by have := (h.2.2.1 _ hm).1.1; exact absurd this (by decide)
  have h2 : (10 : UInt8) ∉ e.Reply := fun hm => by have := (h.2.2.2.1 _ hm).1.1; exact absurd this (by decide)
  have h3 : (10 : UInt8) ∉ Lib.itoa n := itoa_plain h0 (.inl (by decide))
  have h4 : (10 : UInt8) ∉ Lib.itoa (csum (bodyB n e)) := itoa_plain (csum_rng _).1 (.inl (by decide))
  unfold sealB
  simp only [List.mem_append, not_or]
  refine ⟨⟨?_, by simp⟩, h4⟩
  unfold bodyB; simp [h1, h2, h3]
theorem line_dec (hk : 0 ≤ n ∧ n ≤ 59) (h : RecOK e) : impl_decode n (sealB (bodyB n e)) = (e, true) := dec_yes ⟨hk, h, rfl⟩
theorem opF_line (hk : (k : Int) ≤ 59) (h : RecOK e) : opF (m + 1) k (lineB (k : Int) e ++ t) = (e :: (opF m (k + 1) t).1, (lineB (k : Int) e).length + (opF m (k + 1) t).2) := by
  have e1 : lineB (k : Int) e ++ t = sealB (bodyB (k : Int) e) ++ 10 :: t := by unfold lineB; simp
  rw [e1, opF_cons (seal_no (by omega) h), line_dec (by omega) h, if_pos rfl]
  unfold lineB; simp
theorem body_num (h0 : 0 ≤ n) : befB (bodyB n e) 32 = Lib.itoa n := by
  have h3 : (32 : UInt8) ∉ Lib.itoa n := itoa_plain h0 (.inl (by decide))
  have e1 : bodyB n e = Lib.itoa n ++ 32 :: (e.Command ++ [64] ++ e.Reply) := by unfold bodyB; simp
  rw [e1]; exact (befB_app h3).1
theorem line_inj {n2 : Int} {e2 : LogRecord} (hn : 0 ≤ n ∧ n ≤ 59) (h : RecOK e) (hn2 : 0 ≤ n2 ∧ n2 ≤ 59) (h2 : RecOK e2) (he : lineB n e = lineB n2 e2) : n = n2 := by
  have e1 : sealB (bodyB n e) = sealB (bodyB n2 e2) := by unfold lineB at he; exact List.append_cancel_right he
  have e3 := (line_cut (s := sealB (bodyB n e)) hn.1 h rfl).1
  have e4 := (line_cut (s := sealB (bodyB n e)) hn2.1 h2 (by rw [e1]; rfl)).1
  rw [e3] at e4
  have e5 := body_num (e := e) hn.1
  rw [e4, body_num hn2.1] at e5
  exact itoa_inj (by omega) (by omega) e5.symm
/-- A line is read at its own place alone. -/
theorem enc_first (h : (encN n e).2 = true) : (0 < (opN (encN n e).1).2 ↔ n = 0) ∧ (n = 0 → (opN (encN n e).1).1.length = 1) := by
  have h1 := enc_iff.1 h
  rw [enc_val h]
  unfold opN
  by_cases h0 : n = 0
  · subst h0
    have := opF_line (m := 59) (k := 0) (t := []) (e := e) (by omega) h1.2
    rw [List.append_nil] at this
    have e0 : ((0 : Nat) : Int) = (0 : Int) := rfl
    rw [e0] at this
    rw [this, opF_nil]
    refine ⟨⟨fun _ => rfl, fun _ => ?_⟩, fun _ => rfl⟩
    unfold lineB; simp
  · have e1 : lineB n e = sealB (bodyB n e) ++ 10 :: [] := rfl
    have : opF 60 0 (lineB n e) = ([], 0) := by
      rw [e1, opF_cons (seal_no h1.1.1 h1.2), if_neg]
      intro hd
      obtain ⟨q1, q2, q3⟩ := dec_ok hd
      have := line_inj (n := ((0 : Nat) : Int)) (n2 := n) (by omega) q2 h1.1 h1.2 q3
      exact h0 this.symm
    rw [this]
    exact ⟨⟨fun q => absurd q (by simp), fun q => absurd q h0⟩, fun q => absurd q h0⟩
/-! Logs that stay valid. -/
theorem nil_log : LogOK noLog := by
  refine ⟨?_, ?_, ?_⟩ <;> simp [noLog, opN, opF_nil]
theorem app_valid (h : LogOK l) (he : RecOK e) (hc : ¬ l.Count = 60) : LogOK ⟨l.Durable, l.Pending ++ lineB l.Count e, l.Count + 1⟩ ∧ opN (l.Durable ++ (l.Pending ++ lineB l.Count e)) = ((opN (l.Durable ++ l.Pending)).1 ++ [e], l.Durable.length + (l.Pending ++ lineB l.Count e).length) := by
  have hr := log_rng h
  obtain ⟨h1, h2, h3⟩ := h
  have hlen := (opN_len (l.Durable ++ l.Pending)).1
  have ha := opF_app 60 0 (l.Durable ++ l.Pending) (lineB l.Count e) (by rw [List.length_append]; exact h1)
  have hcn : l.Count = (((opF 60 0 (l.Durable ++ l.Pending)).1.length : Nat) : Int) := h3
  obtain ⟨q, hq⟩ : ∃ q, 60 - (opF 60 0 (l.Durable ++ l.Pending)).1.length = q + 1 := ⟨59 - (opF 60 0 (l.Durable ++ l.Pending)).1.length, by omega⟩
  have hl := opF_line (m := q) (k := (opF 60 0 (l.Durable ++ l.Pending)).1.length) (t := []) (e := e) (by omega) he
  rw [List.append_nil, ← hcn, opF_nil] at hl
  rw [hq, Nat.zero_add, hl] at ha
  have e1 : opN (l.Durable ++ (l.Pending ++ lineB l.Count e)) = ((opN (l.Durable ++ l.Pending)).1 ++ [e], l.Durable.length + (l.Pending ++ lineB l.Count e).length) := by
    rw [← List.append_assoc]
    show opF 60 0 _ = _
    rw [ha]
    refine Prod.ext rfl ?_
    simp only [List.length_append, Nat.add_zero]; omega
  refine ⟨⟨?_, h2, ?_⟩, e1⟩
  · show (opN (l.Durable ++ (l.Pending ++ lineB l.Count e))).2 = l.Durable.length + (l.Pending ++ lineB l.Count e).length
    rw [e1]
  · show l.Count + 1 = ((opN (l.Durable ++ (l.Pending ++ lineB l.Count e))).1.length : Int)
    rw [e1]; simp only [List.length_append, List.length_cons, List.length_nil]; omega
theorem appN_ok (h : LogOK l) : LogOK (appN l e).1 := by
  unfold appN
  split
  · rename_i h1
    split
    · exact h
    · exact (app_valid h h1.2 ‹_›).1
  · exact h
theorem sync_ok (h : LogOK l) : LogOK ⟨l.Durable ++ l.Pending, [], l.Count⟩ := by
  obtain ⟨h1, h2, h3⟩ := h
  refine ⟨?_, ?_, ?_⟩
  · show (opN ((l.Durable ++ l.Pending) ++ [])).2 = (l.Durable ++ l.Pending).length + 0
    rw [List.append_nil, h1, List.length_append]; rfl
  · show (opN (l.Durable ++ l.Pending)).2 = (l.Durable ++ l.Pending).length
    rw [h1, List.length_append]
  · show l.Count = ((opN ((l.Durable ++ l.Pending) ++ [])).1.length : Int)
    rw [List.append_nil]; exact h3
theorem syncN_ok (h : LogOK l) : LogOK (syncN l).1 := by rw [sync_yes h]; exact sync_ok h
theorem opN_fix (s : List UInt8) : opN (s.take (opN s).2) = opN s := opF_fix 60 0 s
theorem recov_ok (s : List UInt8) : LogOK ⟨s.take (opN s).2, [], ((opN s).1.length : Int)⟩ := by
  have hl := (opN_len s).2.1
  have ht : (s.take (opN s).2).length = (opN s).2 := by simp; omega
  refine ⟨?_, ?_, ?_⟩
  · show (opN (s.take (opN s).2 ++ [])).2 = (s.take (opN s).2).length + 0
    rw [List.append_nil, opN_fix, ht]; rfl
  · show (opN (s.take (opN s).2)).2 = (s.take (opN s).2).length
    rw [opN_fix, ht]
  · show ((opN s).1.length : Int) = ((opN (s.take (opN s).2 ++ [])).1.length : Int)
    rw [List.append_nil, opN_fix]
theorem recovN_ok (s : List UInt8) : LogOK (recovN s).1 := by
  unfold recovN; split
  · exact nil_log
  · exact recov_ok s
/-! What survives a crash. -/
theorem seal_low (h0 : 0 ≤ n) (h : RecOK e) : ∀ c ∈ sealB (bodyB n e), c.toNat ≤ 126 := by
  intro c hc
  have hd : ∀ (q : Int), 0 ≤ q → c ∈ Lib.itoa q → c.toNat ≤ 126 := fun q hq hm => by have := itoa_dig hq c hm; omega
  have hp : ∀ (q : List UInt8), Plain q → c ∈ q → c.toNat ≤ 126 := fun q hq hm => by have := (hq c hm).1.2; omega
  unfold sealB bodyB at hc
  simp only [List.mem_append, List.mem_singleton] at hc
  rcases hc with ((((((hc | hc) | hc) | hc) | hc) | hc) | hc)
  · exact hd _ h0 hc
  · subst hc; decide
  · exact hp _ h.2.2.1 hc
  · subst hc; decide
  · exact hp _ h.2.2.2.1 hc
  · subst hc; decide
  · exact hd _ (csum_rng _).1 hc
theorem read_low : ∀ (m k : Nat) (s : List UInt8), (opF m k s).2 = s.length → ∀ c ∈ s, c.toNat ≤ 126
  | 0, k, s, h => by
    have : s = [] := List.eq_nil_of_length_eq_zero (by rw [← h]; rfl)
    subst this; intro c hc; cases hc
  | m + 1, k, s, h => by
    by_cases h10 : (10 : UInt8) ∈ s
    · obtain ⟨b, a, hb, rfl⟩ := cut10 h10
      rw [opF_cons hb] at h
      by_cases hd : (impl_decode (k : Int) b).2 = true
      · rw [if_pos hd] at h
        simp only [List.length_append, List.length_cons] at h
        have ih := read_low m (k + 1) a (by omega)
        obtain ⟨q1, q2, q3⟩ := dec_ok hd
        have eb : b = sealB (bodyB (k : Int) (impl_decode (k : Int) b).1) := by
          unfold lineB at q3; exact (List.append_cancel_right q3).symm
        intro c hc
        rcases List.mem_append.1 hc with hc | hc
        · rw [eb] at hc; exact seal_low q1.1 q2 c hc
        · rcases List.mem_cons.1 hc with hc | hc
          · subst hc; decide
          · exact ih c hc
      · rw [if_neg hd] at h; simp at h
    · rw [opF_none h10] at h
      have : s = [] := List.eq_nil_of_length_eq_zero h.symm
      subst this; intro c hc; cases hc
theorem bw_low {c : UInt8} (h : c.toNat ≤ 126) : bw (255 - (c.toNat : Int)) ≠ 10 := by
  intro e
  have h1 := bw_val (255 - (c.toNat : Int))
  rw [e] at h1
  rw [IntKind.wrap_u8] at h1
  have h2 : ((10 : UInt8).toNat : Int) = 10 := rfl
  omega
theorem torn_pre (b : Bool) (P : List UInt8) (j : Nat) (hP : ∀ c ∈ P, c.toNat ≤ 126) : ∃ q, tornB b (P.take j) = P.take q ∨ ∃ c, c ≠ 10 ∧ tornB b (P.take j) = P.take q ++ [c] := by
  unfold tornB
  split
  · rename_i h
    have hl : (P.take j).length - 1 < (P.take j).length := by omega
    refine ⟨(P.take j).length - 1, .inr ⟨bw (255 - ((gt (P.take j) ((P.take j).length - 1)).toNat : Int)), bw_low (c := gt (P.take j) ((P.take j).length - 1)) (hP _ ?_), ?_⟩⟩
    · exact List.mem_of_mem_take (List.mem_iff_getElem?.2 ⟨_, gb_get hl⟩)
    · rw [List.set_eq_take_append_cons_drop, if_pos hl, List.drop_eq_nil_of_le (by omega), List.take_take]
      congr 2; simp only [List.length_take]; omega
  · exact ⟨j, .inl rfl⟩
theorem crash_first (h : LogOK l) (keep : Int) (b : Bool) : (opN (l.Durable ++ tornB b (l.Pending.take keep.toNat))).1 <+: (opN (l.Durable ++ l.Pending)).1 ∧ l.Durable.length ≤ (opN (l.Durable ++ tornB b (l.Pending.take keep.toNat))).2 := by
  obtain ⟨h1, h2, h3⟩ := h
  have hP : ∀ c ∈ l.Pending, c.toNat ≤ 126 := fun c hc => read_low 60 0 _ (by rw [List.length_append]; exact h1) c (List.mem_append_right _ hc)
  have e1 := opF_app 60 0 l.Durable (tornB b (l.Pending.take keep.toNat)) h2
  have e2 := opF_app 60 0 l.Durable l.Pending h2
  unfold opN
  rw [e1, e2]
  refine ⟨?_, by dsimp only; omega⟩
  exact (List.prefix_append_right_inj _).2 (opF_pre _ _ _ _ (torn_pre b _ _ hP))
theorem pre_at {R S : List LogRecord} (h : R <+: S) (hk : k < R.length) : gt R k = gt S k := by
  obtain ⟨T, rfl⟩ := h
  have h1 : (R ++ T)[k]? = R[k]? := List.getElem?_append_left hk
  unfold gt
  rw [List.getD_eq_getElem?_getD, List.getD_eq_getElem?_getD, h1]
theorem recov_len (s : List UInt8) : (recovN s).1.Durable.length + (recovN s).1.Pending.length ≤ 30000 := by
  have := log_rng (recovN_ok s); omega
/-! What the laws say. -/
def EncLaw (k : Int) (r : LogRecord) : Prop := ((encN k r).2 = true → ((0 < (recovN (encN k r).1).2.1) ↔ k = 0) ∧ (k = 0 → (recovN (encN k r).1).1.Count = 1)) ∧ ((encN k r).2 = false → (encN k r).1 = [])
theorem enc_law (k : Int) (r : LogRecord) : EncLaw k r := by
  have hl := enc_len k r
  constructor
  · intro h
    have h1 := enc_first h
    rw [recov_yes (s := (encN k r).1) (by omega)]
    refine ⟨?_, fun h0 => ?_⟩
    · rw [← h1.1]; dsimp only; omega
    · have := h1.2 h0; dsimp only; omega
  · intro h
    unfold encN at *
    split
    · rename_i q; rw [if_pos q] at h; cases h
    · rfl
def RecLaw (v : List UInt8) : Prop := (recovN v).2.2 = true → syncN (recovN v).1 = ((recovN v).1, true) ∧ LogOK (recovN v).1
theorem rec_law (v : List UInt8) : RecLaw v := by
  intro h
  refine ⟨?_, recovN_ok v⟩
  rw [sync_yes (recovN_ok v)]
  unfold recovN at *
  split
  · rename_i q; rw [if_pos q] at h; cases h
  · simp
theorem lines_no {k : Int} {r : LogRecord} (h : EncLaw k r) (hh : ((encN k r).2 = true) ∧ (((!(decide (0 < (recovN (encN k r).1).2.1) == decide (k = 0))) = true) ∨ ((k = 0) ∧ (¬ ((recovN (encN k r).1).1.Count = 1))))) : False := by
  have h1 := h.1 hh.1
  rcases hh.2 with q | q
  · have e : decide (0 < (recovN (encN k r).1).2.1) = decide (k = 0) := decide_eq_decide.2 h1.1
    rw [e] at q; simp at q
  · exact q.2 (h1.2 q.1)
theorem lines_yes {k : Int} {r : LogRecord} {v : List UInt8} (h : EncLaw k r) (h2 : RecLaw v) : ((!(recovN v).2.2) = true) ∨ (((syncN (recovN v).1).2 = true) ∧ (((syncN (recovN v).1).1 = (recovN v).1) ∧ ((LogOK (recovN v).1) ∧ (((encN k r).2 = true) ∨ ((encN k r).1 = ([] : List UInt8)))))) := by
  cases hb : (recovN v).2.2
  · exact .inl rfl
  · have h3 := h2 hb
    rw [h3.1]
    refine .inr ⟨rfl, rfl, h3.2, ?_⟩
    cases he : (encN k r).2
    · exact .inr (h.2 he)
    · exact .inl rfl
end
end Go.Proofs.YthlbmkpkgiabnaaDoor
