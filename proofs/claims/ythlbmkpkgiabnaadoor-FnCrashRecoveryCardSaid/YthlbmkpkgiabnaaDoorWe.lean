/- The records at the beginning of bytes. -/
import Derived.Test.YthlbmkpkgiabnaaDoorWd
namespace Go.Proofs.YthlbmkpkgiabnaaDoor
open Go Go.RowKit Fw
section
variable {k : Nat} {s : List UInt8} {R : List LogRecord} {r m : Nat}
/-- Does a record with a number stand at the front? -/
def Rec1 (k : Nat) (s : List UInt8) : Prop := (10 : UInt8) ∈ s ∧ (impl_decode (k : Int) (befB s 10)).2 = true
noncomputable instance : Decidable (Rec1 k s) := Classical.propDecidable _
noncomputable def rec1 (k : Nat) (s : List UInt8) : LogRecord := (impl_decode (k : Int) (befB s 10)).1
/-- The records at the front, and how many bytes they have; 'm' more of them at most. -/
noncomputable def opF : Nat → Nat → List UInt8 → List LogRecord × Nat
  | 0, _, _ => ([], 0)
  | m + 1, k, s => if Rec1 k s then (rec1 k s :: (opF m (k + 1) (aftB s 10)).1, (befB s 10).length + 1 + (opF m (k + 1) (aftB s 10)).2) else ([], 0)
noncomputable def opN (s : List UInt8) : List LogRecord × Nat := opF 60 0 s
theorem rec1_line (hk : Rec1 k s) : DecOK (k : Int) (befB s 10) (rec1 k s) := dec_ok hk.2
theorem rec1_len (hk : Rec1 k s) : (befB s 10).length + 1 ≤ 406 := by
  obtain ⟨h1, h2, h3⟩ := rec1_line hk
  have := line_lenB (k := (k : Int)) (by omega) h2
  rw [h3] at this; simpa using this
theorem opF_len : ∀ (m k : Nat) (s : List UInt8), (opF m k s).1.length ≤ m ∧ (opF m k s).2 ≤ s.length ∧ (opF m k s).2 ≤ 406 * m
  | 0, _, _ => ⟨Nat.le_refl _, Nat.zero_le _, Nat.zero_le _⟩
  | m + 1, k, s => by
    unfold opF
    by_cases h : Rec1 k s
    · rw [if_pos h]
      obtain ⟨h1, h2, h3⟩ := opF_len m (k + 1) (aftB s 10)
      have hl := rec1_len h
      have hb := befB_lt h.1
      have ha : (aftB s 10).length = s.length - ((befB s 10).length + 1) := by unfold aftB; simp
      simp only [List.length_cons]
      omega
    · rw [if_neg h]; simp
theorem opN_len (s : List UInt8) : (opN s).1.length ≤ 60 ∧ (opN s).2 ≤ s.length ∧ (opN s).2 ≤ 24360 := opF_len 60 0 s
/-- The loop. -/
def OpTo (s : List UInt8) (R : List LogRecord) (r : Nat) : Prop := R.length ≤ 60 ∧ r ≤ s.length ∧ opN s = (R ++ (opF (60 - R.length) R.length (s.drop r)).1, r + (opF (60 - R.length) R.length (s.drop r)).2)
theorem OpTo.zero : OpTo s [] 0 := ⟨Nat.zero_le _, Nat.zero_le _, by simp [opN]⟩
theorem OpTo.rng (h : OpTo s R r) : R.length ≤ 60 ∧ r ≤ s.length := ⟨h.1, h.2.1⟩
theorem OpTo.next (h : OpTo s R r) (hl : R.length < 60) (hr : Rec1 R.length (s.drop r)) : OpTo s (R ++ [rec1 R.length (s.drop r)]) (r + (befB (s.drop r) 10).length + 1) := by
  obtain ⟨h1, h2, h3⟩ := h
  have hb := befB_lt hr.1
  rw [List.length_drop] at hb
  refine ⟨by simp; omega, by omega, ?_⟩
  rw [h3, show 60 - R.length = (59 - R.length) + 1 by omega]
  conv => lhs; unfold opF
  rw [if_pos hr]
  have e : aftB (s.drop r) 10 = s.drop (r + (befB (s.drop r) 10).length + 1) := by unfold aftB; rw [List.drop_drop]; congr 1
  rw [e]
  simp only [List.length_append, List.length_cons, List.length_nil, List.append_assoc, List.cons_append, List.nil_append, Nat.zero_add]
  rw [show 60 - (R.length + 1) = 59 - R.length by omega]
  congr 1; omega
theorem OpTo.stop (h : OpTo s R r) (hn : 60 ≤ R.length ∨ ¬ Rec1 R.length (s.drop r)) : opN s = (R, r) := by
  obtain ⟨h1, h2, h3⟩ := h
  rw [h3]
  rcases Nat.lt_or_ge R.length 60 with hl | hl
  · have hn : ¬ Rec1 R.length (s.drop r) := hn.resolve_left (by omega)
    rw [show 60 - R.length = (59 - R.length) + 1 by omega]
    unfold opF
    rw [if_neg hn]; simp
  · rw [show 60 - R.length = 0 by omega]; unfold opF; simp
theorem cut_ended (s : List UInt8) : (Lib.cut s ([10] : List UInt8)).2.2 = decide ((10 : UInt8) ∈ s) := by rw [cut1]
theorem cut_line (s : List UInt8) : (Lib.cut s ([10] : List UInt8)).1 = befB s 10 := by rw [cut1]
theorem rec_yesI (h : ¬ ((!(Lib.cut s ([10] : List UInt8)).2.2) = true ∨ (!(impl_decode (k : Int) (Lib.cut s ([10] : List UInt8)).1).2) = true)) : Rec1 k s := by
  rw [cut_ended, cut_line] at h
  simp only [not_or, Bool.not_eq_true', Bool.not_eq_false, decide_eq_true_eq] at h
  exact h
theorem rec_noI (h : (!(Lib.cut s ([10] : List UInt8)).2.2) = true ∨ (!(impl_decode (k : Int) (Lib.cut s ([10] : List UInt8)).1).2) = true) : ¬ Rec1 k s := fun hr => by
  rw [cut_ended, cut_line] at h
  simp only [Bool.not_eq_true', decide_eq_false_iff_not] at h
  rcases h with h | h
  · exact h hr.1
  · have := hr.2; rw [h] at this; cases this
theorem rec_none (h : ¬ (10 : UInt8) ∈ s) : ¬ Rec1 k s := fun hr => h hr.1
/-! The other way of reading. -/
theorem recS_yes (hk : k < 60) (hm : m = (splitB 10 s).length) (h : ¬ ((m : Int) < 2 ∨ (!(spec_l33Read (gt (splitB 10 s) 0) (k : Int)).2) = true)) : Rec1 k s ∧ (spec_l33Read (gt (splitB 10 s) 0) (k : Int)).1 = rec1 k s := by
  subst hm
  rw [splitB_head] at *
  have e := read_iff (s := befB s 10) (k := (k : Int)) (by omega)
  have h2 := not_or.1 h
  have hy : (impl_decode (k : Int) (befB s 10)).2 = true := by rw [← e]; simpa using h2.2
  exact ⟨⟨(splitB_two 10 s).1 (by omega), hy⟩, read_eq (by omega) hy⟩
theorem recS_no (hk : k < 60) (hm : m = (splitB 10 s).length) (h : (m : Int) < 2 ∨ (!(spec_l33Read (gt (splitB 10 s) 0) (k : Int)).2) = true) : ¬ Rec1 k s := by
  subst hm
  rintro ⟨h1, h2⟩
  rcases h with h | h
  · have := (splitB_two 10 s).2 h1; omega
  · rw [splitB_head, read_iff (by omega), h2] at h; cases h
theorem stopS (h : ¬ ((r : Int) < (s.length : Int) ∧ (R.length : Int) < 60)) : 60 ≤ R.length ∨ ¬ Rec1 R.length (s.drop r) := by
  rcases Nat.lt_or_ge R.length 60 with h1 | h1
  · refine .inr (rec_none ?_)
    rw [List.drop_eq_nil_of_le (by omega)]; simp
  · exact .inl h1
/-! Logs. -/
def noLog : Log := ⟨[], [], 0⟩
def LogOK (l : Log) : Prop := (opN (l.Durable ++ l.Pending)).2 = l.Durable.length + l.Pending.length ∧ (opN l.Durable).2 = l.Durable.length ∧ l.Count = ((opN (l.Durable ++ l.Pending)).1.length : Int)
noncomputable instance (l : Log) : Decidable (LogOK l) := Classical.propDecidable _
theorem log_rng {l : Log} (h : LogOK l) : l.Durable.length + l.Pending.length ≤ 24360 ∧ 0 ≤ l.Count ∧ l.Count ≤ 60 := by
  have := opN_len (l.Durable ++ l.Pending)
  obtain ⟨h1, h2, h3⟩ := h
  omega
theorem log_iff (l : Log) : LogOK l ↔ (opN (l.Durable ++ l.Pending)).2 = l.Durable.length + l.Pending.length ∧ (opN l.Durable).2 = l.Durable.length ∧ l.Count = ((opN (l.Durable ++ l.Pending)).1.length : Int) := Iff.rfl
theorem lib_cut (s : List UInt8) : (opN s).2 ≤ s.length := (opN_len s).2.1
end
section
variable {l : Log} {e : LogRecord} {k : Int}
noncomputable def appN (l : Log) (e : LogRecord) : Log × Int :=
  if LogOK l ∧ RecOK e then (if l.Count = 60 then (l, 2) else (⟨l.Durable, l.Pending ++ lineB l.Count e, l.Count + 1⟩, 0)) else (l, 1)
theorem app_bad (h : ¬ LogOK l ∨ ¬ RecOK e) : appN l e = (l, 1) := if_neg (fun k => h.elim (fun h => h k.1) (fun h => h k.2))
theorem app_good (h : ¬ (¬ LogOK l ∨ ¬ RecOK e)) : LogOK l ∧ RecOK e := ⟨Classical.not_not.1 fun q => h (.inl q), Classical.not_not.1 fun q => h (.inr q)⟩
theorem app_full (h : ¬ (¬ LogOK l ∨ ¬ RecOK e)) (hc : l.Count = 60) : appN l e = (l, 2) := by unfold appN; rw [if_pos (app_good h), if_pos hc]
theorem app_yes (h : ¬ (¬ LogOK l ∨ ¬ RecOK e)) (hc : ¬ l.Count = 60) : appN l e = (⟨l.Durable, l.Pending ++ lineB l.Count e, l.Count + 1⟩, 0) := by unfold appN; rw [if_pos (app_good h), if_neg hc]
theorem enc_fullI (h : ¬ (¬ LogOK l ∨ ¬ RecOK e)) (hc : (!(encN l.Count e).2) = true) : l.Count = 60 := by
  have h1 := app_good h; have h2 := log_rng h1.1
  apply Classical.byContradiction; intro h3
  have : (encN l.Count e).2 = true := enc_iff.2 ⟨by omega, h1.2⟩
  rw [this] at hc; cases hc
theorem enc_yesI (hc : (!(encN l.Count e).2) = false) : ¬ l.Count = 60 ∧ (encN l.Count e).1 = lineB l.Count e := by
  have h1 : (encN l.Count e).2 = true := by simpa using hc
  have h2 := enc_iff.1 h1
  exact ⟨by omega, enc_val h1⟩
theorem app_fullI (h : ¬ (¬ LogOK l ∨ ¬ RecOK e)) (hc : (!(encN l.Count e).2) = true) : appN l e = (l, 2) := app_full h (enc_fullI h hc)
theorem app_yesI (h : ¬ (¬ LogOK l ∨ ¬ RecOK e)) (hc : (!(encN l.Count e).2) = false) : appN l e = (⟨l.Durable, l.Pending ++ (encN l.Count e).1, l.Count + 1⟩, 0) := by
  have h1 := enc_yesI hc
  rw [app_yes h h1.1, h1.2]
theorem appN_len (l : Log) (e : LogRecord) : (appN l e).1.Durable.length + (appN l e).1.Pending.length ≤ l.Durable.length + l.Pending.length + 406 := by
  unfold appN; split
  · rename_i h
    have h1 := log_rng h.1
    split
    · dsimp only; omega
    · have := line_lenB (k := l.Count) (by omega) h.2
      simp only [List.length_append]; omega
  · dsimp only; omega
noncomputable def syncN (l : Log) : Log × Bool := if LogOK l then (⟨l.Durable ++ l.Pending, [], l.Count⟩, true) else (noLog, false)
noncomputable def recovN (s : List UInt8) : Log × Int × Bool := if 30000 < (s.length : Int) then (noLog, 0, false) else (⟨s.take (opN s).2, [], ((opN s).1.length : Int)⟩, ((opN s).2 : Int), true)
noncomputable def recsN (l : Log) : List LogRecord × Bool := if LogOK l then ((opN (l.Durable ++ l.Pending)).1, true) else ([], false)
/-- The last byte torn. -/
def tornB (b : Bool) (s : List UInt8) : List UInt8 := if b = true ∧ 0 < s.length then s.set (s.length - 1) (bw (255 - ((gt s (s.length - 1)).toNat : Int))) else s
noncomputable def crashN (l : Log) (keep : Int) (b : Bool) : List UInt8 × Bool := if LogOK l ∧ 0 ≤ keep ∧ keep ≤ (l.Pending.length : Int) then (l.Durable ++ tornB b (l.Pending.take keep.toNat), true) else ([], false)
theorem sync_yes (h : LogOK l) : syncN l = (⟨l.Durable ++ l.Pending, [], l.Count⟩, true) := if_pos h
theorem sync_no (h : ¬ LogOK l) : syncN l = (noLog, false) := if_neg h
theorem recov_no {s : List UInt8} (h : 30000 < (s.length : Int)) : recovN s = (noLog, 0, false) := if_pos h
theorem recov_yes {s : List UInt8} (h : ¬ 30000 < (s.length : Int)) : recovN s = (⟨s.take (opN s).2, [], ((opN s).1.length : Int)⟩, ((opN s).2 : Int), true) := if_neg h
theorem recs_yes (h : LogOK l) : recsN l = ((opN (l.Durable ++ l.Pending)).1, true) := if_pos h
theorem recs_no (h : ¬ LogOK l) : recsN l = ([], false) := if_neg h
theorem recs_len (l : Log) : (recsN l).1.length ≤ 60 := by
  unfold recsN; split
  · exact (opN_len _).1
  · simp
theorem crash_no {keep : Int} {b : Bool} (h : ¬ LogOK l ∨ ¬ (0 ≤ keep ∧ keep ≤ (l.Pending.length : Int))) : crashN l keep b = ([], false) := if_neg (fun k => h.elim (fun h => h k.1) (fun h => h k.2))
theorem crash_yes {keep : Int} {b : Bool} (h : ¬ (¬ LogOK l ∨ ¬ (0 ≤ keep ∧ keep ≤ (l.Pending.length : Int)))) : crashN l keep b = (l.Durable ++ tornB b (l.Pending.take keep.toNat), true) :=
  if_pos ⟨Classical.not_not.1 fun q => h (.inl q), Classical.not_not.1 fun q => h (.inr q)⟩
theorem torn_app {s t : List UInt8} (h : 0 < t.length) : (s ++ t).set ((s ++ t).length - 1) (bw (255 - ((gt (s ++ t) ((s ++ t).length - 1)).toNat : Int))) = s ++ t.set (t.length - 1) (bw (255 - ((gt t (t.length - 1)).toNat : Int))) := by
  have e1 : (s ++ t).length - 1 = s.length + (t.length - 1) := by simp; omega
  have e2 : gt (s ++ t) (s.length + (t.length - 1)) = gt t (t.length - 1) := by
    refine gt_eq ?_
    rw [List.getElem?_append_right (by omega), show s.length + (t.length - 1) - s.length = t.length - 1 by omega]
    exact gb_get (by omega)
  rw [e1, e2, List.set_append_right _ _ (by omega), show s.length + (t.length - 1) - s.length = t.length - 1 by omega]
section
variable {keep : Int} {b : Bool}
theorem crash_rng (h : ¬ (¬ LogOK l ∨ ¬ (0 ≤ keep ∧ keep ≤ (l.Pending.length : Int)))) : (0 ≤ keep ∧ keep ≤ (l.Pending.length : Int)) ∧ (l.Pending.take keep.toNat).length = keep.toNat := by
  have h1 : 0 ≤ keep ∧ keep ≤ (l.Pending.length : Int) := Classical.not_not.1 fun q => h (.inr q)
  exact ⟨h1, by simp; omega⟩
theorem crash_tornS (h : ¬ (¬ LogOK l ∨ ¬ (0 ≤ keep ∧ keep ≤ (l.Pending.length : Int)))) (hb : b = true ∧ 0 < keep) : l.Durable ++ (l.Pending.take keep.toNat).set (keep - 1).toNat (bw (255 - ((gt (l.Pending.take keep.toNat) (keep - 1).toNat).toNat : Int))) = (crashN l keep b).1 := by
  have h1 := crash_rng h
  rw [crash_yes h]
  unfold tornB
  rw [if_pos ⟨hb.1, by omega⟩, h1.2, show (keep - 1).toNat = keep.toNat - 1 by omega]
theorem crash_tornI (h : ¬ (¬ LogOK l ∨ ¬ (0 ≤ keep ∧ keep ≤ (l.Pending.length : Int)))) (hb : b = true ∧ 0 < keep) :
    (l.Durable ++ l.Pending.take keep.toNat).set (((l.Durable ++ l.Pending.take keep.toNat).length : Int) - 1).toNat (bw (255 - ((gt (l.Durable ++ l.Pending.take keep.toNat) (((l.Durable ++ l.Pending.take keep.toNat).length : Int) - 1).toNat).toNat : Int))) = (crashN l keep b).1 := by
  have h1 := crash_rng h
  rw [show (((l.Durable ++ l.Pending.take keep.toNat).length : Int) - 1).toNat = (l.Durable ++ l.Pending.take keep.toNat).length - 1 by omega, torn_app (by omega), ← crash_tornS h hb, h1.2, show (keep - 1).toNat = keep.toNat - 1 by omega]
theorem crash_whole (h : ¬ (¬ LogOK l ∨ ¬ (0 ≤ keep ∧ keep ≤ (l.Pending.length : Int)))) (hb : ¬ (b = true ∧ 0 < keep)) : l.Durable ++ l.Pending.take keep.toNat = (crashN l keep b).1 := by
  have h1 := crash_rng h
  rw [crash_yes h]
  unfold tornB
  rw [if_neg (fun q => hb ⟨q.1, by omega⟩)]
theorem crash_ok (h : ¬ (¬ LogOK l ∨ ¬ (0 ≤ keep ∧ keep ≤ (l.Pending.length : Int)))) : true = (crashN l keep b).2 := by rw [crash_yes h]
end
/-! The number of a mark. -/
def mkD (k : Int) : List UInt8 := if h : 0 < k then mkD (k / 10) ++ [bw (48 + k % 10)] else []
termination_by k.toNat
decreasing_by omega
def mkT (k : Int) : List UInt8 := if k ≤ 0 then [109, 48] else [109] ++ mkD k
theorem mkD_next (h : 0 < k) : mkD k = mkD (k / 10) ++ [bw (48 + k % 10)] := by rw [mkD, dif_pos h]
theorem mkD_end (h : ¬ 0 < k) : mkD k = [] := by rw [mkD, dif_neg h]
end
@[reducible] def mkLogRecord (k : Int) : LogRecord := ⟨mkT k, mkT (k + 1)⟩
end Go.Proofs.YthlbmkpkgiabnaaDoor
