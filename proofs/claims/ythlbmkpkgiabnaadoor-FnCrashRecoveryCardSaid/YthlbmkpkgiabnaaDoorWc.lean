/- What the encoding of a record gives. -/
import Derived.Test.YthlbmkpkgiabnaaDoorG33
namespace Go.Proofs.YthlbmkpkgiabnaaDoor
open Go Go.RowKit Fw
section
variable {k : Int} {e : LogRecord}
theorem apc {s : List UInt8} (h : (35 : UInt8) ∉ s) (hl : s.length ≤ 1000) : impl_AppendChecksum s = (sealB s, true) := by
  have h2 := seal_len hl
  have h3 : Lib.contains s ([35] : List UInt8) = false := by rw [contains1]; simp [h]
  unfold impl_AppendChecksum
  have e1 : (s ++ ([35] : List UInt8)) ++ Lib.itoa (csum s) = sealB s := rfl
  simp only [h3, e1]
  rw [if_neg (by intro hh; rcases hh with hh | hh; exact absurd hh (by simp); omega)]
theorem apc_len (s : List UInt8) : (impl_AppendChecksum s).1.length ≤ s.length + 22 := by
  have h2 := seal_len (s := s) (Nat.le_refl _)
  have e1 : (s ++ ([35] : List UInt8)) ++ Lib.itoa (csum s) = sealB s := rfl
  unfold impl_AppendChecksum
  simp only [e1]
  split <;> simp <;> omega
theorem enc_no1 (h : ¬ (0 ≤ k ∧ k ≤ 59) ∨ ¬ RecOK e) : ([] : List UInt8) = (encN k e).1 := by unfold encN; rw [if_neg (fun hh => h.elim (fun h => h hh.1) (fun h => h hh.2))]
theorem enc_no2 (h : ¬ (0 ≤ k ∧ k ≤ 59) ∨ ¬ RecOK e) : false = (encN k e).2 := by unfold encN; rw [if_neg (fun hh => h.elim (fun h => h hh.1) (fun h => h hh.2))]
theorem enc_ok (h : ¬ (¬ (0 ≤ k ∧ k ≤ 59) ∨ ¬ RecOK e)) : encN k e = (lineB k e, true) := by
  unfold encN; rw [if_pos ⟨Classical.not_not.1 fun q => h (.inl q), Classical.not_not.1 fun q => h (.inr q)⟩]
theorem enc_yes1 (h : ¬ (¬ (0 ≤ k ∧ k ≤ 59) ∨ ¬ RecOK e)) : lineB k e = (encN k e).1 := by rw [enc_ok h]
theorem enc_yes2 (h : ¬ (¬ (0 ≤ k ∧ k ≤ 59) ∨ ¬ RecOK e)) : true = (encN k e).2 := by rw [enc_ok h]
theorem enc_ap (h : ¬ (¬ (0 ≤ k ∧ k ≤ 59) ∨ ¬ RecOK e)) : impl_AppendChecksum ((((Lib.itoa k ++ ([32] : List UInt8)) ++ e.Command) ++ ([64] : List UInt8)) ++ e.Reply) = (sealB (bodyB k e), true) := by
  have h1 : 0 ≤ k ∧ k ≤ 59 := Classical.not_not.1 fun q => h (.inl q)
  have h2 : RecOK e := Classical.not_not.1 fun q => h (.inr q)
  exact apc (s := bodyB k e) (body_no h1.1 h2) (by have := body_len (k := k) (by omega) h2; omega)
theorem enc_ap1 (h : ¬ (¬ (0 ≤ k ∧ k ≤ 59) ∨ ¬ RecOK e)) : (impl_AppendChecksum ((((Lib.itoa k ++ ([32] : List UInt8)) ++ e.Command) ++ ([64] : List UInt8)) ++ e.Reply)).1 ++ ([10] : List UInt8) = (encN k e).1 := by
  rw [enc_ap h, enc_ok h]; rfl
theorem enc_ap2 (h : ¬ (¬ (0 ≤ k ∧ k ≤ 59) ∨ ¬ RecOK e)) : (impl_AppendChecksum ((((Lib.itoa k ++ ([32] : List UInt8)) ++ e.Command) ++ ([64] : List UInt8)) ++ e.Reply)).2 = (encN k e).2 := by
  rw [enc_ap h, enc_ok h]
end
end Go.Proofs.YthlbmkpkgiabnaaDoor
