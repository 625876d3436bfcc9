/- Decoding: both ways are one. -/
import Derived.Test.YthlbmkpkgiabnaaDoorG33r
namespace Go.Proofs.YthlbmkpkgiabnaaDoor
open Go Go.RowKit Fw
section
variable {k : Int} {e : LogRecord} {s : List UInt8}
theorem enc_iff : (encN k e).2 = true ↔ (0 ≤ k ∧ k ≤ 59) ∧ RecOK e := by
  unfold encN; split
  · rename_i h; exact ⟨fun _ => h, fun _ => rfl⟩
  · rename_i h; exact ⟨fun q => absurd q (by simp), fun q => absurd q h⟩
theorem enc_val (h : (encN k e).2 = true) : (encN k e).1 = lineB k e := by unfold encN; rw [if_pos (enc_iff.1 h)]
theorem dec_yes (h : DecOK k s e) : impl_decode k s = (e, true) := by
  obtain ⟨h1, h2, h3⟩ := h
  obtain ⟨c1, c2, c3, c4⟩ := line_cut h1.1 h2 h3
  have he : encN k e = (lineB k e, true) := by unfold encN; rw [if_pos ⟨h1, h2⟩]
  have hm : (64 : UInt8) ∈ e.Command ++ [64] ++ e.Reply := by simp
  unfold impl_decode
  simp only [cut1, c1, c2, c3, c4]
  rw [show (⟨e.Command, e.Reply⟩ : LogRecord) = e from rfl, he, h3]
  simp
theorem dec_ok (h : (impl_decode k s).2 = true) : DecOK k s (impl_decode k s).1 := by
  unfold impl_decode at *
  split at h
  · rename_i h0
    rw [if_pos h0]
    have h1 := enc_iff.1 h0
    have h2 := of_decide_eq_true h
    exact ⟨h1.1, h1.2, by rw [← enc_val h0]; exact h2⟩
  · cases h
theorem read_yes (h : DecOK k s e) : spec_l33Read s k = (e, true) := by
  obtain ⟨h1, h2, h3⟩ := h
  obtain ⟨c1, c2, c3, c4⟩ := line_cut h1.1 h2 h3
  have e2 : bodyB k e = (Lib.itoa k ++ [32]) ++ (e.Command ++ [64] ++ e.Reply) := by unfold bodyB; simp
  have hl : (Lib.itoa k ++ ([32] : List UInt8)).length ≤ (bodyB k e).length := by rw [e2]; simp
  have ht : (bodyB k e).take (Lib.itoa k ++ ([32] : List UInt8)).length = Lib.itoa k ++ [32] := by rw [e2]; exact List.take_left
  have hd : (bodyB k e).drop (Lib.itoa k ++ ([32] : List UInt8)).length = e.Command ++ [64] ++ e.Reply := by rw [e2]; exact List.drop_left
  have hr : (e.Command ++ [64] ++ e.Reply).drop (e.Command.length + 1) = e.Reply := by simp
  unfold spec_l33Read
  simp only [Int.toNat_natCast, splitB_head, c1, ht, hd, c3]
  rw [if_neg (by intro q; rcases q with q | q; omega; exact q trivial), if_neg (by simp; omega)]
  simp only [hr, show ((e.Command.length : Int) + 1).toNat = e.Command.length + 1 by omega]
  simp [h2, h3]
theorem read_ok (h : (spec_l33Read s k).2 = true) (hk : 0 ≤ k ∧ k ≤ 59) : DecOK k s (spec_l33Read s k).1 := by
  unfold spec_l33Read at *
  split at h
  · cases h
  · rename_i n1
    rw [if_neg n1]
    split at h
    · cases h
    · rename_i n2
      rw [if_neg n2]
      simp only [decide_eq_true_eq] at h
      exact ⟨hk, h.1, h.2⟩
theorem read_iff (hk : 0 ≤ k ∧ k ≤ 59) : (spec_l33Read s k).2 = (impl_decode k s).2 := by
  rw [Bool.eq_iff_iff]
  exact ⟨fun h => by rw [dec_yes (read_ok h hk)], fun h => by rw [read_yes (dec_ok h)]⟩
theorem read_eq (hk : 0 ≤ k ∧ k ≤ 59) (h : (impl_decode k s).2 = true) : (spec_l33Read s k).1 = (impl_decode k s).1 := by
  have := dec_ok h
  rw [read_yes this]
end
end Go.Proofs.YthlbmkpkgiabnaaDoor
