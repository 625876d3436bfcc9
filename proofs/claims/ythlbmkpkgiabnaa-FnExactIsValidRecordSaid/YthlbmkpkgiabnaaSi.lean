/- The library's contracts, in this work's words. -/
import Derived.Test.YthlbmkpkgiabnaaSh
import Derived.Test.YthlbmkpkgiabnaaWa
import Derived.Lib.SmallJoins
import Derived.Lib.AppendIntMem
namespace Go.Proofs.Ythlbmkpkgiabnaa
open Go Go.RowKit Fw
theorem cell_stays {g : Nat} {w w' : World} (h : ∃ m, w.cell? ⟨g, 0, none⟩ = some (.int .i64 m)) (k : Lo w w') : ∃ m, w'.cell? ⟨g, 0, none⟩ = some (.int .i64 m) := by
  obtain ⟨m, hm⟩ := h
  have hlt : g < w.heap.size := by
    rcases Nat.lt_or_ge g w.heap.size with h | h
    · exact h
    · simp [World.cell?, Array.getElem?_eq_none h] at hm
  exact ⟨m, (Below.cell (Kp.below k) (p := ⟨g, 0, none⟩) hlt).trans hm⟩
theorem lo_drewN (w : World) (n : Nat) : Lo w (w.drewN n) := ⟨rfl, rfl, rfl, Nat.le_refl _, fun _ _ _ => rfl⟩
theorem indexByte_mem (s : List UInt8) (c : UInt8) : 0 ≤ Lib.indexByte s c ↔ c ∈ s := by
  induction s with
  | nil => simp [Lib.indexByte]
  | cons b l ih =>
    have h1 := Lib.indexByte_ge l c
    unfold Lib.indexByte
    by_cases hb : b = c
    · subst hb; simp
    · have hc : ¬ c = b := fun e => hb e.symm
      simp only [List.mem_cons, hc, false_or, ← ih, beq_iff_eq, hb, if_false]
      split
      · omega
      · omega
theorem c_strings_Contains (w : World) (s : List UInt8) (p : List UInt8) (hp0 : p.length = 1) : Calls Try.prog 11 #[str s, str p] w fun e w' => e = .returned (.bool (Lib.contains s p)) ∧ Lo w w' := by
  obtain ⟨c, rfl⟩ : ∃ c, p = [c] := List.length_eq_one_iff.1 hp0
  refine (Try.strings_Contains_one ⟨s.toArray⟩ c w).mono fun _ _ ⟨he, hw⟩ => ⟨?_, hw ▸ Lo.refl _⟩
  rw [he, contains1]
  congr 2
  rw [decide_eq_decide]; exact indexByte_mem s c
end Go.Proofs.Ythlbmkpkgiabnaa
