/- The library's contracts, in this work's words. -/
import Derived.Test.YtgobbcilgcbkaaaDoorSh
import Derived.Test.YtgobbcilgcbkaaaDoorWa
import Derived.Lib.SmallJoins
import Derived.Lib.AppendIntMem
namespace Go.Proofs.YtgobbcilgcbkaaaDoor
open Go Go.RowKit Fw
theorem cell_stays {g : Nat} {w w' : World} (h : ∃ m, w.cell? ⟨g, 0, none⟩ = some (.int .i64 m)) (k : Lo w w') : ∃ m, w'.cell? ⟨g, 0, none⟩ = some (.int .i64 m) := by
  obtain ⟨m, hm⟩ := h
  have hlt : g < w.heap.size := by
    rcases Nat.lt_or_ge g w.heap.size with h | h
    · exact h
    · simp [World.cell?, Array.getElem?_eq_none h] at hm
  exact ⟨m, (Below.cell (Kp.below k) (p := ⟨g, 0, none⟩) hlt).trans hm⟩
/-- What the library reads of its own variables. -/
structure EnvW (w : World) : Prop where
  tab : Lib.TabIs Tryd.prog w "internal/strconv.uint64pow10" .u64 Lib.pow10Tab
theorem EnvW.lo {w w' : World} (h : EnvW w) (k : Lo w w') : EnvW w' := ⟨Go.Joins.tab_stays (by kernel_rfl : Tryd.prog.globalNamed "internal/strconv.uint64pow10" = some 0) h.tab (Kp.below k) (Nat.le_refl _)⟩
theorem lo_drewN (w : World) (n : Nat) : Lo w (w.drewN n) := ⟨rfl, rfl, rfl, Nat.le_refl _, fun _ _ _ => rfl⟩
theorem c_strconv_Itoa (w : World) (n : Int) (hp0 : -9223372036854775808 ≤ n ∧ n ≤ 9223372036854775807) (hE : EnvW w) : Calls Tryd.prog 53 #[.int .i64 n] w fun e w' => e = .returned (str (Lib.itoa n)) ∧ Lo w w' :=
  (Tryd.strconv_Itoa n hp0.1 hp0.2 w hE.tab).mono fun _ _ ⟨he, q, os, hw⟩ => ⟨he, hw ▸ lo_of (Lib.below_grow _ _ (Nat.le_refl _) q os)⟩
end Go.Proofs.YtgobbcilgcbkaaaDoor
