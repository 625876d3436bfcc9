/- The library's contracts, in this work's words. -/
import Derived.Test.YthlbmkpkgiabnaaDoorSh
import Derived.Test.YthlbmkpkgiabnaaDoorWa
import Derived.Lib.SmallJoins
import Derived.Lib.AppendIntMem
namespace Go.Proofs.YthlbmkpkgiabnaaDoor
open Go Go.RowKit Fw
theorem cell_stays {g : Nat} {w w' : World} (h : ∃ m, w.cell? ⟨g, 0, none⟩ = some (.int .i64 m)) (k : Lo w w') : ∃ m, w'.cell? ⟨g, 0, none⟩ = some (.int .i64 m) := by
  obtain ⟨m, hm⟩ := h
  have hlt : g < w.heap.size := by
    rcases Nat.lt_or_ge g w.heap.size with h | h
    · exact h
    · simp [World.cell?, Array.getElem?_eq_none h] at hm
  exact ⟨m, (Below.cell (Kp.below k) (p := ⟨g, 0, none⟩) hlt).trans hm⟩
/-- What the library reads of its own variables. -/
structure EnvW (w : World) : Prop where
  tab : Lib.TabIs Tryd.prog w "internal/strconv.uint64pow10" .u64 Lib.pow10Tab
  ml : ∃ m, w.cell? ⟨0, 0, none⟩ = some (.int .i64 m)
theorem EnvW.lo {w w' : World} (h : EnvW w) (k : Lo w w') : EnvW w' := ⟨Go.Joins.tab_stays (by kernel_rfl : Tryd.prog.globalNamed "internal/strconv.uint64pow10" = some 1) h.tab (Kp.below k) (Nat.le_refl _), cell_stays h.ml k⟩
theorem lo_drewN (w : World) (n : Nat) : Lo w (w.drewN n) := ⟨rfl, rfl, rfl, Nat.le_refl _, fun _ _ _ => rfl⟩
theorem c_strconv_Itoa (w : World) (n : Int) (hp0 : -9223372036854775808 ≤ n ∧ n ≤ 9223372036854775807) (hE : EnvW w) : Calls Tryd.prog 67 #[.int .i64 n] w fun e w' => e = .returned (str (Lib.itoa n)) ∧ Lo w w' :=
  (Tryd.strconv_Itoa n hp0.1 hp0.2 w hE.tab).mono fun _ _ ⟨he, q, os, hw⟩ => ⟨he, hw ▸ lo_of (Lib.below_grow _ _ (Nat.le_refl _) q os)⟩
theorem c_strings_Cut (w : World) (s : List UInt8) (p : List UInt8) (hp0 : (s.length : Int) < 4294967281) (hE : EnvW w) : Calls Tryd.prog 70 #[str s, str p] w fun e w' => e = .returned (.tuple (List.toArray [str (Lib.cut s p).1, str (Lib.cut s p).2.1, .bool (Lib.cut s p).2.2])) ∧ Lo w w' := by
  obtain ⟨m, hm⟩ := hE.ml
  exact (Tryd.strings_Cut ⟨s.toArray⟩ ⟨p.toArray⟩ m w (by show s.length < _; omega) hm).mono fun _ _ ⟨he, n, hw⟩ => ⟨he, hw ▸ lo_drewN _ _⟩
theorem c_strings_Contains (w : World) (s : List UInt8) (p : List UInt8) (hp0 : (s.length : Int) < 4294967281) (hE : EnvW w) : Calls Tryd.prog 61 #[str s, str p] w fun e w' => e = .returned (.bool (Lib.contains s p)) ∧ Lo w w' := by
  obtain ⟨m, hm⟩ := hE.ml
  exact (Tryd.strings_Contains ⟨s.toArray⟩ ⟨p.toArray⟩ m w (by show s.length < _; omega) hm).mono fun _ _ ⟨he, hw⟩ => ⟨he, hw ▸ Lo.refl _⟩
theorem c_strings_TrimPrefix (w : World) (s : List UInt8) (p : List UInt8) : Calls Tryd.prog 80 #[str s, str p] w fun e w' => e = .returned (str (Lib.trimPrefix s p)) ∧ Lo w w' :=
  (Tryd.strings_TrimPrefix ⟨s.toArray⟩ ⟨p.toArray⟩ w).mono fun _ _ ⟨he, hw⟩ => ⟨he, hw ▸ Lo.refl _⟩
end Go.Proofs.YthlbmkpkgiabnaaDoor
