/- The library's contracts, in this work's words. -/
import Derived.Test.YtnbbfokkpkphoaaGreatDoorSh
import Derived.Test.YtnbbfokkpkphoaaGreatDoorWa
import Derived.Test.YtnbbfokkpkphoaaGreatDoorVd
import Derived.Lib.AtoiAllCases
import Derived.Lib.AtoiErrMem
import Derived.Test.YtnbbfokkpkphoaaGreatDoorLa
import Derived.Lib.SplitLaws
import Derived.Lib.SmallJoins
import Derived.Lib.AppendIntMem
namespace Go.Proofs.YtnbbfokkpkphoaaGreatDoor
open Go Go.RowKit Fw
theorem cell_stays {g : Nat} {w w' : World} (h : ∃ m, w.cell? ⟨g, 0, none⟩ = some (.int .i64 m)) (k : Lo w w') : ∃ m, w'.cell? ⟨g, 0, none⟩ = some (.int .i64 m) := by
  obtain ⟨m, hm⟩ := h
  have hlt : g < w.heap.size := by
    rcases Nat.lt_or_ge g w.heap.size with h | h
    · exact h
    · simp [World.cell?, Array.getElem?_eq_none h] at hm
  exact ⟨m, (Below.cell (Kp.below k) (p := ⟨g, 0, none⟩) hlt).trans hm⟩
/-- A variable that holds an error, or none. -/
def ErrC (w : World) (g : Nat) : Prop := ∃ v, w.cell? ⟨g, 0, none⟩ = some v ∧ (v = .nilIface ∨ ∃ t x, v = .iface t x)
theorem ErrC.lo {g : Nat} {w w' : World} (h : ErrC w g) (k : Lo w w') : ErrC w' g := by
  obtain ⟨v, hm, hv⟩ := h
  have hlt : g < w.heap.size := by
    rcases Nat.lt_or_ge g w.heap.size with h | h
    · exact h
    · simp [World.cell?, Array.getElem?_eq_none h] at hm
  exact ⟨v, (Below.cell (Kp.below k) (p := ⟨g, 0, none⟩) hlt).trans hm, hv⟩
/-- What the library reads of its own variables. -/
structure EnvW (w : World) : Prop where
  tab : Lib.TabIs Tryz.prog w "internal/strconv.uint64pow10" .u64 Lib.pow10Tab
  ml : ∃ m, w.cell? ⟨0, 0, none⟩ = some (.int .i64 m)
  es : ErrC w 1
  er : ErrC w 2
theorem EnvW.lo {w w' : World} (h : EnvW w) (k : Lo w w') : EnvW w' := ⟨Go.Joins.tab_stays (by kernel_rfl : Tryz.prog.globalNamed "internal/strconv.uint64pow10" = some 5) h.tab (Kp.below k) (Nat.le_refl _), cell_stays h.ml k, h.es.lo k, h.er.lo k⟩
theorem lo_drewN (w : World) (n : Nat) : Lo w (w.drewN n) := ⟨rfl, rfl, rfl, Nat.le_refl _, fun _ _ _ => rfl⟩
theorem c_strconv_Itoa (w : World) (n : Int) (hp0 : -9223372036854775808 ≤ n ∧ n ≤ 9223372036854775807) (hE : EnvW w) : Calls Tryz.prog 57 #[.int .i64 n] w fun e w' => e = .returned (str (Lib.itoa n)) ∧ Lo w w' :=
  (Tryz.strconv_Itoa n hp0.1 hp0.2 w hE.tab).mono fun _ _ ⟨he, q, os, hw⟩ => ⟨he, hw ▸ lo_of (Lib.below_grow _ _ (Nat.le_refl _) q os)⟩
theorem c_strings_Cut (w : World) (s : List UInt8) (p : List UInt8) (hp0 : (s.length : Int) < 4294967281) (hE : EnvW w) : Calls Tryz.prog 27 #[str s, str p] w fun e w' => e = .returned (.tuple (List.toArray [str (Lib.cut s p).1, str (Lib.cut s p).2.1, .bool (Lib.cut s p).2.2])) ∧ Lo w w' := by
  obtain ⟨m, hm⟩ := hE.ml
  exact (Tryz.strings_Cut ⟨s.toArray⟩ ⟨p.toArray⟩ m w (by show s.length < _; omega) hm).mono fun _ _ ⟨he, n, hw⟩ => ⟨he, hw ▸ lo_drewN _ _⟩
theorem bytes_flat : ∀ l : List ByteArray, l.map Value.string = (l.map (·.data.toList)).flatMap encS
  | [] => rfl
  | b :: r => by
    have := bytes_flat r
    simp only [List.map_cons, List.flatMap_cons, this, encS]
    rfl
theorem c_strings_Split (w : World) (s : List UInt8) (p : List UInt8) (hp0 : (s.length : Int) < 4294967281) (hp1 : 1 ≤ p.length) (hE : EnvW w) : Calls Tryz.prog 30 #[str s, str p] w fun e w' => ∃ (A1' : Option Addr) (n1' c1' : Nat), e = .returned (.slice A1' n1' c1') ∧ SlO w' w.heap.size encS 1 9 A1' n1' c1' (Lib.split s p) ∧ Lo w w' := by
  obtain ⟨m, hm⟩ := hE.ml
  refine (Tryz.strings_Split ⟨s.toArray⟩ ⟨p.toArray⟩ m w (by show s.length < _; omega) hm hp1).mono fun e w' ⟨he, hw⟩ => ?_
  have hl := Lib.splitB_all ⟨p.toArray⟩ hp1 0 (Lib.countB ⟨s.toArray⟩ ⟨p.toArray⟩) ⟨s.toArray⟩ rfl
  have hd : (Lib.splitB ⟨p.toArray⟩ 0 (Lib.countB ⟨s.toArray⟩ ⟨p.toArray⟩) ⟨s.toArray⟩).map (·.data.toList) = Lib.split s p := Lib.splitB_data _ _ _ _
  have hn : Lib.countB ⟨s.toArray⟩ ⟨p.toArray⟩ + 1 = (Lib.split s p).length := by rw [← hd, List.length_map, hl]
  have hc : Lib.countB ⟨s.toArray⟩ ⟨p.toArray⟩ ≤ s.length := Lib.countB_le ⟨p.toArray⟩ hp1 s.length ⟨s.toArray⟩ (Nat.le_refl _)
  rw [bytes_flat, hd] at hw
  rw [hn] at he
  subst hw
  have hfl : ((Lib.split s p).flatMap encS).length = (Lib.split s p).length * 1 := flat_len (enc := encS) (sz := 1) (fun _ => rfl) (Lib.split s p)
  refine ⟨_, _, _, he, ⟨?_, rfl, fun _ => rfl, by simp⟩, Lo.alloc _ _⟩
  have := World.ownsRow_lit (base := w.heap.size) (e := 9) (size := 1) w ((Lib.split s p).flatMap encS).toArray (Lib.split s p).length (Nat.le_refl _) (by unfold maxLen; omega) (by simpa using hfl)
  simpa using this
theorem c_strconv_Atoi (w : World) (s : List UInt8) (hp0 : (s.length : Int) ≤ 281474976710656) (hE : EnvW w) : Calls Tryz.prog 60 #[str s] w fun e w' => ∃ (n : Int) (v : Value), e = .returned (.tuple (List.toArray [.int .i64 n, v])) ∧ (AtIs s n) ∧ (ErrIs v (atB s = true)) ∧ Lo w w' := by
  have hz : (⟨s.toArray⟩ : ByteArray).size ≤ 281474976710656 := by show s.length ≤ _; omega
  rcases h : Lib.atoiAll s with v | _ | _
  · refine (Tryz.strconv_Atoi_ok ⟨s.toArray⟩ (by omega) v h w).mono fun e w' ⟨he, hw⟩ => ⟨v, .nilIface, he, ⟨Lib.atoiAll_bounds h, fun _ => h⟩, .inl ⟨by unfold atB; rw [h], rfl⟩, ?_⟩
    rcases hw with rfl | ⟨t, rfl⟩
    · exact Lo.refl _
    · exact lo_of (Lib.bytesWorld_below _ _ _)
  · obtain ⟨ev, hv, hev⟩ := hE.es
    have hC : Calls Tryz.prog 60 #[str s] w fun e w' => ∃ N, e = .returned (.tuple #[.int .i64 0, .iface 92 (.pointer (some ⟨N, 0, none⟩))]) ∧ w.heap.size ≤ N ∧ w'.heap[N]? = some (.cells #[.string ⟨#[65, 116, 111, 105]⟩, str s, ev] 104 (0, 0)) ∧ Below w.heap.size w w' := Any.strconv_Atoi_syntax Tryz.laysC172 ⟨s.toArray⟩ hz h ev w hv hev
    exact hC.mono fun e w' ⟨N, he, _, _, hb⟩ => ⟨0, _, he, ⟨by omega, fun q => by simp [atB, h] at q⟩, .inr ⟨by simp [atB, h], _, _, rfl⟩, lo_of hb⟩
  · obtain ⟨ev, hv, hev⟩ := hE.er
    exact (Tryz.strconv_Atoi_range ⟨s.toArray⟩ hz h ev w hv hev).mono fun e w' ⟨N, he, _, _, hb⟩ => ⟨_, _, he, ⟨Lib.atoiSat_bounds _, fun q => by simp [atB, h] at q⟩, .inr ⟨by simp [atB, h], _, _, rfl⟩, lo_of hb⟩
theorem c_strings_TrimPrefix (w : World) (s : List UInt8) (p : List UInt8) : Calls Tryz.prog 28 #[str s, str p] w fun e w' => e = .returned (str (Lib.trimPrefix s p)) ∧ Lo w w' :=
  (Tryz.strings_TrimPrefix ⟨s.toArray⟩ ⟨p.toArray⟩ w).mono fun _ _ ⟨he, hw⟩ => ⟨he, hw ▸ Lo.refl _⟩
end Go.Proofs.YtnbbfokkpkphoaaGreatDoor
