/- Walks, printed by a program of this claim's author. -/
import Derived.Test.YthgbcadgnihdiaaChecked
import Derived.Test.YthgbcadgnihdiaaRa
import Derived.Test.YthgbcadgnihdiaaRb
import Derived.Test.YthgbcadgnihdiaaFu
import Derived.Test.YthgbcadgnihdiaaFs
import Derived.Test.YthgbcadgnihdiaaFq
import Derived.Test.YthgbcadgnihdiaaFo
import Derived.Test.YthgbcadgnihdiaaFp
import Derived.Test.YthgbcadgnihdiaaG30f
namespace Go.Proofs.Ythgbcadgnihdiaa
open Go Go.RowKit Fw
set_option maxRecDepth 10000
set_option linter.unusedVariables false
theorem bld59_0_1_2_3 (a0 : Int) (a1 : Int) (a2 : Int) (a3 : Int) : Try.prog.built 59 [(0, .int .i64 a0), (1, .int .i64 a1), (2, .int .i64 a2), (3, .int .i64 a3)] = some (List.toArray [.int .i64 a0, .int .i64 a1, .int .i64 a2, .int .i64 a3]) := by kernel_rfl
theorem ent51 : Ent Try.prog 51 := ent_of Try.func51 (by decide +kernel) rfl
theorem ent53 : Ent Try.prog 53 := ent_of Try.func53 (by decide +kernel) rfl
theorem ent54 : Ent Try.prog 54 := ent_of Try.func54 (by decide +kernel) rfl
theorem tsl39 : TSl Try.prog 39 3 1 := ⟨by kernel_rfl, fun _ => by kernel_rfl⟩
theorem und39 : Try.prog.underlying 39 = some (.slice 3) := by kernel_rfl

theorem z_c_spec_SeatReader_13 (L : List Visit) (nL : Nat) (hbdL : (nL : Int) ≤ 9223372036854775807) (hleL : nL = L.length) (r : Int) (a : Int) (b : Int) (h5 : ¬ (VsOK L)) : ([] : List Visit) = (seatR L r a b).elim [] (·.1) := by
  try simp only [Int.toNat_natCast] at *
  first | (rw [show seatR L r a b = none from by first | exact seat_no (fun h => absurd h.1 ‹_›) | exact seat_no (by omega) | exact seat_full ‹_› ‹_› | exact seat_bad ‹(freeN L a b 6)[0]? = some _› (by first | exact pos_back (And.right ‹_ ∧ GtFrom L a _›) hleL (And.left ‹_ ∧ GtFrom L a _›) ‹_› | exact pos_back' ‹VsOK L› (And.right ‹_ ∧ GtFrom L a _›) ‹L[k - 1]? = some _› hleL (And.left ‹_ ∧ GtFrom L a _›) ‹_›) ‹_›]; rfl) | (rw [seat_yes ‹VsOK L› ‹_› ‹(freeN L a b 6)[0]? = some _› (by first | exact pos_back (And.right ‹_ ∧ GtFrom L a _›) hleL (And.left ‹_ ∧ GtFrom L a _›) ‹_› | exact pos_back' ‹VsOK L› (And.right ‹_ ∧ GtFrom L a _›) ‹L[k - 1]? = some _› hleL (And.left ‹_ ∧ GtFrom L a _›) ‹_›) ‹_›]; rfl)
theorem z_c_spec_SeatReader_14 (L : List Visit) (nL : Nat) (hbdL : (nL : Int) ≤ 9223372036854775807) (hleL : nL = L.length) (r : Int) (a : Int) (b : Int) (h5 : ¬ (VsOK L)) : 0 = (seatR L r a b).elim 0 (·.2) := by
  try simp only [Int.toNat_natCast] at *
  first | (rw [show seatR L r a b = none from by first | exact seat_no (fun h => absurd h.1 ‹_›) | exact seat_no (by omega) | exact seat_full ‹_› ‹_› | exact seat_bad ‹(freeN L a b 6)[0]? = some _› (by first | exact pos_back (And.right ‹_ ∧ GtFrom L a _›) hleL (And.left ‹_ ∧ GtFrom L a _›) ‹_› | exact pos_back' ‹VsOK L› (And.right ‹_ ∧ GtFrom L a _›) ‹L[k - 1]? = some _› hleL (And.left ‹_ ∧ GtFrom L a _›) ‹_›) ‹_›]; rfl) | (rw [seat_yes ‹VsOK L› ‹_› ‹(freeN L a b 6)[0]? = some _› (by first | exact pos_back (And.right ‹_ ∧ GtFrom L a _›) hleL (And.left ‹_ ∧ GtFrom L a _›) ‹_› | exact pos_back' ‹VsOK L› (And.right ‹_ ∧ GtFrom L a _›) ‹L[k - 1]? = some _› hleL (And.left ‹_ ∧ GtFrom L a _›) ‹_›) ‹_›]; rfl)
theorem z_c_spec_SeatReader_15 (L : List Visit) (nL : Nat) (hbdL : (nL : Int) ≤ 9223372036854775807) (hleL : nL = L.length) (r : Int) (a : Int) (b : Int) (h5 : ¬ (VsOK L)) : false = (seatR L r a b).isSome := by
  try simp only [Int.toNat_natCast] at *
  first | (rw [show seatR L r a b = none from by first | exact seat_no (fun h => absurd h.1 ‹_›) | exact seat_no (by omega) | exact seat_full ‹_› ‹_› | exact seat_bad ‹(freeN L a b 6)[0]? = some _› (by first | exact pos_back (And.right ‹_ ∧ GtFrom L a _›) hleL (And.left ‹_ ∧ GtFrom L a _›) ‹_› | exact pos_back' ‹VsOK L› (And.right ‹_ ∧ GtFrom L a _›) ‹L[k - 1]? = some _› hleL (And.left ‹_ ∧ GtFrom L a _›) ‹_›) ‹_›]; rfl) | (rw [seat_yes ‹VsOK L› ‹_› ‹(freeN L a b 6)[0]? = some _› (by first | exact pos_back (And.right ‹_ ∧ GtFrom L a _›) hleL (And.left ‹_ ∧ GtFrom L a _›) ‹_› | exact pos_back' ‹VsOK L› (And.right ‹_ ∧ GtFrom L a _›) ‹L[k - 1]? = some _› hleL (And.left ‹_ ∧ GtFrom L a _›) ‹_›) ‹_›]; rfl)
theorem z_c_spec_SeatReader_29 (L : List Visit) (nL : Nat) (hbdL : (nL : Int) ≤ 9223372036854775807) (hleL : nL = L.length) (r : Int) (a : Int) (b : Int) (h5 : VsOK L) (hq16 : L.length ≤ 15) (h21 : ¬ ((480 ≤ a ∧ a ≤ 1200) ∧ (480 ≤ b ∧ b ≤ 1200) ∧ a < b)) : ([] : List Visit) = (seatR L r a b).elim [] (·.1) := by
  try simp only [Int.toNat_natCast] at *
  first | (rw [show seatR L r a b = none from by first | exact seat_no (fun h => absurd h.1 ‹_›) | exact seat_no (by omega) | exact seat_full ‹_› ‹_› | exact seat_bad ‹(freeN L a b 6)[0]? = some _› (by first | exact pos_back (And.right ‹_ ∧ GtFrom L a _›) hleL (And.left ‹_ ∧ GtFrom L a _›) ‹_› | exact pos_back' ‹VsOK L› (And.right ‹_ ∧ GtFrom L a _›) ‹L[k - 1]? = some _› hleL (And.left ‹_ ∧ GtFrom L a _›) ‹_›) ‹_›]; rfl) | (rw [seat_yes ‹VsOK L› ‹_› ‹(freeN L a b 6)[0]? = some _› (by first | exact pos_back (And.right ‹_ ∧ GtFrom L a _›) hleL (And.left ‹_ ∧ GtFrom L a _›) ‹_› | exact pos_back' ‹VsOK L› (And.right ‹_ ∧ GtFrom L a _›) ‹L[k - 1]? = some _› hleL (And.left ‹_ ∧ GtFrom L a _›) ‹_›) ‹_›]; rfl)
theorem z_c_spec_SeatReader_30 (L : List Visit) (nL : Nat) (hbdL : (nL : Int) ≤ 9223372036854775807) (hleL : nL = L.length) (r : Int) (a : Int) (b : Int) (h5 : VsOK L) (hq16 : L.length ≤ 15) (h21 : ¬ ((480 ≤ a ∧ a ≤ 1200) ∧ (480 ≤ b ∧ b ≤ 1200) ∧ a < b)) : 0 = (seatR L r a b).elim 0 (·.2) := by
  try simp only [Int.toNat_natCast] at *
  first | (rw [show seatR L r a b = none from by first | exact seat_no (fun h => absurd h.1 ‹_›) | exact seat_no (by omega) | exact seat_full ‹_› ‹_› | exact seat_bad ‹(freeN L a b 6)[0]? = some _› (by first | exact pos_back (And.right ‹_ ∧ GtFrom L a _›) hleL (And.left ‹_ ∧ GtFrom L a _›) ‹_› | exact pos_back' ‹VsOK L› (And.right ‹_ ∧ GtFrom L a _›) ‹L[k - 1]? = some _› hleL (And.left ‹_ ∧ GtFrom L a _›) ‹_›) ‹_›]; rfl) | (rw [seat_yes ‹VsOK L› ‹_› ‹(freeN L a b 6)[0]? = some _› (by first | exact pos_back (And.right ‹_ ∧ GtFrom L a _›) hleL (And.left ‹_ ∧ GtFrom L a _›) ‹_› | exact pos_back' ‹VsOK L› (And.right ‹_ ∧ GtFrom L a _›) ‹L[k - 1]? = some _› hleL (And.left ‹_ ∧ GtFrom L a _›) ‹_›) ‹_›]; rfl)
theorem z_c_spec_SeatReader_31 (L : List Visit) (nL : Nat) (hbdL : (nL : Int) ≤ 9223372036854775807) (hleL : nL = L.length) (r : Int) (a : Int) (b : Int) (h5 : VsOK L) (hq16 : L.length ≤ 15) (h21 : ¬ ((480 ≤ a ∧ a ≤ 1200) ∧ (480 ≤ b ∧ b ≤ 1200) ∧ a < b)) : false = (seatR L r a b).isSome := by
  try simp only [Int.toNat_natCast] at *
  first | (rw [show seatR L r a b = none from by first | exact seat_no (fun h => absurd h.1 ‹_›) | exact seat_no (by omega) | exact seat_full ‹_› ‹_› | exact seat_bad ‹(freeN L a b 6)[0]? = some _› (by first | exact pos_back (And.right ‹_ ∧ GtFrom L a _›) hleL (And.left ‹_ ∧ GtFrom L a _›) ‹_› | exact pos_back' ‹VsOK L› (And.right ‹_ ∧ GtFrom L a _›) ‹L[k - 1]? = some _› hleL (And.left ‹_ ∧ GtFrom L a _›) ‹_›) ‹_›]; rfl) | (rw [seat_yes ‹VsOK L› ‹_› ‹(freeN L a b 6)[0]? = some _› (by first | exact pos_back (And.right ‹_ ∧ GtFrom L a _›) hleL (And.left ‹_ ∧ GtFrom L a _›) ‹_› | exact pos_back' ‹VsOK L› (And.right ‹_ ∧ GtFrom L a _›) ‹L[k - 1]? = some _› hleL (And.left ‹_ ∧ GtFrom L a _›) ‹_›) ‹_›]; rfl)
theorem z_c_spec_SeatReader_52 (L : List Visit) (nL : Nat) (hbdL : (nL : Int) ≤ 9223372036854775807) (hleL : nL = L.length) (r : Int) (a : Int) (b : Int) (h5 : VsOK L) (hq16 : L.length ≤ 15) (h21 : (480 ≤ a ∧ a ≤ 1200) ∧ (480 ≤ b ∧ b ≤ 1200) ∧ a < b) (n35 : Nat) (hl40 : n35 = (freeN L a b 6).length) (hl41 : (n35 : Int) ≤ 9223372036854775807) (hq42 : (freeN L a b 6).length ≤ 6) (h43 : (n35 : Int) = 0) : ([] : List Visit) = (seatR L r a b).elim [] (·.1) := by
  try simp only [Int.toNat_natCast] at *
  first | (rw [show seatR L r a b = none from by first | exact seat_no (fun h => absurd h.1 ‹_›) | exact seat_no (by omega) | exact seat_full ‹_› ‹_› | exact seat_bad ‹(freeN L a b 6)[0]? = some _› (by first | exact pos_back (And.right ‹_ ∧ GtFrom L a _›) hleL (And.left ‹_ ∧ GtFrom L a _›) ‹_› | exact pos_back' ‹VsOK L› (And.right ‹_ ∧ GtFrom L a _›) ‹L[k - 1]? = some _› hleL (And.left ‹_ ∧ GtFrom L a _›) ‹_›) ‹_›]; rfl) | (rw [seat_yes ‹VsOK L› ‹_› ‹(freeN L a b 6)[0]? = some _› (by first | exact pos_back (And.right ‹_ ∧ GtFrom L a _›) hleL (And.left ‹_ ∧ GtFrom L a _›) ‹_› | exact pos_back' ‹VsOK L› (And.right ‹_ ∧ GtFrom L a _›) ‹L[k - 1]? = some _› hleL (And.left ‹_ ∧ GtFrom L a _›) ‹_›) ‹_›]; rfl)
theorem z_c_spec_SeatReader_53 (L : List Visit) (nL : Nat) (hbdL : (nL : Int) ≤ 9223372036854775807) (hleL : nL = L.length) (r : Int) (a : Int) (b : Int) (h5 : VsOK L) (hq16 : L.length ≤ 15) (h21 : (480 ≤ a ∧ a ≤ 1200) ∧ (480 ≤ b ∧ b ≤ 1200) ∧ a < b) (n35 : Nat) (hl40 : n35 = (freeN L a b 6).length) (hl41 : (n35 : Int) ≤ 9223372036854775807) (hq42 : (freeN L a b 6).length ≤ 6) (h43 : (n35 : Int) = 0) : 0 = (seatR L r a b).elim 0 (·.2) := by
  try simp only [Int.toNat_natCast] at *
  first | (rw [show seatR L r a b = none from by first | exact seat_no (fun h => absurd h.1 ‹_›) | exact seat_no (by omega) | exact seat_full ‹_› ‹_› | exact seat_bad ‹(freeN L a b 6)[0]? = some _› (by first | exact pos_back (And.right ‹_ ∧ GtFrom L a _›) hleL (And.left ‹_ ∧ GtFrom L a _›) ‹_› | exact pos_back' ‹VsOK L› (And.right ‹_ ∧ GtFrom L a _›) ‹L[k - 1]? = some _› hleL (And.left ‹_ ∧ GtFrom L a _›) ‹_›) ‹_›]; rfl) | (rw [seat_yes ‹VsOK L› ‹_› ‹(freeN L a b 6)[0]? = some _› (by first | exact pos_back (And.right ‹_ ∧ GtFrom L a _›) hleL (And.left ‹_ ∧ GtFrom L a _›) ‹_› | exact pos_back' ‹VsOK L› (And.right ‹_ ∧ GtFrom L a _›) ‹L[k - 1]? = some _› hleL (And.left ‹_ ∧ GtFrom L a _›) ‹_›) ‹_›]; rfl)
theorem z_c_spec_SeatReader_54 (L : List Visit) (nL : Nat) (hbdL : (nL : Int) ≤ 9223372036854775807) (hleL : nL = L.length) (r : Int) (a : Int) (b : Int) (h5 : VsOK L) (hq16 : L.length ≤ 15) (h21 : (480 ≤ a ∧ a ≤ 1200) ∧ (480 ≤ b ∧ b ≤ 1200) ∧ a < b) (n35 : Nat) (hl40 : n35 = (freeN L a b 6).length) (hl41 : (n35 : Int) ≤ 9223372036854775807) (hq42 : (freeN L a b 6).length ≤ 6) (h43 : (n35 : Int) = 0) : false = (seatR L r a b).isSome := by
  try simp only [Int.toNat_natCast] at *
  first | (rw [show seatR L r a b = none from by first | exact seat_no (fun h => absurd h.1 ‹_›) | exact seat_no (by omega) | exact seat_full ‹_› ‹_› | exact seat_bad ‹(freeN L a b 6)[0]? = some _› (by first | exact pos_back (And.right ‹_ ∧ GtFrom L a _›) hleL (And.left ‹_ ∧ GtFrom L a _›) ‹_› | exact pos_back' ‹VsOK L› (And.right ‹_ ∧ GtFrom L a _›) ‹L[k - 1]? = some _› hleL (And.left ‹_ ∧ GtFrom L a _›) ‹_›) ‹_›]; rfl) | (rw [seat_yes ‹VsOK L› ‹_› ‹(freeN L a b 6)[0]? = some _› (by first | exact pos_back (And.right ‹_ ∧ GtFrom L a _›) hleL (And.left ‹_ ∧ GtFrom L a _›) ‹_› | exact pos_back' ‹VsOK L› (And.right ‹_ ∧ GtFrom L a _›) ‹L[k - 1]? = some _› hleL (And.left ‹_ ∧ GtFrom L a _›) ‹_›) ‹_›]; rfl)
theorem z_c_spec_SeatReader_55 (L : List Visit) (nL : Nat) (hbdL : (nL : Int) ≤ 9223372036854775807) (hleL : nL = L.length) (r : Int) (a : Int) (b : Int) (h5 : VsOK L) (hq16 : L.length ≤ 15) (h21 : (480 ≤ a ∧ a ≤ 1200) ∧ (480 ≤ b ∧ b ≤ 1200) ∧ a < b) (n35 : Nat) (hl40 : n35 = (freeN L a b 6).length) (hl41 : (n35 : Int) ≤ 9223372036854775807) (hq42 : (freeN L a b 6).length ≤ 6) (h43 : ¬ ((n35 : Int) = 0)) : nL ≤ nL ∧ GtFrom L a nL := by
  exact ⟨Nat.le_refl _, gtFrom_top hleL⟩
theorem z_c_spec_SeatReader_69 (L : List Visit) (nL : Nat) (hbdL : (nL : Int) ≤ 9223372036854775807) (hleL : nL = L.length) (r : Int) (a : Int) (b : Int) (h5 : VsOK L) (hq16 : L.length ≤ 15) (h21 : (480 ≤ a ∧ a ≤ 1200) ∧ (480 ≤ b ∧ b ≤ 1200) ∧ a < b) (n35 : Nat) (hl40 : n35 = (freeN L a b 6).length) (hl41 : (n35 : Int) ≤ 9223372036854775807) (hq42 : (freeN L a b 6).length ≤ 6) (h43 : ¬ ((n35 : Int) = 0)) (k : Nat) (hi62 : k ≤ nL ∧ GtFrom L a k) (h63 : 0 < (k : Int)) (x64 : Visit) (hx66 : L[k - 1]? = some x64) (hq67 : ((1 : Int) ≤ x64.Reader ∧ x64.Reader ≤ 999) ∧ ((1 : Int) ≤ x64.Seat ∧ x64.Seat ≤ 6) ∧ ((480 : Int) ≤ x64.From ∧ x64.From ≤ 1200) ∧ ((480 : Int) ≤ x64.Until ∧ x64.Until ≤ 1200) ∧ x64.From < x64.Until) (h68 : a < x64.From) : k - 1 ≤ nL ∧ GtFrom L a (k - 1) := by
  exact ⟨by omega, gtFrom_next (And.right ‹_ ∧ GtFrom L a _›) ‹L[k - 1]? = some _› (by omega) (by omega)⟩
theorem z_c_spec_SeatReader_70 (L : List Visit) (nL : Nat) (hbdL : (nL : Int) ≤ 9223372036854775807) (hleL : nL = L.length) (r : Int) (a : Int) (b : Int) (h5 : VsOK L) (hq16 : L.length ≤ 15) (h21 : (480 ≤ a ∧ a ≤ 1200) ∧ (480 ≤ b ∧ b ≤ 1200) ∧ a < b) (n35 : Nat) (hl40 : n35 = (freeN L a b 6).length) (hl41 : (n35 : Int) ≤ 9223372036854775807) (hq42 : (freeN L a b 6).length ≤ 6) (h43 : ¬ ((n35 : Int) = 0)) (k : Nat) (hi62 : k ≤ nL ∧ GtFrom L a k) (h63 : 0 < (k : Int)) (x64 : Visit) (hx66 : L[k - 1]? = some x64) (hq67 : ((1 : Int) ≤ x64.Reader ∧ x64.Reader ≤ 999) ∧ ((1 : Int) ≤ x64.Seat ∧ x64.Seat ≤ 6) ∧ ((480 : Int) ≤ x64.From ∧ x64.From ≤ 1200) ∧ ((480 : Int) ≤ x64.Until ∧ x64.Until ≤ 1200) ∧ x64.From < x64.Until) (h68 : a < x64.From) : (k - 1) < k := by
  omega
theorem z_c_spec_SeatReader_271 (L : List Visit) (nL : Nat) (hbdL : (nL : Int) ≤ 9223372036854775807) (hleL : nL = L.length) (r : Int) (a : Int) (b : Int) (h5 : VsOK L) (hq16 : L.length ≤ 15) (h21 : (480 ≤ a ∧ a ≤ 1200) ∧ (480 ≤ b ∧ b ≤ 1200) ∧ a < b) (n35 : Nat) (hl40 : n35 = (freeN L a b 6).length) (hl41 : (n35 : Int) ≤ 9223372036854775807) (hq42 : (freeN L a b 6).length ≤ 6) (h43 : ¬ ((n35 : Int) = 0)) (k : Nat) (hi62 : k ≤ nL ∧ GtFrom L a k) (h63 : 0 < (k : Int)) (x64 : Visit) (hx66 : L[k - 1]? = some x64) (hq67 : ((1 : Int) ≤ x64.Reader ∧ x64.Reader ≤ 999) ∧ ((1 : Int) ≤ x64.Seat ∧ x64.Seat ≤ 6) ∧ ((480 : Int) ≤ x64.From ∧ x64.From ≤ 1200) ∧ ((480 : Int) ≤ x64.Until ∧ x64.Until ≤ 1200) ∧ x64.From < x64.Until) (h68 : ¬ (a < x64.From)) (x71 : Int) (hx72 : (freeN L a b 6)[0]? = some x71) (h261 : ¬ (VsOK (((L.take k) ++ ([(⟨r, x71, a, b⟩ : Visit)] : List Visit)) ++ (L.drop k)))) : ([] : List Visit) = (seatR L r a b).elim [] (·.1) := by
  try simp only [Int.toNat_natCast] at *
  first | (rw [show seatR L r a b = none from by first | exact seat_no (fun h => absurd h.1 ‹_›) | exact seat_no (by omega) | exact seat_full ‹_› ‹_› | exact seat_bad ‹(freeN L a b 6)[0]? = some _› (by first | exact pos_back (And.right ‹_ ∧ GtFrom L a _›) hleL (And.left ‹_ ∧ GtFrom L a _›) ‹_› | exact pos_back' ‹VsOK L› (And.right ‹_ ∧ GtFrom L a _›) ‹L[k - 1]? = some _› hleL (And.left ‹_ ∧ GtFrom L a _›) ‹_›) ‹_›]; rfl) | (rw [seat_yes ‹VsOK L› ‹_› ‹(freeN L a b 6)[0]? = some _› (by first | exact pos_back (And.right ‹_ ∧ GtFrom L a _›) hleL (And.left ‹_ ∧ GtFrom L a _›) ‹_› | exact pos_back' ‹VsOK L› (And.right ‹_ ∧ GtFrom L a _›) ‹L[k - 1]? = some _› hleL (And.left ‹_ ∧ GtFrom L a _›) ‹_›) ‹_›]; rfl)
theorem z_c_spec_SeatReader_272 (L : List Visit) (nL : Nat) (hbdL : (nL : Int) ≤ 9223372036854775807) (hleL : nL = L.length) (r : Int) (a : Int) (b : Int) (h5 : VsOK L) (hq16 : L.length ≤ 15) (h21 : (480 ≤ a ∧ a ≤ 1200) ∧ (480 ≤ b ∧ b ≤ 1200) ∧ a < b) (n35 : Nat) (hl40 : n35 = (freeN L a b 6).length) (hl41 : (n35 : Int) ≤ 9223372036854775807) (hq42 : (freeN L a b 6).length ≤ 6) (h43 : ¬ ((n35 : Int) = 0)) (k : Nat) (hi62 : k ≤ nL ∧ GtFrom L a k) (h63 : 0 < (k : Int)) (x64 : Visit) (hx66 : L[k - 1]? = some x64) (hq67 : ((1 : Int) ≤ x64.Reader ∧ x64.Reader ≤ 999) ∧ ((1 : Int) ≤ x64.Seat ∧ x64.Seat ≤ 6) ∧ ((480 : Int) ≤ x64.From ∧ x64.From ≤ 1200) ∧ ((480 : Int) ≤ x64.Until ∧ x64.Until ≤ 1200) ∧ x64.From < x64.Until) (h68 : ¬ (a < x64.From)) (x71 : Int) (hx72 : (freeN L a b 6)[0]? = some x71) (h261 : ¬ (VsOK (((L.take k) ++ ([(⟨r, x71, a, b⟩ : Visit)] : List Visit)) ++ (L.drop k)))) : 0 = (seatR L r a b).elim 0 (·.2) := by
  try simp only [Int.toNat_natCast] at *
  first | (rw [show seatR L r a b = none from by first | exact seat_no (fun h => absurd h.1 ‹_›) | exact seat_no (by omega) | exact seat_full ‹_› ‹_› | exact seat_bad ‹(freeN L a b 6)[0]? = some _› (by first | exact pos_back (And.right ‹_ ∧ GtFrom L a _›) hleL (And.left ‹_ ∧ GtFrom L a _›) ‹_› | exact pos_back' ‹VsOK L› (And.right ‹_ ∧ GtFrom L a _›) ‹L[k - 1]? = some _› hleL (And.left ‹_ ∧ GtFrom L a _›) ‹_›) ‹_›]; rfl) | (rw [seat_yes ‹VsOK L› ‹_› ‹(freeN L a b 6)[0]? = some _› (by first | exact pos_back (And.right ‹_ ∧ GtFrom L a _›) hleL (And.left ‹_ ∧ GtFrom L a _›) ‹_› | exact pos_back' ‹VsOK L› (And.right ‹_ ∧ GtFrom L a _›) ‹L[k - 1]? = some _› hleL (And.left ‹_ ∧ GtFrom L a _›) ‹_›) ‹_›]; rfl)
theorem z_c_spec_SeatReader_273 (L : List Visit) (nL : Nat) (hbdL : (nL : Int) ≤ 9223372036854775807) (hleL : nL = L.length) (r : Int) (a : Int) (b : Int) (h5 : VsOK L) (hq16 : L.length ≤ 15) (h21 : (480 ≤ a ∧ a ≤ 1200) ∧ (480 ≤ b ∧ b ≤ 1200) ∧ a < b) (n35 : Nat) (hl40 : n35 = (freeN L a b 6).length) (hl41 : (n35 : Int) ≤ 9223372036854775807) (hq42 : (freeN L a b 6).length ≤ 6) (h43 : ¬ ((n35 : Int) = 0)) (k : Nat) (hi62 : k ≤ nL ∧ GtFrom L a k) (h63 : 0 < (k : Int)) (x64 : Visit) (hx66 : L[k - 1]? = some x64) (hq67 : ((1 : Int) ≤ x64.Reader ∧ x64.Reader ≤ 999) ∧ ((1 : Int) ≤ x64.Seat ∧ x64.Seat ≤ 6) ∧ ((480 : Int) ≤ x64.From ∧ x64.From ≤ 1200) ∧ ((480 : Int) ≤ x64.Until ∧ x64.Until ≤ 1200) ∧ x64.From < x64.Until) (h68 : ¬ (a < x64.From)) (x71 : Int) (hx72 : (freeN L a b 6)[0]? = some x71) (h261 : ¬ (VsOK (((L.take k) ++ ([(⟨r, x71, a, b⟩ : Visit)] : List Visit)) ++ (L.drop k)))) : false = (seatR L r a b).isSome := by
  try simp only [Int.toNat_natCast] at *
  first | (rw [show seatR L r a b = none from by first | exact seat_no (fun h => absurd h.1 ‹_›) | exact seat_no (by omega) | exact seat_full ‹_› ‹_› | exact seat_bad ‹(freeN L a b 6)[0]? = some _› (by first | exact pos_back (And.right ‹_ ∧ GtFrom L a _›) hleL (And.left ‹_ ∧ GtFrom L a _›) ‹_› | exact pos_back' ‹VsOK L› (And.right ‹_ ∧ GtFrom L a _›) ‹L[k - 1]? = some _› hleL (And.left ‹_ ∧ GtFrom L a _›) ‹_›) ‹_›]; rfl) | (rw [seat_yes ‹VsOK L› ‹_› ‹(freeN L a b 6)[0]? = some _› (by first | exact pos_back (And.right ‹_ ∧ GtFrom L a _›) hleL (And.left ‹_ ∧ GtFrom L a _›) ‹_› | exact pos_back' ‹VsOK L› (And.right ‹_ ∧ GtFrom L a _›) ‹L[k - 1]? = some _› hleL (And.left ‹_ ∧ GtFrom L a _›) ‹_›) ‹_›]; rfl)
theorem z_c_spec_SeatReader_278 (L : List Visit) (nL : Nat) (hbdL : (nL : Int) ≤ 9223372036854775807) (hleL : nL = L.length) (r : Int) (a : Int) (b : Int) (h5 : VsOK L) (hq16 : L.length ≤ 15) (h21 : (480 ≤ a ∧ a ≤ 1200) ∧ (480 ≤ b ∧ b ≤ 1200) ∧ a < b) (n35 : Nat) (hl40 : n35 = (freeN L a b 6).length) (hl41 : (n35 : Int) ≤ 9223372036854775807) (hq42 : (freeN L a b 6).length ≤ 6) (h43 : ¬ ((n35 : Int) = 0)) (k : Nat) (hi62 : k ≤ nL ∧ GtFrom L a k) (h63 : 0 < (k : Int)) (x64 : Visit) (hx66 : L[k - 1]? = some x64) (hq67 : ((1 : Int) ≤ x64.Reader ∧ x64.Reader ≤ 999) ∧ ((1 : Int) ≤ x64.Seat ∧ x64.Seat ≤ 6) ∧ ((480 : Int) ≤ x64.From ∧ x64.From ≤ 1200) ∧ ((480 : Int) ≤ x64.Until ∧ x64.Until ≤ 1200) ∧ x64.From < x64.Until) (h68 : ¬ (a < x64.From)) (x71 : Int) (hx72 : (freeN L a b 6)[0]? = some x71) (h261 : VsOK (((L.take k) ++ ([(⟨r, x71, a, b⟩ : Visit)] : List Visit)) ++ (L.drop k))) : ((L.take k) ++ ([(⟨r, x71, a, b⟩ : Visit)] : List Visit)) ++ (L.drop k) = (seatR L r a b).elim [] (·.1) := by
  try simp only [Int.toNat_natCast] at *
  first | (rw [show seatR L r a b = none from by first | exact seat_no (fun h => absurd h.1 ‹_›) | exact seat_no (by omega) | exact seat_full ‹_› ‹_› | exact seat_bad ‹(freeN L a b 6)[0]? = some _› (by first | exact pos_back (And.right ‹_ ∧ GtFrom L a _›) hleL (And.left ‹_ ∧ GtFrom L a _›) ‹_› | exact pos_back' ‹VsOK L› (And.right ‹_ ∧ GtFrom L a _›) ‹L[k - 1]? = some _› hleL (And.left ‹_ ∧ GtFrom L a _›) ‹_›) ‹_›]; rfl) | (rw [seat_yes ‹VsOK L› ‹_› ‹(freeN L a b 6)[0]? = some _› (by first | exact pos_back (And.right ‹_ ∧ GtFrom L a _›) hleL (And.left ‹_ ∧ GtFrom L a _›) ‹_› | exact pos_back' ‹VsOK L› (And.right ‹_ ∧ GtFrom L a _›) ‹L[k - 1]? = some _› hleL (And.left ‹_ ∧ GtFrom L a _›) ‹_›) ‹_›]; rfl)
theorem z_c_spec_SeatReader_279 (L : List Visit) (nL : Nat) (hbdL : (nL : Int) ≤ 9223372036854775807) (hleL : nL = L.length) (r : Int) (a : Int) (b : Int) (h5 : VsOK L) (hq16 : L.length ≤ 15) (h21 : (480 ≤ a ∧ a ≤ 1200) ∧ (480 ≤ b ∧ b ≤ 1200) ∧ a < b) (n35 : Nat) (hl40 : n35 = (freeN L a b 6).length) (hl41 : (n35 : Int) ≤ 9223372036854775807) (hq42 : (freeN L a b 6).length ≤ 6) (h43 : ¬ ((n35 : Int) = 0)) (k : Nat) (hi62 : k ≤ nL ∧ GtFrom L a k) (h63 : 0 < (k : Int)) (x64 : Visit) (hx66 : L[k - 1]? = some x64) (hq67 : ((1 : Int) ≤ x64.Reader ∧ x64.Reader ≤ 999) ∧ ((1 : Int) ≤ x64.Seat ∧ x64.Seat ≤ 6) ∧ ((480 : Int) ≤ x64.From ∧ x64.From ≤ 1200) ∧ ((480 : Int) ≤ x64.Until ∧ x64.Until ≤ 1200) ∧ x64.From < x64.Until) (h68 : ¬ (a < x64.From)) (x71 : Int) (hx72 : (freeN L a b 6)[0]? = some x71) (h261 : VsOK (((L.take k) ++ ([(⟨r, x71, a, b⟩ : Visit)] : List Visit)) ++ (L.drop k))) : x71 = (seatR L r a b).elim 0 (·.2) := by
  try simp only [Int.toNat_natCast] at *
  first | (rw [show seatR L r a b = none from by first | exact seat_no (fun h => absurd h.1 ‹_›) | exact seat_no (by omega) | exact seat_full ‹_› ‹_› | exact seat_bad ‹(freeN L a b 6)[0]? = some _› (by first | exact pos_back (And.right ‹_ ∧ GtFrom L a _›) hleL (And.left ‹_ ∧ GtFrom L a _›) ‹_› | exact pos_back' ‹VsOK L› (And.right ‹_ ∧ GtFrom L a _›) ‹L[k - 1]? = some _› hleL (And.left ‹_ ∧ GtFrom L a _›) ‹_›) ‹_›]; rfl) | (rw [seat_yes ‹VsOK L› ‹_› ‹(freeN L a b 6)[0]? = some _› (by first | exact pos_back (And.right ‹_ ∧ GtFrom L a _›) hleL (And.left ‹_ ∧ GtFrom L a _›) ‹_› | exact pos_back' ‹VsOK L› (And.right ‹_ ∧ GtFrom L a _›) ‹L[k - 1]? = some _› hleL (And.left ‹_ ∧ GtFrom L a _›) ‹_›) ‹_›]; rfl)
theorem z_c_spec_SeatReader_280 (L : List Visit) (nL : Nat) (hbdL : (nL : Int) ≤ 9223372036854775807) (hleL : nL = L.length) (r : Int) (a : Int) (b : Int) (h5 : VsOK L) (hq16 : L.length ≤ 15) (h21 : (480 ≤ a ∧ a ≤ 1200) ∧ (480 ≤ b ∧ b ≤ 1200) ∧ a < b) (n35 : Nat) (hl40 : n35 = (freeN L a b 6).length) (hl41 : (n35 : Int) ≤ 9223372036854775807) (hq42 : (freeN L a b 6).length ≤ 6) (h43 : ¬ ((n35 : Int) = 0)) (k : Nat) (hi62 : k ≤ nL ∧ GtFrom L a k) (h63 : 0 < (k : Int)) (x64 : Visit) (hx66 : L[k - 1]? = some x64) (hq67 : ((1 : Int) ≤ x64.Reader ∧ x64.Reader ≤ 999) ∧ ((1 : Int) ≤ x64.Seat ∧ x64.Seat ≤ 6) ∧ ((480 : Int) ≤ x64.From ∧ x64.From ≤ 1200) ∧ ((480 : Int) ≤ x64.Until ∧ x64.Until ≤ 1200) ∧ x64.From < x64.Until) (h68 : ¬ (a < x64.From)) (x71 : Int) (hx72 : (freeN L a b 6)[0]? = some x71) (h261 : VsOK (((L.take k) ++ ([(⟨r, x71, a, b⟩ : Visit)] : List Visit)) ++ (L.drop k))) : true = (seatR L r a b).isSome := by
  try simp only [Int.toNat_natCast] at *
  first | (rw [show seatR L r a b = none from by first | exact seat_no (fun h => absurd h.1 ‹_›) | exact seat_no (by omega) | exact seat_full ‹_› ‹_› | exact seat_bad ‹(freeN L a b 6)[0]? = some _› (by first | exact pos_back (And.right ‹_ ∧ GtFrom L a _›) hleL (And.left ‹_ ∧ GtFrom L a _›) ‹_› | exact pos_back' ‹VsOK L› (And.right ‹_ ∧ GtFrom L a _›) ‹L[k - 1]? = some _› hleL (And.left ‹_ ∧ GtFrom L a _›) ‹_›) ‹_›]; rfl) | (rw [seat_yes ‹VsOK L› ‹_› ‹(freeN L a b 6)[0]? = some _› (by first | exact pos_back (And.right ‹_ ∧ GtFrom L a _›) hleL (And.left ‹_ ∧ GtFrom L a _›) ‹_› | exact pos_back' ‹VsOK L› (And.right ‹_ ∧ GtFrom L a _›) ‹L[k - 1]? = some _› hleL (And.left ‹_ ∧ GtFrom L a _›) ‹_›) ‹_›]; rfl)
theorem z_c_spec_SeatReader_481 (L : List Visit) (nL : Nat) (hbdL : (nL : Int) ≤ 9223372036854775807) (hleL : nL = L.length) (r : Int) (a : Int) (b : Int) (h5 : VsOK L) (hq16 : L.length ≤ 15) (h21 : (480 ≤ a ∧ a ≤ 1200) ∧ (480 ≤ b ∧ b ≤ 1200) ∧ a < b) (n35 : Nat) (hl40 : n35 = (freeN L a b 6).length) (hl41 : (n35 : Int) ≤ 9223372036854775807) (hq42 : (freeN L a b 6).length ≤ 6) (h43 : ¬ ((n35 : Int) = 0)) (k : Nat) (hi62 : k ≤ nL ∧ GtFrom L a k) (h63 : ¬ (0 < (k : Int))) (x281 : Int) (hx282 : (freeN L a b 6)[0]? = some x281) (h471 : ¬ (VsOK (((L.take k) ++ ([(⟨r, x281, a, b⟩ : Visit)] : List Visit)) ++ (L.drop k)))) : ([] : List Visit) = (seatR L r a b).elim [] (·.1) := by
  try simp only [Int.toNat_natCast] at *
  first | (rw [show seatR L r a b = none from by first | exact seat_no (fun h => absurd h.1 ‹_›) | exact seat_no (by omega) | exact seat_full ‹_› ‹_› | exact seat_bad ‹(freeN L a b 6)[0]? = some _› (by first | exact pos_back (And.right ‹_ ∧ GtFrom L a _›) hleL (And.left ‹_ ∧ GtFrom L a _›) ‹_› | exact pos_back' ‹VsOK L› (And.right ‹_ ∧ GtFrom L a _›) ‹L[k - 1]? = some _› hleL (And.left ‹_ ∧ GtFrom L a _›) ‹_›) ‹_›]; rfl) | (rw [seat_yes ‹VsOK L› ‹_› ‹(freeN L a b 6)[0]? = some _› (by first | exact pos_back (And.right ‹_ ∧ GtFrom L a _›) hleL (And.left ‹_ ∧ GtFrom L a _›) ‹_› | exact pos_back' ‹VsOK L› (And.right ‹_ ∧ GtFrom L a _›) ‹L[k - 1]? = some _› hleL (And.left ‹_ ∧ GtFrom L a _›) ‹_›) ‹_›]; rfl)
theorem z_c_spec_SeatReader_482 (L : List Visit) (nL : Nat) (hbdL : (nL : Int) ≤ 9223372036854775807) (hleL : nL = L.length) (r : Int) (a : Int) (b : Int) (h5 : VsOK L) (hq16 : L.length ≤ 15) (h21 : (480 ≤ a ∧ a ≤ 1200) ∧ (480 ≤ b ∧ b ≤ 1200) ∧ a < b) (n35 : Nat) (hl40 : n35 = (freeN L a b 6).length) (hl41 : (n35 : Int) ≤ 9223372036854775807) (hq42 : (freeN L a b 6).length ≤ 6) (h43 : ¬ ((n35 : Int) = 0)) (k : Nat) (hi62 : k ≤ nL ∧ GtFrom L a k) (h63 : ¬ (0 < (k : Int))) (x281 : Int) (hx282 : (freeN L a b 6)[0]? = some x281) (h471 : ¬ (VsOK (((L.take k) ++ ([(⟨r, x281, a, b⟩ : Visit)] : List Visit)) ++ (L.drop k)))) : 0 = (seatR L r a b).elim 0 (·.2) := by
  try simp only [Int.toNat_natCast] at *
  first | (rw [show seatR L r a b = none from by first | exact seat_no (fun h => absurd h.1 ‹_›) | exact seat_no (by omega) | exact seat_full ‹_› ‹_› | exact seat_bad ‹(freeN L a b 6)[0]? = some _› (by first | exact pos_back (And.right ‹_ ∧ GtFrom L a _›) hleL (And.left ‹_ ∧ GtFrom L a _›) ‹_› | exact pos_back' ‹VsOK L› (And.right ‹_ ∧ GtFrom L a _›) ‹L[k - 1]? = some _› hleL (And.left ‹_ ∧ GtFrom L a _›) ‹_›) ‹_›]; rfl) | (rw [seat_yes ‹VsOK L› ‹_› ‹(freeN L a b 6)[0]? = some _› (by first | exact pos_back (And.right ‹_ ∧ GtFrom L a _›) hleL (And.left ‹_ ∧ GtFrom L a _›) ‹_› | exact pos_back' ‹VsOK L› (And.right ‹_ ∧ GtFrom L a _›) ‹L[k - 1]? = some _› hleL (And.left ‹_ ∧ GtFrom L a _›) ‹_›) ‹_›]; rfl)
theorem z_c_spec_SeatReader_483 (L : List Visit) (nL : Nat) (hbdL : (nL : Int) ≤ 9223372036854775807) (hleL : nL = L.length) (r : Int) (a : Int) (b : Int) (h5 : VsOK L) (hq16 : L.length ≤ 15) (h21 : (480 ≤ a ∧ a ≤ 1200) ∧ (480 ≤ b ∧ b ≤ 1200) ∧ a < b) (n35 : Nat) (hl40 : n35 = (freeN L a b 6).length) (hl41 : (n35 : Int) ≤ 9223372036854775807) (hq42 : (freeN L a b 6).length ≤ 6) (h43 : ¬ ((n35 : Int) = 0)) (k : Nat) (hi62 : k ≤ nL ∧ GtFrom L a k) (h63 : ¬ (0 < (k : Int))) (x281 : Int) (hx282 : (freeN L a b 6)[0]? = some x281) (h471 : ¬ (VsOK (((L.take k) ++ ([(⟨r, x281, a, b⟩ : Visit)] : List Visit)) ++ (L.drop k)))) : false = (seatR L r a b).isSome := by
  try simp only [Int.toNat_natCast] at *
  first | (rw [show seatR L r a b = none from by first | exact seat_no (fun h => absurd h.1 ‹_›) | exact seat_no (by omega) | exact seat_full ‹_› ‹_› | exact seat_bad ‹(freeN L a b 6)[0]? = some _› (by first | exact pos_back (And.right ‹_ ∧ GtFrom L a _›) hleL (And.left ‹_ ∧ GtFrom L a _›) ‹_› | exact pos_back' ‹VsOK L› (And.right ‹_ ∧ GtFrom L a _›) ‹L[k - 1]? = some _› hleL (And.left ‹_ ∧ GtFrom L a _›) ‹_›) ‹_›]; rfl) | (rw [seat_yes ‹VsOK L› ‹_› ‹(freeN L a b 6)[0]? = some _› (by first | exact pos_back (And.right ‹_ ∧ GtFrom L a _›) hleL (And.left ‹_ ∧ GtFrom L a _›) ‹_› | exact pos_back' ‹VsOK L› (And.right ‹_ ∧ GtFrom L a _›) ‹L[k - 1]? = some _› hleL (And.left ‹_ ∧ GtFrom L a _›) ‹_›) ‹_›]; rfl)
theorem z_c_spec_SeatReader_488 (L : List Visit) (nL : Nat) (hbdL : (nL : Int) ≤ 9223372036854775807) (hleL : nL = L.length) (r : Int) (a : Int) (b : Int) (h5 : VsOK L) (hq16 : L.length ≤ 15) (h21 : (480 ≤ a ∧ a ≤ 1200) ∧ (480 ≤ b ∧ b ≤ 1200) ∧ a < b) (n35 : Nat) (hl40 : n35 = (freeN L a b 6).length) (hl41 : (n35 : Int) ≤ 9223372036854775807) (hq42 : (freeN L a b 6).length ≤ 6) (h43 : ¬ ((n35 : Int) = 0)) (k : Nat) (hi62 : k ≤ nL ∧ GtFrom L a k) (h63 : ¬ (0 < (k : Int))) (x281 : Int) (hx282 : (freeN L a b 6)[0]? = some x281) (h471 : VsOK (((L.take k) ++ ([(⟨r, x281, a, b⟩ : Visit)] : List Visit)) ++ (L.drop k))) : ((L.take k) ++ ([(⟨r, x281, a, b⟩ : Visit)] : List Visit)) ++ (L.drop k) = (seatR L r a b).elim [] (·.1) := by
  try simp only [Int.toNat_natCast] at *
  first | (rw [show seatR L r a b = none from by first | exact seat_no (fun h => absurd h.1 ‹_›) | exact seat_no (by omega) | exact seat_full ‹_› ‹_› | exact seat_bad ‹(freeN L a b 6)[0]? = some _› (by first | exact pos_back (And.right ‹_ ∧ GtFrom L a _›) hleL (And.left ‹_ ∧ GtFrom L a _›) ‹_› | exact pos_back' ‹VsOK L› (And.right ‹_ ∧ GtFrom L a _›) ‹L[k - 1]? = some _› hleL (And.left ‹_ ∧ GtFrom L a _›) ‹_›) ‹_›]; rfl) | (rw [seat_yes ‹VsOK L› ‹_› ‹(freeN L a b 6)[0]? = some _› (by first | exact pos_back (And.right ‹_ ∧ GtFrom L a _›) hleL (And.left ‹_ ∧ GtFrom L a _›) ‹_› | exact pos_back' ‹VsOK L› (And.right ‹_ ∧ GtFrom L a _›) ‹L[k - 1]? = some _› hleL (And.left ‹_ ∧ GtFrom L a _›) ‹_›) ‹_›]; rfl)
theorem z_c_spec_SeatReader_489 (L : List Visit) (nL : Nat) (hbdL : (nL : Int) ≤ 9223372036854775807) (hleL : nL = L.length) (r : Int) (a : Int) (b : Int) (h5 : VsOK L) (hq16 : L.length ≤ 15) (h21 : (480 ≤ a ∧ a ≤ 1200) ∧ (480 ≤ b ∧ b ≤ 1200) ∧ a < b) (n35 : Nat) (hl40 : n35 = (freeN L a b 6).length) (hl41 : (n35 : Int) ≤ 9223372036854775807) (hq42 : (freeN L a b 6).length ≤ 6) (h43 : ¬ ((n35 : Int) = 0)) (k : Nat) (hi62 : k ≤ nL ∧ GtFrom L a k) (h63 : ¬ (0 < (k : Int))) (x281 : Int) (hx282 : (freeN L a b 6)[0]? = some x281) (h471 : VsOK (((L.take k) ++ ([(⟨r, x281, a, b⟩ : Visit)] : List Visit)) ++ (L.drop k))) : x281 = (seatR L r a b).elim 0 (·.2) := by
  try simp only [Int.toNat_natCast] at *
  first | (rw [show seatR L r a b = none from by first | exact seat_no (fun h => absurd h.1 ‹_›) | exact seat_no (by omega) | exact seat_full ‹_› ‹_› | exact seat_bad ‹(freeN L a b 6)[0]? = some _› (by first | exact pos_back (And.right ‹_ ∧ GtFrom L a _›) hleL (And.left ‹_ ∧ GtFrom L a _›) ‹_› | exact pos_back' ‹VsOK L› (And.right ‹_ ∧ GtFrom L a _›) ‹L[k - 1]? = some _› hleL (And.left ‹_ ∧ GtFrom L a _›) ‹_›) ‹_›]; rfl) | (rw [seat_yes ‹VsOK L› ‹_› ‹(freeN L a b 6)[0]? = some _› (by first | exact pos_back (And.right ‹_ ∧ GtFrom L a _›) hleL (And.left ‹_ ∧ GtFrom L a _›) ‹_› | exact pos_back' ‹VsOK L› (And.right ‹_ ∧ GtFrom L a _›) ‹L[k - 1]? = some _› hleL (And.left ‹_ ∧ GtFrom L a _›) ‹_›) ‹_›]; rfl)
theorem z_c_spec_SeatReader_490 (L : List Visit) (nL : Nat) (hbdL : (nL : Int) ≤ 9223372036854775807) (hleL : nL = L.length) (r : Int) (a : Int) (b : Int) (h5 : VsOK L) (hq16 : L.length ≤ 15) (h21 : (480 ≤ a ∧ a ≤ 1200) ∧ (480 ≤ b ∧ b ≤ 1200) ∧ a < b) (n35 : Nat) (hl40 : n35 = (freeN L a b 6).length) (hl41 : (n35 : Int) ≤ 9223372036854775807) (hq42 : (freeN L a b 6).length ≤ 6) (h43 : ¬ ((n35 : Int) = 0)) (k : Nat) (hi62 : k ≤ nL ∧ GtFrom L a k) (h63 : ¬ (0 < (k : Int))) (x281 : Int) (hx282 : (freeN L a b 6)[0]? = some x281) (h471 : VsOK (((L.take k) ++ ([(⟨r, x281, a, b⟩ : Visit)] : List Visit)) ++ (L.drop k))) : true = (seatR L r a b).isSome := by
  try simp only [Int.toNat_natCast] at *
  first | (rw [show seatR L r a b = none from by first | exact seat_no (fun h => absurd h.1 ‹_›) | exact seat_no (by omega) | exact seat_full ‹_› ‹_› | exact seat_bad ‹(freeN L a b 6)[0]? = some _› (by first | exact pos_back (And.right ‹_ ∧ GtFrom L a _›) hleL (And.left ‹_ ∧ GtFrom L a _›) ‹_› | exact pos_back' ‹VsOK L› (And.right ‹_ ∧ GtFrom L a _›) ‹L[k - 1]? = some _› hleL (And.left ‹_ ∧ GtFrom L a _›) ‹_›) ‹_›]; rfl) | (rw [seat_yes ‹VsOK L› ‹_› ‹(freeN L a b 6)[0]? = some _› (by first | exact pos_back (And.right ‹_ ∧ GtFrom L a _›) hleL (And.left ‹_ ∧ GtFrom L a _›) ‹_› | exact pos_back' ‹VsOK L› (And.right ‹_ ∧ GtFrom L a _›) ‹L[k - 1]? = some _› hleL (And.left ‹_ ∧ GtFrom L a _›) ‹_›) ‹_›]; rfl)
theorem c_spec_SeatReader (w : World) {AL : Option Addr} {nL cL BL : Nat}  (L : List Visit) (hL : SlR w BL encVisit 4 AL nL cL L) (r : Int) (a : Int) (b : Int) : Calls Try.prog 18 #[.slice AL nL cL, .int .i64 r, .int .i64 a, .int .i64 b] w fun e w' => ∃ (A1' : Option Addr) (n1' c1' : Nat), e = .returned (.tuple (List.toArray [.slice A1' n1' c1', .int .i64 ((seatR L r a b).elim 0 (·.2)), .bool ((seatR L r a b).isSome)])) ∧ SlO w' w.heap.size encVisit 4 59 A1' n1' c1' ((seatR L r a b).elim [] (·.1)) ∧ Lo w w' := by
  refine calls_W 76 Try.func18 rfl rfl rfl ?_
  have hbdL := hL.bound
  have hleL := hL.len
  have hBbL := hL.bd
  refine W.seq ?_
  refine W.regS (SR.q' (r_as (v := .slice none 0 0) rfl) <| SR.q' (r_as (v := .int .i64 0) rfl) <| SR.q' (r_as (v := .bool false) rfl) <| SR.nil ?_)
  refine W.seq ?_
  refine W.seq ?_
  refine W.regS (SR.q' (r_mv (v := .slice _ _ _) rfl) <| SR.call ent42 (c_spec_l30Good w L ((hL))) rfl ?_)
  rintro e w1 ⟨rfl, hk2⟩
  refine ⟨_, rfl, ?_⟩
  have hz3 := hk2.size
  have hB4 := (Lo.refl w).lo hk2
  refine SR.q' (r_not rfl) <| SR.q' (r_mv (v := .bool _) rfl) <| SR.splitN (fun h5 => ?_) (fun h5 => ?_)
  · refine SR.s' rfl <| SR.s' rfl <| SR.s' rfl <| SR.s' rfl <| SR.q' (r_pick true rfl (v := .bool true) rfl) <| SR.nil ?_
    refine W.cond_t rfl ?_
    refine W.seq ?_
    refine W.regS (SR.lit (vs := []) (L := ([] : List Visit)) (enc := encVisit) tel24 (fun _ => rfl) rfl rfl rfl (by decide) ?_)
    intro g6 w7 hg8 hk9 hO10
    have hz11 := hk9.size
    have hB12 := hB4.lo hk9
    refine SR.q' (r_as (v := .slice _ _ _) rfl) <| SR.q' (r_as (v := .int .i64 0) rfl) <| SR.q' (r_as (v := .bool false) rfl) <| SR.nil ?_
    refine W.ret ?_
    refine ret3 rfl (v := .slice _ _ _) (v' := .int .i64 _) (v'' := .bool _) rfl rfl rfl ?_
    exact ⟨(some (⟨g6, 0, none⟩ : Addr)), 0, 0, eR (eT3 rfl (eI (z_c_spec_SeatReader_14 L nL hbdL hleL r a b h5)) (eB (z_c_spec_SeatReader_15 L nL hbdL hleL r a b h5))), (SlO.eqv ((hO10).down (by omega)) (z_c_spec_SeatReader_13 L nL hbdL hleL r a b h5)), hB12⟩
  · have hq16 := vs_len h5
    refine SR.g' rfl (r_mv (v := .int .i64 _) rfl) <| SR.g' rfl (r_mv (v := .int .i64 _) rfl) <| SR.gcall rfl ent50 (c_spec_l30Time w1 a b) rfl ?_
    rintro e w17 ⟨rfl, hk18⟩
    refine ⟨_, rfl, ?_⟩
    have hz19 := hk18.size
    have hB20 := hB4.lo hk18
    refine SR.g' rfl (r_not rfl) <| SR.q' (r_pick false rfl (v := .bool _) rfl) <| SR.nil ?_
    refine W.cond_n rfl (fun h21 => ?_) (fun h21 => ?_)
    · refine W.seq ?_
      refine W.regS (SR.lit (vs := []) (L := ([] : List Visit)) (enc := encVisit) tel24 (fun _ => rfl) rfl rfl rfl (by decide) ?_)
      intro g22 w23 hg24 hk25 hO26
      have hz27 := hk25.size
      have hB28 := hB20.lo hk25
      refine SR.q' (r_as (v := .slice _ _ _) rfl) <| SR.q' (r_as (v := .int .i64 0) rfl) <| SR.q' (r_as (v := .bool false) rfl) <| SR.nil ?_
      refine W.ret ?_
      refine ret3 rfl (v := .slice _ _ _) (v' := .int .i64 _) (v'' := .bool _) rfl rfl rfl ?_
      exact ⟨(some (⟨g22, 0, none⟩ : Addr)), 0, 0, eR (eT3 rfl (eI (z_c_spec_SeatReader_30 L nL hbdL hleL r a b h5 hq16 h21)) (eB (z_c_spec_SeatReader_31 L nL hbdL hleL r a b h5 hq16 h21))), (SlO.eqv ((hO26).down (by omega)) (z_c_spec_SeatReader_29 L nL hbdL hleL r a b h5 hq16 h21)), hB28⟩
    · refine W.skip ?_
      refine W.seq ?_
      refine W.regS (SR.q' (r_mv (v := .slice _ _ _) rfl) <| SR.q' (r_mv (v := .int .i64 _) rfl) <| SR.q' (r_mv (v := .int .i64 _) rfl) <| SR.call ent51 (c_spec_l30Free w17 L ((((hL).lo hk2).lo hk18)) a b) rfl ?_)
      rintro e w32 ⟨A34, n35, c36, rfl, hO37, hk33⟩
      refine ⟨_, rfl, ?_⟩
      have hz38 := hk33.size
      have hB39 := hB20.lo hk33
      have hl40 := hO37.len
      have hl41 := hO37.rd.bound
      have hq42 := free_len L a b 6
      refine SR.q' (r_as (v := .slice _ _ _) rfl) <| SR.nil ?_
      refine W.seq ?_
      refine W.seq ?_
      refine W.regS (SR.q' (r_mv (v := .slice _ _ _) rfl) <| SR.q' (r_len und39 rfl) <| SR.q' (r_eq rfl rfl) <| SR.nil ?_)
      refine W.cond_d rfl (fun h43 => ?_) (fun h43 => ?_)
      · refine W.seq ?_
        refine W.regS (SR.lit (vs := []) (L := ([] : List Visit)) (enc := encVisit) tel24 (fun _ => rfl) rfl rfl rfl (by decide) ?_)
        intro g44 w45 hg46 hk47 hO48
        have hz49 := hk47.size
        have hB50 := hB39.lo hk47
        have hd51 : ¬ A34 = some ⟨g44, 0, none⟩ := fun e' => by have := (hO37).base_le e'; omega
        refine SR.q' (r_as (v := .slice _ _ _) rfl) <| SR.q' (r_as (v := .int .i64 0) rfl) <| SR.q' (r_as (v := .bool false) rfl) <| SR.nil ?_
        refine W.ret ?_
        refine ret3 rfl (v := .slice _ _ _) (v' := .int .i64 _) (v'' := .bool _) rfl rfl rfl ?_
        exact ⟨(some (⟨g44, 0, none⟩ : Addr)), 0, 0, eR (eT3 rfl (eI (z_c_spec_SeatReader_53 L nL hbdL hleL r a b h5 hq16 h21 n35 hl40 hl41 hq42 h43)) (eB (z_c_spec_SeatReader_54 L nL hbdL hleL r a b h5 hq16 h21 n35 hl40 hl41 hq42 h43))), (SlO.eqv ((hO48).down (by omega)) (z_c_spec_SeatReader_52 L nL hbdL hleL r a b h5 hq16 h21 n35 hl40 hl41 hq42 h43)), hB50⟩
      · refine W.skip ?_
        refine W.seq ?_
        refine W.regS (SR.q' (r_mv (v := .slice _ _ _) rfl) <| SR.q' (r_len und24 rfl) <| SR.q' (r_as (v := .int .i64 _) rfl) <| SR.nil ?_)
        refine W.seq ?_
        refine W.block ?_
        refine W.loop (σ := Nat) (fun g => [(0, .slice AL nL cL), (1, .int .i64 r), (2, .int .i64 a), (3, .int .i64 b), (8, .slice none 0 0), (9, .int .i64 0), (10, .bool false), (11, .slice A34 n35 c36), (12, .int .i64 (g : Int))]) (fun g w' => (Lo w w') ∧ (SlR w' BL encVisit 4 AL nL cL L) ∧ (SlO w' w17.heap.size encI 1 3 A34 n35 c36 (freeN L a b 6)) ∧ (g ≤ nL ∧ GtFrom L a g)) (fun g => g) nL ?_ ?_ ?_
        · exact ⟨rfl, rfl, rfl, rfl, rfl, rfl, rfl, rfl, rfl, trivial⟩
        · exact ⟨hB39, (((hL).lo hk2).lo hk18).lo hk33, hO37, (z_c_spec_SeatReader_55 L nL hbdL hleL r a b h5 hq16 h21 n35 hl40 hl41 hq42 h43)⟩
        · rintro k f56 w57 hP59
          obtain ⟨hB58, hm60, hm61, hi62⟩ : (Lo w w57) ∧ (SlR w57 BL encVisit 4 AL nL cL L) ∧ (SlO w57 w17.heap.size encI 1 3 A34 n35 c36 (freeN L a b 6)) ∧ (k ≤ nL ∧ GtFrom L a k) := hP59
          refine (?_ : W _ _ _ _ _ (act _ (sets f56 [(0, .slice AL nL cL), (1, .int .i64 r), (2, .int .i64 a), (3, .int .i64 b), (8, .slice none 0 0), (9, .int .i64 0), (10, .bool false), (11, .slice A34 n35 c36), (12, .int .i64 (k : Int))])) _)
          have hzw57 := hB58.size
          refine W.seq ?_
          refine W.seq ?_
          refine W.regS (SR.q' (r_mv (v := .int .i64 _) rfl) <| SR.q' (r_gt rfl rfl) <| SR.q' (r_mv (v := .bool _) rfl) <| SR.splitD (fun h63 => ?_) (fun h63 => ?_))
          · refine SR.g' rfl (r_mv (v := .slice _ _ _) rfl) <| SR.g' rfl (r_mv (v := .int .i64 _) rfl) <| SR.g' rfl (r_sub rfl rfl (by omega)) <| ?_
            obtain ⟨x64, hx65⟩ := (hm60).get (i := ((k : Int) - 1).toNat) (by omega)
            have hx66 : L[k - 1]? = some x64 := (show ((k : Int) - 1).toNat = k - 1 from by omega) ▸ hx65
            have hq67 := vs_rng h5 hx66
            refine SR.g' rfl (r_ixR tsl24 (hm60) rfl rfl (by omega)) <| SR.g' rfl (r_fa fa59_2 rfl) <| SR.g' rfl (r_ld (v := .int .i64 x64.From) sca3 rfl ((hm60).cell hx65 rfl)) <| SR.g' rfl (r_mv (v := .int .i64 _) rfl) <| SR.g' rfl (r_gt rfl rfl) <| SR.q' (r_pick true rfl (v := .bool _) rfl) <| SR.nil ?_
            refine W.cond_d rfl (fun h68 => ?_) (fun h68 => ?_)
            · refine W.skip ?_
              refine W.block ?_
              refine W.regS (SR.q' (r_mv (v := .int .i64 _) rfl) <| SR.q' (r_sub rfl rfl (by omega)) <| SR.q' (r_as (v := .int .i64 _) rfl) <| SR.nil ?_)
              refine ⟨k - 1, _, rfl, ⟨rfl, rfl, rfl, rfl, rfl, rfl, rfl, rfl, (eI (by first | omega | (dsimp only; omega))), trivial⟩, ⟨hB58, hm60, hm61, ?_⟩, ?_⟩
              · exact (z_c_spec_SeatReader_69 L nL hbdL hleL r a b h5 hq16 h21 n35 hl40 hl41 hq42 h43 k hi62 h63 x64 hx66 hq67 h68)
              · exact (z_c_spec_SeatReader_70 L nL hbdL hleL r a b h5 hq16 h21 n35 hl40 hl41 hq42 h43 k hi62 h63 x64 hx66 hq67 h68)
            · refine W.exit (xin_here ?_)
              refine W.seq ?_
              refine W.regS (SR.q' (r_mv (v := .int .i64 _) rfl) <| SR.q' (r_mv (v := .slice _ _ _) rfl) <| ?_)
              obtain ⟨x71, hx72⟩ := ((hm61).rd).get (i := 0) (by omega)
              refine SR.q' (r_ixR tsl39 ((hm61).rd) rfl rfl (by omega)) <| SR.q' (r_ld (v := .int .i64 x71) sca3 rfl (((hm61).rd).cell0 hx72 rfl)) <| SR.q' (r_mv (v := .int .i64 _) rfl) <| SR.q' (r_mv (v := .int .i64 _) rfl) <| SR.q' (r_build (vs := [(0, .int .i64 r), (1, .int .i64 x71), (2, .int .i64 a), (3, .int .i64 b)]) rfl (bld59_0_1_2_3 _ _ _ _)) <| SR.alloc (l := [.int .i64 0, .int .i64 0, .int .i64 0, .int .i64 0]) tz59 rfl ?_
              intro g73 w74 hg75 hk76 hs77 hb78
              have hz79 := hk76.size
              have hB80 := hB58.lo hk76
              have hd81 : ¬ A34 = some ⟨g73, 0, none⟩ := fun e' => by have := (hm61).base_le e'; omega
              refine SR.store (o := 0) (vs := [.int .i64 r, .int .i64 x71, .int .i64 a, .int .i64 b]) agg59.2 rfl rfl rfl rfl (hb78) (Nat.le_of_ble_eq_true rfl) rfl ?_
              intro w82 hk83 hs84 hb85
              have hz86 := hk83.size
              have hB87 := hB80.new hk83 (by omega)
              refine SR.nil ?_
              refine W.seq ?_
              refine W.regA (Lo w82) (fun f' w' => ∃ (g92 : Nat), ∃ (A134 : Option Addr), ∃ (c135 : Nat), ∃ (A101 : Option Addr), ∃ (c102 : Nat), ∃ (g112 : Nat), ∃ (A122 : Option Addr), ∃ (c123 : Nat), At f' [(8, .slice none 0 0), (9, .int .i64 0), (10, .bool false), (11, .slice A34 n35 c36), (14, .slice A134 (((0 + k) + 1) + (nL - k)) c135)] ∧ (Lo w82 w') ∧ (SlO w' w82.heap.size encVisit 4 59 A134 (((0 + k) + 1) + (nL - k)) c135 (((L.take k) ++ ([(⟨r, x71, a, b⟩ : Visit)] : List Visit)) ++ (L.drop k))) ∧ (∀ b_, A134 = some ⟨b_, 0, none⟩ → ¬ A34 = some ⟨b_, 0, none⟩)) mo ?_ ?_
              · intro w88 hk89
                have hz90 := hk89.size
                have hB91 := hB87.lo hk89
                refine AH.take 1 rfl (by kernel_rfl) trivial (hk89) (fun w' hw' => r_mv (v := .slice _ _ _) rfl) <| AH.take 2 rfl (by kernel_rfl) trivial (hk89) (fun w' hw' => r_mv (v := .int .i64 _) rfl) <| AH.take 3 rfl (by kernel_rfl) trivial (hk89) (fun w' hw' => r_cuth (h := k) tsl24 rfl rfl rfl (Nat.le_trans (by omega : k ≤ nL) (((hm60).lo hk76).kp hk83 (fun b_ hb e' => by have e'' : b_ = g73 := e'; omega)).cap)) <| AH.take 5 rfl (by kernel_rfl) trivial (hk89) (fun w' hw' => r_lda (l := [.int .i64 r, .int .i64 x71, .int .i64 a, .int .i64 b]) agg59 rfl (fun _ _ hu => ((hb85).lo hw').cell hu) rfl) <| AH.take 8 rfl (by kernel_rfl) trivial (hk89) (fun w' hw' => r_mv (v := .slice _ _ _) rfl) <| AH.take 9 rfl (by kernel_rfl) trivial (hk89) (fun w' hw' => r_mv (v := .int .i64 _) rfl) <| AH.take 10 rfl (by kernel_rfl) trivial (hk89) (fun w' hw' => r_cutl (l := k) tsl24 rfl rfl rfl (by omega)) <| AH.br [0, 6] (by kernel_rfl) rfl ⟨Br.mk' rfl trivial ?_, Br.mk' rfl trivial ?_, trivial⟩
                · refine SR.lit (vs := []) (L := ([] : List Visit)) (enc := encVisit) tel24 (fun _ => rfl) rfl rfl rfl (by decide) ?_
                  intro g92 w93 hg94 hk95 hO96
                  have hz97 := hk95.size
                  have hB98 := hB91.lo hk95
                  have hS99 := (hk89).lo hk95
                  have hd100 : ¬ A34 = some ⟨g92, 0, none⟩ := fun e' => by have := ((((hm61).lo hk76).kp hk83 (fun b_ hb e' => hd81 (by have e'' : b_ = g73 := e'; rw [← e'']; exact hb))).lo hk89).base_le e'; omega
                  refine SR.nil ⟨hS99, _, rfl, ?_⟩
                  refine AH.br [4, 6] (by kernel_rfl) rfl ⟨Br.mk' rfl trivial ?_, Br.mk' rfl trivial ?_, trivial⟩
                  · refine SR.app tel24 rfl rfl (hO96) ((((((hm60).lo hk76).kp hk83 (fun b_ hb e' => by have e'' : b_ = g73 := e'; omega)).head (h := k) (by omega)).lo hk89).lo hk95) (fun _ => rfl) (by omega) (by omega) ?_
                    intro A101 c102 w103 hk104 hO105 hN106
                    have hz107 := hk104.size
                    have hB108 := hB98.step hk104 (fun i_ hi_ e' => by have := ((hO96)).base_le e'; first | omega | (exfalso; omega) | exact e' | exact .inl e' | exact .inr e')
                    have hS109 := (hS99).step hk104 (fun i_ hi_ e' => by have := ((hO96)).base_le e'; exfalso; omega)
                    rw [List.nil_append] at hO105
                    have hd111 : ¬ A101 = some ⟨g73, 0, none⟩ := fun e' => (hN106 g73 e').elim (fun h => by have := (hO96).base_le (h.trans e'); omega) (fun h => by have := (((hb85).lo hk89).lo hk95).lt; omega)
                    refine SR.nil ⟨hS109, _, rfl, ?_⟩
                    refine AH.br [6] (by kernel_rfl) rfl ⟨Br.mk' rfl trivial ?_, trivial⟩
                    refine SR.lit (vs := [.agg (List.toArray [.int .i64 r, .int .i64 x71, .int .i64 a, .int .i64 b])]) (L := ([(⟨r, x71, a, b⟩ : Visit)] : List Visit)) (enc := encVisit) tel24 (fun _ => rfl) rfl rfl rfl (by decide) ?_
                    intro g112 w113 hg114 hk115 hO116
                    have hz117 := hk115.size
                    have hB118 := hB108.lo hk115
                    have hS119 := (hS109).lo hk115
                    have hd120 : ¬ A34 = some ⟨g112, 0, none⟩ := fun e' => by have := ((((((hm61).lo hk76).kp hk83 (fun b_ hb e' => hd81 (by have e'' : b_ = g73 := e'; rw [← e'']; exact hb))).lo hk89).lo hk95).kp hk104 (fun b_ hb e' => by have h1 := ((hO96)).base_le e'; have h2 := (((((hm61).lo hk76).kp hk83 (fun b_ hb e' => hd81 (by have e'' : b_ = g73 := e'; rw [← e'']; exact hb))).lo hk89).lo hk95).base_le hb; have h3 := ((((hm61).lo hk76).kp hk83 (fun b_ hb e' => hd81 (by have e'' : b_ = g73 := e'; rw [← e'']; exact hb))).lo hk89).base_le hb; omega)).base_le e'; omega
                    have hd121 : ¬ A101 = some ⟨g112, 0, none⟩ := fun e' => by have := (hO105).base_le e'; omega
                    refine SR.nil ⟨hS119, _, rfl, ?_⟩
                    refine AH.br [7] (by kernel_rfl) rfl ⟨Br.mk' rfl trivial ?_, trivial⟩
                    refine SR.app tel24 rfl rfl ((hO105).lo hk115) ((hO116).rd) (fun _ => rfl) (by omega) (by omega) ?_
                    intro A122 c123 w124 hk125 hO126 hN127
                    have hz128 := hk125.size
                    have hB129 := hB118.step hk125 (fun i_ hi_ e' => by have := (((hO105).lo hk115)).base_le e'; first | omega | (exfalso; omega) | exact e' | exact .inl e' | exact .inr e')
                    have hS130 := (hS119).step hk125 (fun i_ hi_ e' => by have := (((hO105).lo hk115)).base_le e'; exfalso; omega)
                    have hd132 : ¬ A122 = some ⟨g73, 0, none⟩ := fun e' => (hN127 g73 e').elim (fun h => hd111 (h.trans e')) (fun h => by have := (((((hb85).lo hk89).lo hk95).kp hk104 (fun e' => by have := ((hO96)).base_le e'; omega)).lo hk115).lt; omega)
                    refine SR.nil ⟨hS130, _, rfl, ?_⟩
                    refine AH.br [11] (by kernel_rfl) rfl ⟨Br.mk' rfl trivial ?_, trivial⟩
                    refine SR.app tel24 rfl rfl (hO126) (((((((((hm60).lo hk76).kp hk83 (fun b_ hb e' => by have e'' : b_ = g73 := e'; omega)).cutl (l := k) (by omega)).lo hk89).lo hk95).kp hk104 (fun b_ hb e' => by have := ((hO96)).base_le e'; omega)).lo hk115).kp hk125 (fun b_ hb e' => by have := (((hO105).lo hk115)).base_le e'; omega)) (fun _ => rfl) (by omega) (by omega) ?_
                    intro A134 c135 w136 hk137 hO138 hN139
                    have hz140 := hk137.size
                    have hB141 := hB129.step hk137 (fun i_ hi_ e' => by have := ((hO126)).base_le e'; first | omega | (exfalso; omega) | exact e' | exact .inl e' | exact .inr e')
                    have hS142 := (hS130).step hk137 (fun i_ hi_ e' => by have := ((hO126)).base_le e'; exfalso; omega)
                    have hd144 : ¬ A134 = some ⟨g73, 0, none⟩ := fun e' => (hN139 g73 e').elim (fun h => hd132 (h.trans e')) (fun h => by have := ((((((hb85).lo hk89).lo hk95).kp hk104 (fun e' => by have := ((hO96)).base_le e'; omega)).lo hk115).kp hk125 (fun e' => hd111 e')).lt; omega)
                    refine SR.nil ⟨hS142, _, rfl, ?_⟩
                    refine AH.take 12 rfl (by kernel_rfl) trivial (hS142) (fun w' hw' => r_as (v := .slice _ _ _) rfl) <| AH.done (by kernel_rfl) ?_
                    exact ⟨g92, A134, c135, A101, c102, g112, A122, c123, ⟨rfl, rfl, rfl, rfl, rfl, trivial⟩, hS142, ((hO138).down (by omega)), (fun b_ h h' => by have h1 := (hO138).base_le h; have h2 := ((((hm61).lo hk76).kp hk83 (fun b_ hb e' => hd81 (by have e'' : b_ = g73 := e'; rw [← e'']; exact hb))).lo hk89).base_le h'; omega)⟩
                  · refine SR.lit (vs := [.agg (List.toArray [.int .i64 r, .int .i64 x71, .int .i64 a, .int .i64 b])]) (L := ([(⟨r, x71, a, b⟩ : Visit)] : List Visit)) (enc := encVisit) tel24 (fun _ => rfl) rfl rfl rfl (by decide) ?_
                    intro g148 w149 hg150 hk151 hO152
                    have hz153 := hk151.size
                    have hB154 := hB98.lo hk151
                    have hS155 := (hS99).lo hk151
                    have hd156 : ¬ A34 = some ⟨g148, 0, none⟩ := fun e' => by have := (((((hm61).lo hk76).kp hk83 (fun b_ hb e' => hd81 (by have e'' : b_ = g73 := e'; rw [← e'']; exact hb))).lo hk89).lo hk95).base_le e'; omega
                    have hd157 : ¬ (some (⟨g92, 0, none⟩ : Addr)) = some ⟨g148, 0, none⟩ := fun e' => by have := (hO96).base_le e'; omega
                    refine SR.nil ⟨hS155, _, rfl, ?_⟩
                    refine AH.br [4] (by kernel_rfl) rfl ⟨Br.mk' rfl trivial ?_, trivial⟩
                    refine SR.app tel24 rfl rfl ((hO96).lo hk151) (((((((hm60).lo hk76).kp hk83 (fun b_ hb e' => by have e'' : b_ = g73 := e'; omega)).head (h := k) (by omega)).lo hk89).lo hk95).lo hk151) (fun _ => rfl) (by omega) (by omega) ?_
                    intro A158 c159 w160 hk161 hO162 hN163
                    have hz164 := hk161.size
                    have hB165 := hB154.step hk161 (fun i_ hi_ e' => by have := (((hO96).lo hk151)).base_le e'; first | omega | (exfalso; omega) | exact e' | exact .inl e' | exact .inr e')
                    have hS166 := (hS155).step hk161 (fun i_ hi_ e' => by have := (((hO96).lo hk151)).base_le e'; exfalso; omega)
                    rw [List.nil_append] at hO162
                    have hd168 : ¬ A158 = some ⟨g73, 0, none⟩ := fun e' => (hN163 g73 e').elim (fun h => by have := ((hO96).lo hk151).base_le (h.trans e'); omega) (fun h => by have := ((((hb85).lo hk89).lo hk95).lo hk151).lt; omega)
                    refine SR.nil ⟨hS166, _, rfl, ?_⟩
                    refine AH.br [7] (by kernel_rfl) rfl ⟨Br.mk' rfl trivial ?_, trivial⟩
                    refine SR.app tel24 rfl rfl (hO162) (((hO152).kp hk161 (fun b_ hb e' => hd157 (hb ▸ e'))).rd) (fun _ => rfl) (by omega) (by omega) ?_
                    intro A170 c171 w172 hk173 hO174 hN175
                    have hz176 := hk173.size
                    have hB177 := hB165.step hk173 (fun i_ hi_ e' => by have := ((hO162)).base_le e'; first | omega | (exfalso; omega) | exact e' | exact .inl e' | exact .inr e')
                    have hS178 := (hS166).step hk173 (fun i_ hi_ e' => by have := ((hO162)).base_le e'; exfalso; omega)
                    have hd180 : ¬ A170 = some ⟨g73, 0, none⟩ := fun e' => (hN175 g73 e').elim (fun h => hd168 (h.trans e')) (fun h => by have := (((((hb85).lo hk89).lo hk95).lo hk151).kp hk161 (fun e' => by have := (((hO96).lo hk151)).base_le e'; omega)).lt; omega)
                    refine SR.nil ⟨hS178, _, rfl, ?_⟩
                    refine AH.br [11] (by kernel_rfl) rfl ⟨Br.mk' rfl trivial ?_, trivial⟩
                    refine SR.app tel24 rfl rfl (hO174) (((((((((hm60).lo hk76).kp hk83 (fun b_ hb e' => by have e'' : b_ = g73 := e'; omega)).cutl (l := k) (by omega)).lo hk89).lo hk95).lo hk151).kp hk161 (fun b_ hb e' => by have := (((hO96).lo hk151)).base_le e'; omega)).kp hk173 (fun b_ hb e' => by have := ((hO162)).base_le e'; omega)) (fun _ => rfl) (by omega) (by omega) ?_
                    intro A182 c183 w184 hk185 hO186 hN187
                    have hz188 := hk185.size
                    have hB189 := hB177.step hk185 (fun i_ hi_ e' => by have := ((hO174)).base_le e'; first | omega | (exfalso; omega) | exact e' | exact .inl e' | exact .inr e')
                    have hS190 := (hS178).step hk185 (fun i_ hi_ e' => by have := ((hO174)).base_le e'; exfalso; omega)
                    have hd192 : ¬ A182 = some ⟨g73, 0, none⟩ := fun e' => (hN187 g73 e').elim (fun h => hd180 (h.trans e')) (fun h => by have := ((((((hb85).lo hk89).lo hk95).lo hk151).kp hk161 (fun e' => by have := (((hO96).lo hk151)).base_le e'; omega)).kp hk173 (fun e' => hd168 e')).lt; omega)
                    refine SR.nil ⟨hS190, _, rfl, ?_⟩
                    refine AH.take 12 rfl (by kernel_rfl) trivial (hS190) (fun w' hw' => r_as (v := .slice _ _ _) rfl) <| AH.done (by kernel_rfl) ?_
                    exact ⟨g92, A182, c183, A158, c159, g148, A170, c171, ⟨rfl, rfl, rfl, rfl, rfl, trivial⟩, hS190, ((hO186).down (by omega)), (fun b_ h h' => by have h1 := (hO186).base_le h; have h2 := ((((hm61).lo hk76).kp hk83 (fun b_ hb e' => hd81 (by have e'' : b_ = g73 := e'; rw [← e'']; exact hb))).lo hk89).base_le h'; omega)⟩
                · refine SR.lit (vs := [.agg (List.toArray [.int .i64 r, .int .i64 x71, .int .i64 a, .int .i64 b])]) (L := ([(⟨r, x71, a, b⟩ : Visit)] : List Visit)) (enc := encVisit) tel24 (fun _ => rfl) rfl rfl rfl (by decide) ?_
                  intro g195 w196 hg197 hk198 hO199
                  have hz200 := hk198.size
                  have hB201 := hB91.lo hk198
                  have hS202 := (hk89).lo hk198
                  have hd203 : ¬ A34 = some ⟨g195, 0, none⟩ := fun e' => by have := ((((hm61).lo hk76).kp hk83 (fun b_ hb e' => hd81 (by have e'' : b_ = g73 := e'; rw [← e'']; exact hb))).lo hk89).base_le e'; omega
                  refine SR.nil ⟨hS202, _, rfl, ?_⟩
                  refine AH.br [0] (by kernel_rfl) rfl ⟨Br.mk' rfl trivial ?_, trivial⟩
                  refine SR.lit (vs := []) (L := ([] : List Visit)) (enc := encVisit) tel24 (fun _ => rfl) rfl rfl rfl (by decide) ?_
                  intro g204 w205 hg206 hk207 hO208
                  have hz209 := hk207.size
                  have hB210 := hB201.lo hk207
                  have hS211 := (hS202).lo hk207
                  have hd212 : ¬ A34 = some ⟨g204, 0, none⟩ := fun e' => by have := (((((hm61).lo hk76).kp hk83 (fun b_ hb e' => hd81 (by have e'' : b_ = g73 := e'; rw [← e'']; exact hb))).lo hk89).lo hk198).base_le e'; omega
                  have hd213 : ¬ (some (⟨g195, 0, none⟩ : Addr)) = some ⟨g204, 0, none⟩ := fun e' => by have := (hO199).base_le e'; omega
                  refine SR.nil ⟨hS211, _, rfl, ?_⟩
                  refine AH.br [4] (by kernel_rfl) rfl ⟨Br.mk' rfl trivial ?_, trivial⟩
                  refine SR.app tel24 rfl rfl (hO208) (((((((hm60).lo hk76).kp hk83 (fun b_ hb e' => by have e'' : b_ = g73 := e'; omega)).head (h := k) (by omega)).lo hk89).lo hk198).lo hk207) (fun _ => rfl) (by omega) (by omega) ?_
                  intro A214 c215 w216 hk217 hO218 hN219
                  have hz220 := hk217.size
                  have hB221 := hB210.step hk217 (fun i_ hi_ e' => by have := ((hO208)).base_le e'; first | omega | (exfalso; omega) | exact e' | exact .inl e' | exact .inr e')
                  have hS222 := (hS211).step hk217 (fun i_ hi_ e' => by have := ((hO208)).base_le e'; exfalso; omega)
                  rw [List.nil_append] at hO218
                  have hd224 : ¬ A214 = some ⟨g73, 0, none⟩ := fun e' => (hN219 g73 e').elim (fun h => by have := (hO208).base_le (h.trans e'); omega) (fun h => by have := ((((hb85).lo hk89).lo hk198).lo hk207).lt; omega)
                  refine SR.nil ⟨hS222, _, rfl, ?_⟩
                  refine AH.br [7] (by kernel_rfl) rfl ⟨Br.mk' rfl trivial ?_, trivial⟩
                  refine SR.app tel24 rfl rfl (hO218) ((((hO199).lo hk207).kp hk217 (fun b_ hb e' => by have h1 := ((hO208)).base_le e'; have h2 := ((hO199).lo hk207).base_le hb; have h3 := (hO199).base_le hb; omega)).rd) (fun _ => rfl) (by omega) (by omega) ?_
                  intro A226 c227 w228 hk229 hO230 hN231
                  have hz232 := hk229.size
                  have hB233 := hB221.step hk229 (fun i_ hi_ e' => by have := ((hO218)).base_le e'; first | omega | (exfalso; omega) | exact e' | exact .inl e' | exact .inr e')
                  have hS234 := (hS222).step hk229 (fun i_ hi_ e' => by have := ((hO218)).base_le e'; exfalso; omega)
                  have hd236 : ¬ A226 = some ⟨g73, 0, none⟩ := fun e' => (hN231 g73 e').elim (fun h => hd224 (h.trans e')) (fun h => by have := (((((hb85).lo hk89).lo hk198).lo hk207).kp hk217 (fun e' => by have := ((hO208)).base_le e'; omega)).lt; omega)
                  refine SR.nil ⟨hS234, _, rfl, ?_⟩
                  refine AH.br [11] (by kernel_rfl) rfl ⟨Br.mk' rfl trivial ?_, trivial⟩
                  refine SR.app tel24 rfl rfl (hO230) (((((((((hm60).lo hk76).kp hk83 (fun b_ hb e' => by have e'' : b_ = g73 := e'; omega)).cutl (l := k) (by omega)).lo hk89).lo hk198).lo hk207).kp hk217 (fun b_ hb e' => by have := ((hO208)).base_le e'; omega)).kp hk229 (fun b_ hb e' => by have := ((hO218)).base_le e'; omega)) (fun _ => rfl) (by omega) (by omega) ?_
                  intro A238 c239 w240 hk241 hO242 hN243
                  have hz244 := hk241.size
                  have hB245 := hB233.step hk241 (fun i_ hi_ e' => by have := ((hO230)).base_le e'; first | omega | (exfalso; omega) | exact e' | exact .inl e' | exact .inr e')
                  have hS246 := (hS234).step hk241 (fun i_ hi_ e' => by have := ((hO230)).base_le e'; exfalso; omega)
                  have hd248 : ¬ A238 = some ⟨g73, 0, none⟩ := fun e' => (hN243 g73 e').elim (fun h => hd236 (h.trans e')) (fun h => by have := ((((((hb85).lo hk89).lo hk198).lo hk207).kp hk217 (fun e' => by have := ((hO208)).base_le e'; omega)).kp hk229 (fun e' => hd224 e')).lt; omega)
                  refine SR.nil ⟨hS246, _, rfl, ?_⟩
                  refine AH.take 12 rfl (by kernel_rfl) trivial (hS246) (fun w' hw' => r_as (v := .slice _ _ _) rfl) <| AH.done (by kernel_rfl) ?_
                  exact ⟨g204, A238, c239, A214, c215, g195, A226, c227, ⟨rfl, rfl, rfl, rfl, rfl, trivial⟩, hS246, ((hO242).down (by omega)), (fun b_ h h' => by have h1 := (hO242).base_le h; have h2 := (((((hm61).lo hk76).kp hk83 (fun b_ hb e' => hd81 (by have e'' : b_ = g73 := e'; rw [← e'']; exact hb))).lo hk89).lo hk198).base_le h'; omega)⟩
              rintro f251 w252 ⟨g92, A134, c135, A101, c102, g112, A122, c123, hat254, hR253, hm146, hd147⟩
              rw [← sets_of_at hat254]
              have hz255 := hR253.size
              have hB256 := hB87.lo hR253
              refine W.seq ?_
              refine W.seq ?_
              refine W.regS (SR.q' (r_mv (v := .slice _ _ _) rfl) <| SR.call ent42 (c_spec_l30Good w252 (((L.take k) ++ ([(⟨r, x71, a, b⟩ : Visit)] : List Visit)) ++ (L.drop k)) (((hm146).rd))) rfl ?_)
              rintro e w257 ⟨rfl, hk258⟩
              refine ⟨_, rfl, ?_⟩
              have hz259 := hk258.size
              have hB260 := hB256.lo hk258
              refine SR.q' (r_not rfl) <| SR.nil ?_
              refine W.cond_n rfl (fun h261 => ?_) (fun h261 => ?_)
              · refine W.seq ?_
                refine W.regS (SR.lit (vs := []) (L := ([] : List Visit)) (enc := encVisit) tel24 (fun _ => rfl) rfl rfl rfl (by decide) ?_)
                intro g262 w263 hg264 hk265 hO266
                have hz267 := hk265.size
                have hB268 := hB260.lo hk265
                have hd269 : ¬ A34 = some ⟨g262, 0, none⟩ := fun e' => by have := (((((hm61).lo hk76).kp hk83 (fun b_ hb e' => hd81 (by have e'' : b_ = g73 := e'; rw [← e'']; exact hb))).lo hR253).lo hk258).base_le e'; omega
                have hd270 : ¬ A134 = some ⟨g262, 0, none⟩ := fun e' => by have := ((hm146).lo hk258).base_le e'; omega
                refine SR.q' (r_as (v := .slice _ _ _) rfl) <| SR.q' (r_as (v := .int .i64 0) rfl) <| SR.q' (r_as (v := .bool false) rfl) <| SR.nil ?_
                refine W.ret ?_
                refine ret3 rfl (v := .slice _ _ _) (v' := .int .i64 _) (v'' := .bool _) rfl rfl rfl ?_
                exact ⟨(some (⟨g262, 0, none⟩ : Addr)), 0, 0, eR (eT3 rfl (eI (z_c_spec_SeatReader_272 L nL hbdL hleL r a b h5 hq16 h21 n35 hl40 hl41 hq42 h43 k hi62 h63 x64 hx66 hq67 h68 x71 hx72 h261)) (eB (z_c_spec_SeatReader_273 L nL hbdL hleL r a b h5 hq16 h21 n35 hl40 hl41 hq42 h43 k hi62 h63 x64 hx66 hq67 h68 x71 hx72 h261))), (SlO.eqv ((hO266).down (by omega)) (z_c_spec_SeatReader_271 L nL hbdL hleL r a b h5 hq16 h21 n35 hl40 hl41 hq42 h43 k hi62 h63 x64 hx66 hq67 h68 x71 hx72 h261)), hB268⟩
              · refine W.skip ?_
                refine W.seq ?_
                refine W.regD mo (by kernel_rfl) (QR.q' (fun w' hw' => r_mv (v := .slice _ _ _) rfl) <| QR.q' (fun w' hw' => r_mv (v := .slice _ _ _) rfl) <| QR.q' (fun w' hw' => r_ixR tsl39 (((((((hm61).lo hk76).kp hk83 (fun b_ hb e' => hd81 (by have e'' : b_ = g73 := e'; rw [← e'']; exact hb))).lo hR253).lo hk258).lo hw').rd) rfl rfl (by omega)) <| QR.q' (fun w' hw' => r_ld (v := .int .i64 x71) sca3 rfl ((((((((hm61).lo hk76).kp hk83 (fun b_ hb e' => hd81 (by have e'' : b_ = g73 := e'; rw [← e'']; exact hb))).lo hR253).lo hk258).lo hw').rd).cell0 hx72 rfl)) <| QR.q' (fun w' hw' => r_as (v := .slice _ _ _) rfl) <| QR.q' (fun w' hw' => r_as (v := .int .i64 _) rfl) <| QR.q' (fun w' hw' => r_as (v := .bool true) rfl) <| QR.nil ?_)
                intro w274 hk275
                have hz276 := hk275.size
                have hB277 := hB260.lo hk275
                refine W.ret ?_
                refine ret3 rfl (v := .slice _ _ _) (v' := .int .i64 _) (v'' := .bool _) rfl rfl rfl ?_
                exact ⟨A134, ((0 + k) + 1) + (nL - k), c135, eR (eT3 rfl (eI (z_c_spec_SeatReader_279 L nL hbdL hleL r a b h5 hq16 h21 n35 hl40 hl41 hq42 h43 k hi62 h63 x64 hx66 hq67 h68 x71 hx72 h261)) (eB (z_c_spec_SeatReader_280 L nL hbdL hleL r a b h5 hq16 h21 n35 hl40 hl41 hq42 h43 k hi62 h63 x64 hx66 hq67 h68 x71 hx72 h261))), (SlO.eqv ((((hm146).lo hk258).lo hk275).down (by omega)) (z_c_spec_SeatReader_278 L nL hbdL hleL r a b h5 hq16 h21 n35 hl40 hl41 hq42 h43 k hi62 h63 x64 hx66 hq67 h68 x71 hx72 h261)), hB277⟩
          · refine SR.s' rfl <| SR.s' rfl <| SR.s' rfl <| SR.s' rfl <| SR.s' rfl <| SR.s' rfl <| SR.s' rfl <| SR.s' rfl <| SR.q' (r_pick false rfl (v := .bool false) rfl) <| SR.nil ?_
            refine W.cond_f rfl ?_
            refine W.exit (xin_here ?_)
            refine W.seq ?_
            refine W.regS (SR.q' (r_mv (v := .int .i64 _) rfl) <| SR.q' (r_mv (v := .slice _ _ _) rfl) <| ?_)
            obtain ⟨x281, hx282⟩ := ((hm61).rd).get (i := 0) (by omega)
            refine SR.q' (r_ixR tsl39 ((hm61).rd) rfl rfl (by omega)) <| SR.q' (r_ld (v := .int .i64 x281) sca3 rfl (((hm61).rd).cell0 hx282 rfl)) <| SR.q' (r_mv (v := .int .i64 _) rfl) <| SR.q' (r_mv (v := .int .i64 _) rfl) <| SR.q' (r_build (vs := [(0, .int .i64 r), (1, .int .i64 x281), (2, .int .i64 a), (3, .int .i64 b)]) rfl (bld59_0_1_2_3 _ _ _ _)) <| SR.alloc (l := [.int .i64 0, .int .i64 0, .int .i64 0, .int .i64 0]) tz59 rfl ?_
            intro g283 w284 hg285 hk286 hs287 hb288
            have hz289 := hk286.size
            have hB290 := hB58.lo hk286
            have hd291 : ¬ A34 = some ⟨g283, 0, none⟩ := fun e' => by have := (hm61).base_le e'; omega
            refine SR.store (o := 0) (vs := [.int .i64 r, .int .i64 x281, .int .i64 a, .int .i64 b]) agg59.2 rfl rfl rfl rfl (hb288) (Nat.le_of_ble_eq_true rfl) rfl ?_
            intro w292 hk293 hs294 hb295
            have hz296 := hk293.size
            have hB297 := hB290.new hk293 (by omega)
            refine SR.nil ?_
            refine W.seq ?_
            refine W.regA (Lo w292) (fun f' w' => ∃ (g302 : Nat), ∃ (A344 : Option Addr), ∃ (c345 : Nat), ∃ (A311 : Option Addr), ∃ (c312 : Nat), ∃ (g322 : Nat), ∃ (A332 : Option Addr), ∃ (c333 : Nat), At f' [(8, .slice none 0 0), (9, .int .i64 0), (10, .bool false), (11, .slice A34 n35 c36), (14, .slice A344 (((0 + k) + 1) + (nL - k)) c345)] ∧ (Lo w292 w') ∧ (SlO w' w292.heap.size encVisit 4 59 A344 (((0 + k) + 1) + (nL - k)) c345 (((L.take k) ++ ([(⟨r, x281, a, b⟩ : Visit)] : List Visit)) ++ (L.drop k))) ∧ (∀ b_, A344 = some ⟨b_, 0, none⟩ → ¬ A34 = some ⟨b_, 0, none⟩)) mo ?_ ?_
            · intro w298 hk299
              have hz300 := hk299.size
              have hB301 := hB297.lo hk299
              refine AH.take 1 rfl (by kernel_rfl) trivial (hk299) (fun w' hw' => r_mv (v := .slice _ _ _) rfl) <| AH.take 2 rfl (by kernel_rfl) trivial (hk299) (fun w' hw' => r_mv (v := .int .i64 _) rfl) <| AH.take 3 rfl (by kernel_rfl) trivial (hk299) (fun w' hw' => r_cuth (h := k) tsl24 rfl rfl rfl (Nat.le_trans (by omega : k ≤ nL) (((hm60).lo hk286).kp hk293 (fun b_ hb e' => by have e'' : b_ = g283 := e'; omega)).cap)) <| AH.take 5 rfl (by kernel_rfl) trivial (hk299) (fun w' hw' => r_lda (l := [.int .i64 r, .int .i64 x281, .int .i64 a, .int .i64 b]) agg59 rfl (fun _ _ hu => ((hb295).lo hw').cell hu) rfl) <| AH.take 8 rfl (by kernel_rfl) trivial (hk299) (fun w' hw' => r_mv (v := .slice _ _ _) rfl) <| AH.take 9 rfl (by kernel_rfl) trivial (hk299) (fun w' hw' => r_mv (v := .int .i64 _) rfl) <| AH.take 10 rfl (by kernel_rfl) trivial (hk299) (fun w' hw' => r_cutl (l := k) tsl24 rfl rfl rfl (by omega)) <| AH.br [0, 6] (by kernel_rfl) rfl ⟨Br.mk' rfl trivial ?_, Br.mk' rfl trivial ?_, trivial⟩
              · refine SR.lit (vs := []) (L := ([] : List Visit)) (enc := encVisit) tel24 (fun _ => rfl) rfl rfl rfl (by decide) ?_
                intro g302 w303 hg304 hk305 hO306
                have hz307 := hk305.size
                have hB308 := hB301.lo hk305
                have hS309 := (hk299).lo hk305
                have hd310 : ¬ A34 = some ⟨g302, 0, none⟩ := fun e' => by have := ((((hm61).lo hk286).kp hk293 (fun b_ hb e' => hd291 (by have e'' : b_ = g283 := e'; rw [← e'']; exact hb))).lo hk299).base_le e'; omega
                refine SR.nil ⟨hS309, _, rfl, ?_⟩
                refine AH.br [4, 6] (by kernel_rfl) rfl ⟨Br.mk' rfl trivial ?_, Br.mk' rfl trivial ?_, trivial⟩
                · refine SR.app tel24 rfl rfl (hO306) ((((((hm60).lo hk286).kp hk293 (fun b_ hb e' => by have e'' : b_ = g283 := e'; omega)).head (h := k) (by omega)).lo hk299).lo hk305) (fun _ => rfl) (by omega) (by omega) ?_
                  intro A311 c312 w313 hk314 hO315 hN316
                  have hz317 := hk314.size
                  have hB318 := hB308.step hk314 (fun i_ hi_ e' => by have := ((hO306)).base_le e'; first | omega | (exfalso; omega) | exact e' | exact .inl e' | exact .inr e')
                  have hS319 := (hS309).step hk314 (fun i_ hi_ e' => by have := ((hO306)).base_le e'; exfalso; omega)
                  rw [List.nil_append] at hO315
                  have hd321 : ¬ A311 = some ⟨g283, 0, none⟩ := fun e' => (hN316 g283 e').elim (fun h => by have := (hO306).base_le (h.trans e'); omega) (fun h => by have := (((hb295).lo hk299).lo hk305).lt; omega)
                  refine SR.nil ⟨hS319, _, rfl, ?_⟩
                  refine AH.br [6] (by kernel_rfl) rfl ⟨Br.mk' rfl trivial ?_, trivial⟩
                  refine SR.lit (vs := [.agg (List.toArray [.int .i64 r, .int .i64 x281, .int .i64 a, .int .i64 b])]) (L := ([(⟨r, x281, a, b⟩ : Visit)] : List Visit)) (enc := encVisit) tel24 (fun _ => rfl) rfl rfl rfl (by decide) ?_
                  intro g322 w323 hg324 hk325 hO326
                  have hz327 := hk325.size
                  have hB328 := hB318.lo hk325
                  have hS329 := (hS319).lo hk325
                  have hd330 : ¬ A34 = some ⟨g322, 0, none⟩ := fun e' => by have := ((((((hm61).lo hk286).kp hk293 (fun b_ hb e' => hd291 (by have e'' : b_ = g283 := e'; rw [← e'']; exact hb))).lo hk299).lo hk305).kp hk314 (fun b_ hb e' => by have h1 := ((hO306)).base_le e'; have h2 := (((((hm61).lo hk286).kp hk293 (fun b_ hb e' => hd291 (by have e'' : b_ = g283 := e'; rw [← e'']; exact hb))).lo hk299).lo hk305).base_le hb; have h3 := ((((hm61).lo hk286).kp hk293 (fun b_ hb e' => hd291 (by have e'' : b_ = g283 := e'; rw [← e'']; exact hb))).lo hk299).base_le hb; omega)).base_le e'; omega
                  have hd331 : ¬ A311 = some ⟨g322, 0, none⟩ := fun e' => by have := (hO315).base_le e'; omega
                  refine SR.nil ⟨hS329, _, rfl, ?_⟩
                  refine AH.br [7] (by kernel_rfl) rfl ⟨Br.mk' rfl trivial ?_, trivial⟩
                  refine SR.app tel24 rfl rfl ((hO315).lo hk325) ((hO326).rd) (fun _ => rfl) (by omega) (by omega) ?_
                  intro A332 c333 w334 hk335 hO336 hN337
                  have hz338 := hk335.size
                  have hB339 := hB328.step hk335 (fun i_ hi_ e' => by have := (((hO315).lo hk325)).base_le e'; first | omega | (exfalso; omega) | exact e' | exact .inl e' | exact .inr e')
                  have hS340 := (hS329).step hk335 (fun i_ hi_ e' => by have := (((hO315).lo hk325)).base_le e'; exfalso; omega)
                  have hd342 : ¬ A332 = some ⟨g283, 0, none⟩ := fun e' => (hN337 g283 e').elim (fun h => hd321 (h.trans e')) (fun h => by have := (((((hb295).lo hk299).lo hk305).kp hk314 (fun e' => by have := ((hO306)).base_le e'; omega)).lo hk325).lt; omega)
                  refine SR.nil ⟨hS340, _, rfl, ?_⟩
                  refine AH.br [11] (by kernel_rfl) rfl ⟨Br.mk' rfl trivial ?_, trivial⟩
                  refine SR.app tel24 rfl rfl (hO336) (((((((((hm60).lo hk286).kp hk293 (fun b_ hb e' => by have e'' : b_ = g283 := e'; omega)).cutl (l := k) (by omega)).lo hk299).lo hk305).kp hk314 (fun b_ hb e' => by have := ((hO306)).base_le e'; omega)).lo hk325).kp hk335 (fun b_ hb e' => by have := (((hO315).lo hk325)).base_le e'; omega)) (fun _ => rfl) (by omega) (by omega) ?_
                  intro A344 c345 w346 hk347 hO348 hN349
                  have hz350 := hk347.size
                  have hB351 := hB339.step hk347 (fun i_ hi_ e' => by have := ((hO336)).base_le e'; first | omega | (exfalso; omega) | exact e' | exact .inl e' | exact .inr e')
                  have hS352 := (hS340).step hk347 (fun i_ hi_ e' => by have := ((hO336)).base_le e'; exfalso; omega)
                  have hd354 : ¬ A344 = some ⟨g283, 0, none⟩ := fun e' => (hN349 g283 e').elim (fun h => hd342 (h.trans e')) (fun h => by have := ((((((hb295).lo hk299).lo hk305).kp hk314 (fun e' => by have := ((hO306)).base_le e'; omega)).lo hk325).kp hk335 (fun e' => hd321 e')).lt; omega)
                  refine SR.nil ⟨hS352, _, rfl, ?_⟩
                  refine AH.take 12 rfl (by kernel_rfl) trivial (hS352) (fun w' hw' => r_as (v := .slice _ _ _) rfl) <| AH.done (by kernel_rfl) ?_
                  exact ⟨g302, A344, c345, A311, c312, g322, A332, c333, ⟨rfl, rfl, rfl, rfl, rfl, trivial⟩, hS352, ((hO348).down (by omega)), (fun b_ h h' => by have h1 := (hO348).base_le h; have h2 := ((((hm61).lo hk286).kp hk293 (fun b_ hb e' => hd291 (by have e'' : b_ = g283 := e'; rw [← e'']; exact hb))).lo hk299).base_le h'; omega)⟩
                · refine SR.lit (vs := [.agg (List.toArray [.int .i64 r, .int .i64 x281, .int .i64 a, .int .i64 b])]) (L := ([(⟨r, x281, a, b⟩ : Visit)] : List Visit)) (enc := encVisit) tel24 (fun _ => rfl) rfl rfl rfl (by decide) ?_
                  intro g358 w359 hg360 hk361 hO362
                  have hz363 := hk361.size
                  have hB364 := hB308.lo hk361
                  have hS365 := (hS309).lo hk361
                  have hd366 : ¬ A34 = some ⟨g358, 0, none⟩ := fun e' => by have := (((((hm61).lo hk286).kp hk293 (fun b_ hb e' => hd291 (by have e'' : b_ = g283 := e'; rw [← e'']; exact hb))).lo hk299).lo hk305).base_le e'; omega
                  have hd367 : ¬ (some (⟨g302, 0, none⟩ : Addr)) = some ⟨g358, 0, none⟩ := fun e' => by have := (hO306).base_le e'; omega
                  refine SR.nil ⟨hS365, _, rfl, ?_⟩
                  refine AH.br [4] (by kernel_rfl) rfl ⟨Br.mk' rfl trivial ?_, trivial⟩
                  refine SR.app tel24 rfl rfl ((hO306).lo hk361) (((((((hm60).lo hk286).kp hk293 (fun b_ hb e' => by have e'' : b_ = g283 := e'; omega)).head (h := k) (by omega)).lo hk299).lo hk305).lo hk361) (fun _ => rfl) (by omega) (by omega) ?_
                  intro A368 c369 w370 hk371 hO372 hN373
                  have hz374 := hk371.size
                  have hB375 := hB364.step hk371 (fun i_ hi_ e' => by have := (((hO306).lo hk361)).base_le e'; first | omega | (exfalso; omega) | exact e' | exact .inl e' | exact .inr e')
                  have hS376 := (hS365).step hk371 (fun i_ hi_ e' => by have := (((hO306).lo hk361)).base_le e'; exfalso; omega)
                  rw [List.nil_append] at hO372
                  have hd378 : ¬ A368 = some ⟨g283, 0, none⟩ := fun e' => (hN373 g283 e').elim (fun h => by have := ((hO306).lo hk361).base_le (h.trans e'); omega) (fun h => by have := ((((hb295).lo hk299).lo hk305).lo hk361).lt; omega)
                  refine SR.nil ⟨hS376, _, rfl, ?_⟩
                  refine AH.br [7] (by kernel_rfl) rfl ⟨Br.mk' rfl trivial ?_, trivial⟩
                  refine SR.app tel24 rfl rfl (hO372) (((hO362).kp hk371 (fun b_ hb e' => hd367 (hb ▸ e'))).rd) (fun _ => rfl) (by omega) (by omega) ?_
                  intro A380 c381 w382 hk383 hO384 hN385
                  have hz386 := hk383.size
                  have hB387 := hB375.step hk383 (fun i_ hi_ e' => by have := ((hO372)).base_le e'; first | omega | (exfalso; omega) | exact e' | exact .inl e' | exact .inr e')
                  have hS388 := (hS376).step hk383 (fun i_ hi_ e' => by have := ((hO372)).base_le e'; exfalso; omega)
                  have hd390 : ¬ A380 = some ⟨g283, 0, none⟩ := fun e' => (hN385 g283 e').elim (fun h => hd378 (h.trans e')) (fun h => by have := (((((hb295).lo hk299).lo hk305).lo hk361).kp hk371 (fun e' => by have := (((hO306).lo hk361)).base_le e'; omega)).lt; omega)
                  refine SR.nil ⟨hS388, _, rfl, ?_⟩
                  refine AH.br [11] (by kernel_rfl) rfl ⟨Br.mk' rfl trivial ?_, trivial⟩
                  refine SR.app tel24 rfl rfl (hO384) (((((((((hm60).lo hk286).kp hk293 (fun b_ hb e' => by have e'' : b_ = g283 := e'; omega)).cutl (l := k) (by omega)).lo hk299).lo hk305).lo hk361).kp hk371 (fun b_ hb e' => by have := (((hO306).lo hk361)).base_le e'; omega)).kp hk383 (fun b_ hb e' => by have := ((hO372)).base_le e'; omega)) (fun _ => rfl) (by omega) (by omega) ?_
                  intro A392 c393 w394 hk395 hO396 hN397
                  have hz398 := hk395.size
                  have hB399 := hB387.step hk395 (fun i_ hi_ e' => by have := ((hO384)).base_le e'; first | omega | (exfalso; omega) | exact e' | exact .inl e' | exact .inr e')
                  have hS400 := (hS388).step hk395 (fun i_ hi_ e' => by have := ((hO384)).base_le e'; exfalso; omega)
                  have hd402 : ¬ A392 = some ⟨g283, 0, none⟩ := fun e' => (hN397 g283 e').elim (fun h => hd390 (h.trans e')) (fun h => by have := ((((((hb295).lo hk299).lo hk305).lo hk361).kp hk371 (fun e' => by have := (((hO306).lo hk361)).base_le e'; omega)).kp hk383 (fun e' => hd378 e')).lt; omega)
                  refine SR.nil ⟨hS400, _, rfl, ?_⟩
                  refine AH.take 12 rfl (by kernel_rfl) trivial (hS400) (fun w' hw' => r_as (v := .slice _ _ _) rfl) <| AH.done (by kernel_rfl) ?_
                  exact ⟨g302, A392, c393, A368, c369, g358, A380, c381, ⟨rfl, rfl, rfl, rfl, rfl, trivial⟩, hS400, ((hO396).down (by omega)), (fun b_ h h' => by have h1 := (hO396).base_le h; have h2 := ((((hm61).lo hk286).kp hk293 (fun b_ hb e' => hd291 (by have e'' : b_ = g283 := e'; rw [← e'']; exact hb))).lo hk299).base_le h'; omega)⟩
              · refine SR.lit (vs := [.agg (List.toArray [.int .i64 r, .int .i64 x281, .int .i64 a, .int .i64 b])]) (L := ([(⟨r, x281, a, b⟩ : Visit)] : List Visit)) (enc := encVisit) tel24 (fun _ => rfl) rfl rfl rfl (by decide) ?_
                intro g405 w406 hg407 hk408 hO409
                have hz410 := hk408.size
                have hB411 := hB301.lo hk408
                have hS412 := (hk299).lo hk408
                have hd413 : ¬ A34 = some ⟨g405, 0, none⟩ := fun e' => by have := ((((hm61).lo hk286).kp hk293 (fun b_ hb e' => hd291 (by have e'' : b_ = g283 := e'; rw [← e'']; exact hb))).lo hk299).base_le e'; omega
                refine SR.nil ⟨hS412, _, rfl, ?_⟩
                refine AH.br [0] (by kernel_rfl) rfl ⟨Br.mk' rfl trivial ?_, trivial⟩
                refine SR.lit (vs := []) (L := ([] : List Visit)) (enc := encVisit) tel24 (fun _ => rfl) rfl rfl rfl (by decide) ?_
                intro g414 w415 hg416 hk417 hO418
                have hz419 := hk417.size
                have hB420 := hB411.lo hk417
                have hS421 := (hS412).lo hk417
                have hd422 : ¬ A34 = some ⟨g414, 0, none⟩ := fun e' => by have := (((((hm61).lo hk286).kp hk293 (fun b_ hb e' => hd291 (by have e'' : b_ = g283 := e'; rw [← e'']; exact hb))).lo hk299).lo hk408).base_le e'; omega
                have hd423 : ¬ (some (⟨g405, 0, none⟩ : Addr)) = some ⟨g414, 0, none⟩ := fun e' => by have := (hO409).base_le e'; omega
                refine SR.nil ⟨hS421, _, rfl, ?_⟩
                refine AH.br [4] (by kernel_rfl) rfl ⟨Br.mk' rfl trivial ?_, trivial⟩
                refine SR.app tel24 rfl rfl (hO418) (((((((hm60).lo hk286).kp hk293 (fun b_ hb e' => by have e'' : b_ = g283 := e'; omega)).head (h := k) (by omega)).lo hk299).lo hk408).lo hk417) (fun _ => rfl) (by omega) (by omega) ?_
                intro A424 c425 w426 hk427 hO428 hN429
                have hz430 := hk427.size
                have hB431 := hB420.step hk427 (fun i_ hi_ e' => by have := ((hO418)).base_le e'; first | omega | (exfalso; omega) | exact e' | exact .inl e' | exact .inr e')
                have hS432 := (hS421).step hk427 (fun i_ hi_ e' => by have := ((hO418)).base_le e'; exfalso; omega)
                rw [List.nil_append] at hO428
                have hd434 : ¬ A424 = some ⟨g283, 0, none⟩ := fun e' => (hN429 g283 e').elim (fun h => by have := (hO418).base_le (h.trans e'); omega) (fun h => by have := ((((hb295).lo hk299).lo hk408).lo hk417).lt; omega)
                refine SR.nil ⟨hS432, _, rfl, ?_⟩
                refine AH.br [7] (by kernel_rfl) rfl ⟨Br.mk' rfl trivial ?_, trivial⟩
                refine SR.app tel24 rfl rfl (hO428) ((((hO409).lo hk417).kp hk427 (fun b_ hb e' => by have h1 := ((hO418)).base_le e'; have h2 := ((hO409).lo hk417).base_le hb; have h3 := (hO409).base_le hb; omega)).rd) (fun _ => rfl) (by omega) (by omega) ?_
                intro A436 c437 w438 hk439 hO440 hN441
                have hz442 := hk439.size
                have hB443 := hB431.step hk439 (fun i_ hi_ e' => by have := ((hO428)).base_le e'; first | omega | (exfalso; omega) | exact e' | exact .inl e' | exact .inr e')
                have hS444 := (hS432).step hk439 (fun i_ hi_ e' => by have := ((hO428)).base_le e'; exfalso; omega)
                have hd446 : ¬ A436 = some ⟨g283, 0, none⟩ := fun e' => (hN441 g283 e').elim (fun h => hd434 (h.trans e')) (fun h => by have := (((((hb295).lo hk299).lo hk408).lo hk417).kp hk427 (fun e' => by have := ((hO418)).base_le e'; omega)).lt; omega)
                refine SR.nil ⟨hS444, _, rfl, ?_⟩
                refine AH.br [11] (by kernel_rfl) rfl ⟨Br.mk' rfl trivial ?_, trivial⟩
                refine SR.app tel24 rfl rfl (hO440) (((((((((hm60).lo hk286).kp hk293 (fun b_ hb e' => by have e'' : b_ = g283 := e'; omega)).cutl (l := k) (by omega)).lo hk299).lo hk408).lo hk417).kp hk427 (fun b_ hb e' => by have := ((hO418)).base_le e'; omega)).kp hk439 (fun b_ hb e' => by have := ((hO428)).base_le e'; omega)) (fun _ => rfl) (by omega) (by omega) ?_
                intro A448 c449 w450 hk451 hO452 hN453
                have hz454 := hk451.size
                have hB455 := hB443.step hk451 (fun i_ hi_ e' => by have := ((hO440)).base_le e'; first | omega | (exfalso; omega) | exact e' | exact .inl e' | exact .inr e')
                have hS456 := (hS444).step hk451 (fun i_ hi_ e' => by have := ((hO440)).base_le e'; exfalso; omega)
                have hd458 : ¬ A448 = some ⟨g283, 0, none⟩ := fun e' => (hN453 g283 e').elim (fun h => hd446 (h.trans e')) (fun h => by have := ((((((hb295).lo hk299).lo hk408).lo hk417).kp hk427 (fun e' => by have := ((hO418)).base_le e'; omega)).kp hk439 (fun e' => hd434 e')).lt; omega)
                refine SR.nil ⟨hS456, _, rfl, ?_⟩
                refine AH.take 12 rfl (by kernel_rfl) trivial (hS456) (fun w' hw' => r_as (v := .slice _ _ _) rfl) <| AH.done (by kernel_rfl) ?_
                exact ⟨g414, A448, c449, A424, c425, g405, A436, c437, ⟨rfl, rfl, rfl, rfl, rfl, trivial⟩, hS456, ((hO452).down (by omega)), (fun b_ h h' => by have h1 := (hO452).base_le h; have h2 := (((((hm61).lo hk286).kp hk293 (fun b_ hb e' => hd291 (by have e'' : b_ = g283 := e'; rw [← e'']; exact hb))).lo hk299).lo hk408).base_le h'; omega)⟩
            rintro f461 w462 ⟨g302, A344, c345, A311, c312, g322, A332, c333, hat464, hR463, hm356, hd357⟩
            rw [← sets_of_at hat464]
            have hz465 := hR463.size
            have hB466 := hB297.lo hR463
            refine W.seq ?_
            refine W.seq ?_
            refine W.regS (SR.q' (r_mv (v := .slice _ _ _) rfl) <| SR.call ent42 (c_spec_l30Good w462 (((L.take k) ++ ([(⟨r, x281, a, b⟩ : Visit)] : List Visit)) ++ (L.drop k)) (((hm356).rd))) rfl ?_)
            rintro e w467 ⟨rfl, hk468⟩
            refine ⟨_, rfl, ?_⟩
            have hz469 := hk468.size
            have hB470 := hB466.lo hk468
            refine SR.q' (r_not rfl) <| SR.nil ?_
            refine W.cond_n rfl (fun h471 => ?_) (fun h471 => ?_)
            · refine W.seq ?_
              refine W.regS (SR.lit (vs := []) (L := ([] : List Visit)) (enc := encVisit) tel24 (fun _ => rfl) rfl rfl rfl (by decide) ?_)
              intro g472 w473 hg474 hk475 hO476
              have hz477 := hk475.size
              have hB478 := hB470.lo hk475
              have hd479 : ¬ A34 = some ⟨g472, 0, none⟩ := fun e' => by have := (((((hm61).lo hk286).kp hk293 (fun b_ hb e' => hd291 (by have e'' : b_ = g283 := e'; rw [← e'']; exact hb))).lo hR463).lo hk468).base_le e'; omega
              have hd480 : ¬ A344 = some ⟨g472, 0, none⟩ := fun e' => by have := ((hm356).lo hk468).base_le e'; omega
              refine SR.q' (r_as (v := .slice _ _ _) rfl) <| SR.q' (r_as (v := .int .i64 0) rfl) <| SR.q' (r_as (v := .bool false) rfl) <| SR.nil ?_
              refine W.ret ?_
              refine ret3 rfl (v := .slice _ _ _) (v' := .int .i64 _) (v'' := .bool _) rfl rfl rfl ?_
              exact ⟨(some (⟨g472, 0, none⟩ : Addr)), 0, 0, eR (eT3 rfl (eI (z_c_spec_SeatReader_482 L nL hbdL hleL r a b h5 hq16 h21 n35 hl40 hl41 hq42 h43 k hi62 h63 x281 hx282 h471)) (eB (z_c_spec_SeatReader_483 L nL hbdL hleL r a b h5 hq16 h21 n35 hl40 hl41 hq42 h43 k hi62 h63 x281 hx282 h471))), (SlO.eqv ((hO476).down (by omega)) (z_c_spec_SeatReader_481 L nL hbdL hleL r a b h5 hq16 h21 n35 hl40 hl41 hq42 h43 k hi62 h63 x281 hx282 h471)), hB478⟩
            · refine W.skip ?_
              refine W.seq ?_
              refine W.regD mo (by kernel_rfl) (QR.q' (fun w' hw' => r_mv (v := .slice _ _ _) rfl) <| QR.q' (fun w' hw' => r_mv (v := .slice _ _ _) rfl) <| QR.q' (fun w' hw' => r_ixR tsl39 (((((((hm61).lo hk286).kp hk293 (fun b_ hb e' => hd291 (by have e'' : b_ = g283 := e'; rw [← e'']; exact hb))).lo hR463).lo hk468).lo hw').rd) rfl rfl (by omega)) <| QR.q' (fun w' hw' => r_ld (v := .int .i64 x281) sca3 rfl ((((((((hm61).lo hk286).kp hk293 (fun b_ hb e' => hd291 (by have e'' : b_ = g283 := e'; rw [← e'']; exact hb))).lo hR463).lo hk468).lo hw').rd).cell0 hx282 rfl)) <| QR.q' (fun w' hw' => r_as (v := .slice _ _ _) rfl) <| QR.q' (fun w' hw' => r_as (v := .int .i64 _) rfl) <| QR.q' (fun w' hw' => r_as (v := .bool true) rfl) <| QR.nil ?_)
              intro w484 hk485
              have hz486 := hk485.size
              have hB487 := hB470.lo hk485
              refine W.ret ?_
              refine ret3 rfl (v := .slice _ _ _) (v' := .int .i64 _) (v'' := .bool _) rfl rfl rfl ?_
              exact ⟨A344, ((0 + k) + 1) + (nL - k), c345, eR (eT3 rfl (eI (z_c_spec_SeatReader_489 L nL hbdL hleL r a b h5 hq16 h21 n35 hl40 hl41 hq42 h43 k hi62 h63 x281 hx282 h471)) (eB (z_c_spec_SeatReader_490 L nL hbdL hleL r a b h5 hq16 h21 n35 hl40 hl41 hq42 h43 k hi62 h63 x281 hx282 h471))), (SlO.eqv ((((hm356).lo hk468).lo hk485).down (by omega)) (z_c_spec_SeatReader_488 L nL hbdL hleL r a b h5 hq16 h21 n35 hl40 hl41 hq42 h43 k hi62 h63 x281 hx282 h471)), hB487⟩

theorem z_c_impl_SeatReader_6 (L : List Visit) (nL : Nat) (hbdL : (nL : Int) ≤ 9223372036854775807) (hleL : nL = L.length) (r : Int) (a : Int) (b : Int) (h5 : ¬ (VsOK L)) : ([] : List Visit) = (seatR L r a b).elim [] (·.1) := by
  try simp only [Int.toNat_natCast] at *
  first | (rw [show seatR L r a b = none from by first | exact seat_no (fun h => absurd h.1 ‹_›) | exact seat_no (by omega) | exact seat_full ‹_› ‹_› | exact seat_bad ‹(freeN L a b 6)[0]? = some _› (by first | exact pos_front (And.right ‹_ ∧ LeTo L a _›) hleL (And.left ‹_ ∧ LeTo L a _›) ‹_› | exact pos_front' ‹VsOK L› (And.right ‹_ ∧ LeTo L a _›) ‹L[k]? = some _› ‹_›) ‹_›]; rfl) | (rw [seat_yes ‹VsOK L› ‹_› ‹(freeN L a b 6)[0]? = some _› (by first | exact pos_front (And.right ‹_ ∧ LeTo L a _›) hleL (And.left ‹_ ∧ LeTo L a _›) ‹_› | exact pos_front' ‹VsOK L› (And.right ‹_ ∧ LeTo L a _›) ‹L[k]? = some _› ‹_›) ‹_›]; rfl)
theorem z_c_impl_SeatReader_7 (L : List Visit) (nL : Nat) (hbdL : (nL : Int) ≤ 9223372036854775807) (hleL : nL = L.length) (r : Int) (a : Int) (b : Int) (h5 : ¬ (VsOK L)) : 0 = (seatR L r a b).elim 0 (·.2) := by
  try simp only [Int.toNat_natCast] at *
  first | (rw [show seatR L r a b = none from by first | exact seat_no (fun h => absurd h.1 ‹_›) | exact seat_no (by omega) | exact seat_full ‹_› ‹_› | exact seat_bad ‹(freeN L a b 6)[0]? = some _› (by first | exact pos_front (And.right ‹_ ∧ LeTo L a _›) hleL (And.left ‹_ ∧ LeTo L a _›) ‹_› | exact pos_front' ‹VsOK L› (And.right ‹_ ∧ LeTo L a _›) ‹L[k]? = some _› ‹_›) ‹_›]; rfl) | (rw [seat_yes ‹VsOK L› ‹_› ‹(freeN L a b 6)[0]? = some _› (by first | exact pos_front (And.right ‹_ ∧ LeTo L a _›) hleL (And.left ‹_ ∧ LeTo L a _›) ‹_› | exact pos_front' ‹VsOK L› (And.right ‹_ ∧ LeTo L a _›) ‹L[k]? = some _› ‹_›) ‹_›]; rfl)
theorem z_c_impl_SeatReader_8 (L : List Visit) (nL : Nat) (hbdL : (nL : Int) ≤ 9223372036854775807) (hleL : nL = L.length) (r : Int) (a : Int) (b : Int) (h5 : ¬ (VsOK L)) : false = (seatR L r a b).isSome := by
  try simp only [Int.toNat_natCast] at *
  first | (rw [show seatR L r a b = none from by first | exact seat_no (fun h => absurd h.1 ‹_›) | exact seat_no (by omega) | exact seat_full ‹_› ‹_› | exact seat_bad ‹(freeN L a b 6)[0]? = some _› (by first | exact pos_front (And.right ‹_ ∧ LeTo L a _›) hleL (And.left ‹_ ∧ LeTo L a _›) ‹_› | exact pos_front' ‹VsOK L› (And.right ‹_ ∧ LeTo L a _›) ‹L[k]? = some _› ‹_›) ‹_›]; rfl) | (rw [seat_yes ‹VsOK L› ‹_› ‹(freeN L a b 6)[0]? = some _› (by first | exact pos_front (And.right ‹_ ∧ LeTo L a _›) hleL (And.left ‹_ ∧ LeTo L a _›) ‹_› | exact pos_front' ‹VsOK L› (And.right ‹_ ∧ LeTo L a _›) ‹L[k]? = some _› ‹_›) ‹_›]; rfl)
theorem z_c_impl_SeatReader_15 (L : List Visit) (nL : Nat) (hbdL : (nL : Int) ≤ 9223372036854775807) (hleL : nL = L.length) (r : Int) (a : Int) (b : Int) (h5 : VsOK L) (hq9 : L.length ≤ 15) (h14 : ¬ ((480 ≤ a ∧ a ≤ 1200) ∧ (480 ≤ b ∧ b ≤ 1200) ∧ a < b)) : ([] : List Visit) = (seatR L r a b).elim [] (·.1) := by
  try simp only [Int.toNat_natCast] at *
  first | (rw [show seatR L r a b = none from by first | exact seat_no (fun h => absurd h.1 ‹_›) | exact seat_no (by omega) | exact seat_full ‹_› ‹_› | exact seat_bad ‹(freeN L a b 6)[0]? = some _› (by first | exact pos_front (And.right ‹_ ∧ LeTo L a _›) hleL (And.left ‹_ ∧ LeTo L a _›) ‹_› | exact pos_front' ‹VsOK L› (And.right ‹_ ∧ LeTo L a _›) ‹L[k]? = some _› ‹_›) ‹_›]; rfl) | (rw [seat_yes ‹VsOK L› ‹_› ‹(freeN L a b 6)[0]? = some _› (by first | exact pos_front (And.right ‹_ ∧ LeTo L a _›) hleL (And.left ‹_ ∧ LeTo L a _›) ‹_› | exact pos_front' ‹VsOK L› (And.right ‹_ ∧ LeTo L a _›) ‹L[k]? = some _› ‹_›) ‹_›]; rfl)
theorem z_c_impl_SeatReader_16 (L : List Visit) (nL : Nat) (hbdL : (nL : Int) ≤ 9223372036854775807) (hleL : nL = L.length) (r : Int) (a : Int) (b : Int) (h5 : VsOK L) (hq9 : L.length ≤ 15) (h14 : ¬ ((480 ≤ a ∧ a ≤ 1200) ∧ (480 ≤ b ∧ b ≤ 1200) ∧ a < b)) : 0 = (seatR L r a b).elim 0 (·.2) := by
  try simp only [Int.toNat_natCast] at *
  first | (rw [show seatR L r a b = none from by first | exact seat_no (fun h => absurd h.1 ‹_›) | exact seat_no (by omega) | exact seat_full ‹_› ‹_› | exact seat_bad ‹(freeN L a b 6)[0]? = some _› (by first | exact pos_front (And.right ‹_ ∧ LeTo L a _›) hleL (And.left ‹_ ∧ LeTo L a _›) ‹_› | exact pos_front' ‹VsOK L› (And.right ‹_ ∧ LeTo L a _›) ‹L[k]? = some _› ‹_›) ‹_›]; rfl) | (rw [seat_yes ‹VsOK L› ‹_› ‹(freeN L a b 6)[0]? = some _› (by first | exact pos_front (And.right ‹_ ∧ LeTo L a _›) hleL (And.left ‹_ ∧ LeTo L a _›) ‹_› | exact pos_front' ‹VsOK L› (And.right ‹_ ∧ LeTo L a _›) ‹L[k]? = some _› ‹_›) ‹_›]; rfl)
theorem z_c_impl_SeatReader_17 (L : List Visit) (nL : Nat) (hbdL : (nL : Int) ≤ 9223372036854775807) (hleL : nL = L.length) (r : Int) (a : Int) (b : Int) (h5 : VsOK L) (hq9 : L.length ≤ 15) (h14 : ¬ ((480 ≤ a ∧ a ≤ 1200) ∧ (480 ≤ b ∧ b ≤ 1200) ∧ a < b)) : false = (seatR L r a b).isSome := by
  try simp only [Int.toNat_natCast] at *
  first | (rw [show seatR L r a b = none from by first | exact seat_no (fun h => absurd h.1 ‹_›) | exact seat_no (by omega) | exact seat_full ‹_› ‹_› | exact seat_bad ‹(freeN L a b 6)[0]? = some _› (by first | exact pos_front (And.right ‹_ ∧ LeTo L a _›) hleL (And.left ‹_ ∧ LeTo L a _›) ‹_› | exact pos_front' ‹VsOK L› (And.right ‹_ ∧ LeTo L a _›) ‹L[k]? = some _› ‹_›) ‹_›]; rfl) | (rw [seat_yes ‹VsOK L› ‹_› ‹(freeN L a b 6)[0]? = some _› (by first | exact pos_front (And.right ‹_ ∧ LeTo L a _›) hleL (And.left ‹_ ∧ LeTo L a _›) ‹_› | exact pos_front' ‹VsOK L› (And.right ‹_ ∧ LeTo L a _›) ‹L[k]? = some _› ‹_›) ‹_›]; rfl)
theorem z_c_impl_SeatReader_30 (L : List Visit) (nL : Nat) (hbdL : (nL : Int) ≤ 9223372036854775807) (hleL : nL = L.length) (r : Int) (a : Int) (b : Int) (h5 : VsOK L) (hq9 : L.length ≤ 15) (h14 : (480 ≤ a ∧ a ≤ 1200) ∧ (480 ≤ b ∧ b ≤ 1200) ∧ a < b) (n21 : Nat) (hl26 : n21 = (freeN L a b 6).length) (hl27 : (n21 : Int) ≤ 9223372036854775807) (hq28 : (freeN L a b 6).length ≤ 6) (h29 : (n21 : Int) = 0) : ([] : List Visit) = (seatR L r a b).elim [] (·.1) := by
  try simp only [Int.toNat_natCast] at *
  first | (rw [show seatR L r a b = none from by first | exact seat_no (fun h => absurd h.1 ‹_›) | exact seat_no (by omega) | exact seat_full ‹_› ‹_› | exact seat_bad ‹(freeN L a b 6)[0]? = some _› (by first | exact pos_front (And.right ‹_ ∧ LeTo L a _›) hleL (And.left ‹_ ∧ LeTo L a _›) ‹_› | exact pos_front' ‹VsOK L› (And.right ‹_ ∧ LeTo L a _›) ‹L[k]? = some _› ‹_›) ‹_›]; rfl) | (rw [seat_yes ‹VsOK L› ‹_› ‹(freeN L a b 6)[0]? = some _› (by first | exact pos_front (And.right ‹_ ∧ LeTo L a _›) hleL (And.left ‹_ ∧ LeTo L a _›) ‹_› | exact pos_front' ‹VsOK L› (And.right ‹_ ∧ LeTo L a _›) ‹L[k]? = some _› ‹_›) ‹_›]; rfl)
theorem z_c_impl_SeatReader_31 (L : List Visit) (nL : Nat) (hbdL : (nL : Int) ≤ 9223372036854775807) (hleL : nL = L.length) (r : Int) (a : Int) (b : Int) (h5 : VsOK L) (hq9 : L.length ≤ 15) (h14 : (480 ≤ a ∧ a ≤ 1200) ∧ (480 ≤ b ∧ b ≤ 1200) ∧ a < b) (n21 : Nat) (hl26 : n21 = (freeN L a b 6).length) (hl27 : (n21 : Int) ≤ 9223372036854775807) (hq28 : (freeN L a b 6).length ≤ 6) (h29 : (n21 : Int) = 0) : 0 = (seatR L r a b).elim 0 (·.2) := by
  try simp only [Int.toNat_natCast] at *
  first | (rw [show seatR L r a b = none from by first | exact seat_no (fun h => absurd h.1 ‹_›) | exact seat_no (by omega) | exact seat_full ‹_› ‹_› | exact seat_bad ‹(freeN L a b 6)[0]? = some _› (by first | exact pos_front (And.right ‹_ ∧ LeTo L a _›) hleL (And.left ‹_ ∧ LeTo L a _›) ‹_› | exact pos_front' ‹VsOK L› (And.right ‹_ ∧ LeTo L a _›) ‹L[k]? = some _› ‹_›) ‹_›]; rfl) | (rw [seat_yes ‹VsOK L› ‹_› ‹(freeN L a b 6)[0]? = some _› (by first | exact pos_front (And.right ‹_ ∧ LeTo L a _›) hleL (And.left ‹_ ∧ LeTo L a _›) ‹_› | exact pos_front' ‹VsOK L› (And.right ‹_ ∧ LeTo L a _›) ‹L[k]? = some _› ‹_›) ‹_›]; rfl)
theorem z_c_impl_SeatReader_32 (L : List Visit) (nL : Nat) (hbdL : (nL : Int) ≤ 9223372036854775807) (hleL : nL = L.length) (r : Int) (a : Int) (b : Int) (h5 : VsOK L) (hq9 : L.length ≤ 15) (h14 : (480 ≤ a ∧ a ≤ 1200) ∧ (480 ≤ b ∧ b ≤ 1200) ∧ a < b) (n21 : Nat) (hl26 : n21 = (freeN L a b 6).length) (hl27 : (n21 : Int) ≤ 9223372036854775807) (hq28 : (freeN L a b 6).length ≤ 6) (h29 : (n21 : Int) = 0) : false = (seatR L r a b).isSome := by
  try simp only [Int.toNat_natCast] at *
  first | (rw [show seatR L r a b = none from by first | exact seat_no (fun h => absurd h.1 ‹_›) | exact seat_no (by omega) | exact seat_full ‹_› ‹_› | exact seat_bad ‹(freeN L a b 6)[0]? = some _› (by first | exact pos_front (And.right ‹_ ∧ LeTo L a _›) hleL (And.left ‹_ ∧ LeTo L a _›) ‹_› | exact pos_front' ‹VsOK L› (And.right ‹_ ∧ LeTo L a _›) ‹L[k]? = some _› ‹_›) ‹_›]; rfl) | (rw [seat_yes ‹VsOK L› ‹_› ‹(freeN L a b 6)[0]? = some _› (by first | exact pos_front (And.right ‹_ ∧ LeTo L a _›) hleL (And.left ‹_ ∧ LeTo L a _›) ‹_› | exact pos_front' ‹VsOK L› (And.right ‹_ ∧ LeTo L a _›) ‹L[k]? = some _› ‹_›) ‹_›]; rfl)
theorem z_c_impl_SeatReader_33 (L : List Visit) (nL : Nat) (hbdL : (nL : Int) ≤ 9223372036854775807) (hleL : nL = L.length) (r : Int) (a : Int) (b : Int) (h5 : VsOK L) (hq9 : L.length ≤ 15) (h14 : (480 ≤ a ∧ a ≤ 1200) ∧ (480 ≤ b ∧ b ≤ 1200) ∧ a < b) (n21 : Nat) (hl26 : n21 = (freeN L a b 6).length) (hl27 : (n21 : Int) ≤ 9223372036854775807) (hq28 : (freeN L a b 6).length ≤ 6) (h29 : ¬ ((n21 : Int) = 0)) : 0 ≤ nL ∧ LeTo L a 0 := by
  exact ⟨Nat.zero_le _, leTo_zero⟩
theorem z_c_impl_SeatReader_46 (L : List Visit) (nL : Nat) (hbdL : (nL : Int) ≤ 9223372036854775807) (hleL : nL = L.length) (r : Int) (a : Int) (b : Int) (h5 : VsOK L) (hq9 : L.length ≤ 15) (h14 : (480 ≤ a ∧ a ≤ 1200) ∧ (480 ≤ b ∧ b ≤ 1200) ∧ a < b) (n21 : Nat) (hl26 : n21 = (freeN L a b 6).length) (hl27 : (n21 : Int) ≤ 9223372036854775807) (hq28 : (freeN L a b 6).length ≤ 6) (h29 : ¬ ((n21 : Int) = 0)) (k : Nat) (hi40 : k ≤ nL ∧ LeTo L a k) (h41 : (k : Int) < (nL : Int)) (x42 : Visit) (hx43 : L[k]? = some x42) (hq44 : ((1 : Int) ≤ x42.Reader ∧ x42.Reader ≤ 999) ∧ ((1 : Int) ≤ x42.Seat ∧ x42.Seat ≤ 6) ∧ ((480 : Int) ≤ x42.From ∧ x42.From ≤ 1200) ∧ ((480 : Int) ≤ x42.Until ∧ x42.Until ≤ 1200) ∧ x42.From < x42.Until) (h45 : x42.From ≤ a) : k + 1 ≤ nL ∧ LeTo L a (k + 1) := by
  exact ⟨by omega, leTo_next (And.right ‹_ ∧ LeTo L a _›) ‹L[k]? = some _› (by omega)⟩
theorem z_c_impl_SeatReader_47 (L : List Visit) (nL : Nat) (hbdL : (nL : Int) ≤ 9223372036854775807) (hleL : nL = L.length) (r : Int) (a : Int) (b : Int) (h5 : VsOK L) (hq9 : L.length ≤ 15) (h14 : (480 ≤ a ∧ a ≤ 1200) ∧ (480 ≤ b ∧ b ≤ 1200) ∧ a < b) (n21 : Nat) (hl26 : n21 = (freeN L a b 6).length) (hl27 : (n21 : Int) ≤ 9223372036854775807) (hq28 : (freeN L a b 6).length ≤ 6) (h29 : ¬ ((n21 : Int) = 0)) (k : Nat) (hi40 : k ≤ nL ∧ LeTo L a k) (h41 : (k : Int) < (nL : Int)) (x42 : Visit) (hx43 : L[k]? = some x42) (hq44 : ((1 : Int) ≤ x42.Reader ∧ x42.Reader ≤ 999) ∧ ((1 : Int) ≤ x42.Seat ∧ x42.Seat ≤ 6) ∧ ((480 : Int) ≤ x42.From ∧ x42.From ≤ 1200) ∧ ((480 : Int) ≤ x42.Until ∧ x42.Until ≤ 1200) ∧ x42.From < x42.Until) (h45 : x42.From ≤ a) : nL - (k + 1) < nL - k := by
  omega
theorem z_c_impl_SeatReader_137 (L : List Visit) (nL : Nat) (hbdL : (nL : Int) ≤ 9223372036854775807) (hleL : nL = L.length) (r : Int) (a : Int) (b : Int) (h5 : VsOK L) (hq9 : L.length ≤ 15) (h14 : (480 ≤ a ∧ a ≤ 1200) ∧ (480 ≤ b ∧ b ≤ 1200) ∧ a < b) (n21 : Nat) (hl26 : n21 = (freeN L a b 6).length) (hl27 : (n21 : Int) ≤ 9223372036854775807) (hq28 : (freeN L a b 6).length ≤ 6) (h29 : ¬ ((n21 : Int) = 0)) (k : Nat) (hi40 : k ≤ nL ∧ LeTo L a k) (h41 : (k : Int) < (nL : Int)) (x42 : Visit) (hx43 : L[k]? = some x42) (hq44 : ((1 : Int) ≤ x42.Reader ∧ x42.Reader ≤ 999) ∧ ((1 : Int) ≤ x42.Seat ∧ x42.Seat ≤ 6) ∧ ((480 : Int) ≤ x42.From ∧ x42.From ≤ 1200) ∧ ((480 : Int) ≤ x42.Until ∧ x42.Until ≤ 1200) ∧ x42.From < x42.Until) (h45 : ¬ (x42.From ≤ a)) (n57 : Nat) (n78 : Nat) (x52 : Int) (hx53 : (freeN L a b 6)[0]? = some x52) (hl63 : n57 = (L).length) (hl64 : (n57 : Int) ≤ 9223372036854775807) (hl87 : n78 = (L.take (k : Int).toNat ++ ([(⟨r, x52, a, b⟩ : Visit)] : List Visit) ++ L.drop (k : Int).toNat).length) (hl88 : (n78 : Int) ≤ 9223372036854775807) (h136 : ¬ (VsOK (L.take (k : Int).toNat ++ ([(⟨r, x52, a, b⟩ : Visit)] : List Visit) ++ L.drop (k : Int).toNat))) : ([] : List Visit) = (seatR L r a b).elim [] (·.1) := by
  try simp only [Int.toNat_natCast] at *
  first | (rw [show seatR L r a b = none from by first | exact seat_no (fun h => absurd h.1 ‹_›) | exact seat_no (by omega) | exact seat_full ‹_› ‹_› | exact seat_bad ‹(freeN L a b 6)[0]? = some _› (by first | exact pos_front (And.right ‹_ ∧ LeTo L a _›) hleL (And.left ‹_ ∧ LeTo L a _›) ‹_› | exact pos_front' ‹VsOK L› (And.right ‹_ ∧ LeTo L a _›) ‹L[k]? = some _› ‹_›) ‹_›]; rfl) | (rw [seat_yes ‹VsOK L› ‹_› ‹(freeN L a b 6)[0]? = some _› (by first | exact pos_front (And.right ‹_ ∧ LeTo L a _›) hleL (And.left ‹_ ∧ LeTo L a _›) ‹_› | exact pos_front' ‹VsOK L› (And.right ‹_ ∧ LeTo L a _›) ‹L[k]? = some _› ‹_›) ‹_›]; rfl)
theorem z_c_impl_SeatReader_138 (L : List Visit) (nL : Nat) (hbdL : (nL : Int) ≤ 9223372036854775807) (hleL : nL = L.length) (r : Int) (a : Int) (b : Int) (h5 : VsOK L) (hq9 : L.length ≤ 15) (h14 : (480 ≤ a ∧ a ≤ 1200) ∧ (480 ≤ b ∧ b ≤ 1200) ∧ a < b) (n21 : Nat) (hl26 : n21 = (freeN L a b 6).length) (hl27 : (n21 : Int) ≤ 9223372036854775807) (hq28 : (freeN L a b 6).length ≤ 6) (h29 : ¬ ((n21 : Int) = 0)) (k : Nat) (hi40 : k ≤ nL ∧ LeTo L a k) (h41 : (k : Int) < (nL : Int)) (x42 : Visit) (hx43 : L[k]? = some x42) (hq44 : ((1 : Int) ≤ x42.Reader ∧ x42.Reader ≤ 999) ∧ ((1 : Int) ≤ x42.Seat ∧ x42.Seat ≤ 6) ∧ ((480 : Int) ≤ x42.From ∧ x42.From ≤ 1200) ∧ ((480 : Int) ≤ x42.Until ∧ x42.Until ≤ 1200) ∧ x42.From < x42.Until) (h45 : ¬ (x42.From ≤ a)) (n57 : Nat) (n78 : Nat) (x52 : Int) (hx53 : (freeN L a b 6)[0]? = some x52) (hl63 : n57 = (L).length) (hl64 : (n57 : Int) ≤ 9223372036854775807) (hl87 : n78 = (L.take (k : Int).toNat ++ ([(⟨r, x52, a, b⟩ : Visit)] : List Visit) ++ L.drop (k : Int).toNat).length) (hl88 : (n78 : Int) ≤ 9223372036854775807) (h136 : ¬ (VsOK (L.take (k : Int).toNat ++ ([(⟨r, x52, a, b⟩ : Visit)] : List Visit) ++ L.drop (k : Int).toNat))) : 0 = (seatR L r a b).elim 0 (·.2) := by
  try simp only [Int.toNat_natCast] at *
  first | (rw [show seatR L r a b = none from by first | exact seat_no (fun h => absurd h.1 ‹_›) | exact seat_no (by omega) | exact seat_full ‹_› ‹_› | exact seat_bad ‹(freeN L a b 6)[0]? = some _› (by first | exact pos_front (And.right ‹_ ∧ LeTo L a _›) hleL (And.left ‹_ ∧ LeTo L a _›) ‹_› | exact pos_front' ‹VsOK L› (And.right ‹_ ∧ LeTo L a _›) ‹L[k]? = some _› ‹_›) ‹_›]; rfl) | (rw [seat_yes ‹VsOK L› ‹_› ‹(freeN L a b 6)[0]? = some _› (by first | exact pos_front (And.right ‹_ ∧ LeTo L a _›) hleL (And.left ‹_ ∧ LeTo L a _›) ‹_› | exact pos_front' ‹VsOK L› (And.right ‹_ ∧ LeTo L a _›) ‹L[k]? = some _› ‹_›) ‹_›]; rfl)
theorem z_c_impl_SeatReader_139 (L : List Visit) (nL : Nat) (hbdL : (nL : Int) ≤ 9223372036854775807) (hleL : nL = L.length) (r : Int) (a : Int) (b : Int) (h5 : VsOK L) (hq9 : L.length ≤ 15) (h14 : (480 ≤ a ∧ a ≤ 1200) ∧ (480 ≤ b ∧ b ≤ 1200) ∧ a < b) (n21 : Nat) (hl26 : n21 = (freeN L a b 6).length) (hl27 : (n21 : Int) ≤ 9223372036854775807) (hq28 : (freeN L a b 6).length ≤ 6) (h29 : ¬ ((n21 : Int) = 0)) (k : Nat) (hi40 : k ≤ nL ∧ LeTo L a k) (h41 : (k : Int) < (nL : Int)) (x42 : Visit) (hx43 : L[k]? = some x42) (hq44 : ((1 : Int) ≤ x42.Reader ∧ x42.Reader ≤ 999) ∧ ((1 : Int) ≤ x42.Seat ∧ x42.Seat ≤ 6) ∧ ((480 : Int) ≤ x42.From ∧ x42.From ≤ 1200) ∧ ((480 : Int) ≤ x42.Until ∧ x42.Until ≤ 1200) ∧ x42.From < x42.Until) (h45 : ¬ (x42.From ≤ a)) (n57 : Nat) (n78 : Nat) (x52 : Int) (hx53 : (freeN L a b 6)[0]? = some x52) (hl63 : n57 = (L).length) (hl64 : (n57 : Int) ≤ 9223372036854775807) (hl87 : n78 = (L.take (k : Int).toNat ++ ([(⟨r, x52, a, b⟩ : Visit)] : List Visit) ++ L.drop (k : Int).toNat).length) (hl88 : (n78 : Int) ≤ 9223372036854775807) (h136 : ¬ (VsOK (L.take (k : Int).toNat ++ ([(⟨r, x52, a, b⟩ : Visit)] : List Visit) ++ L.drop (k : Int).toNat))) : false = (seatR L r a b).isSome := by
  try simp only [Int.toNat_natCast] at *
  first | (rw [show seatR L r a b = none from by first | exact seat_no (fun h => absurd h.1 ‹_›) | exact seat_no (by omega) | exact seat_full ‹_› ‹_› | exact seat_bad ‹(freeN L a b 6)[0]? = some _› (by first | exact pos_front (And.right ‹_ ∧ LeTo L a _›) hleL (And.left ‹_ ∧ LeTo L a _›) ‹_› | exact pos_front' ‹VsOK L› (And.right ‹_ ∧ LeTo L a _›) ‹L[k]? = some _› ‹_›) ‹_›]; rfl) | (rw [seat_yes ‹VsOK L› ‹_› ‹(freeN L a b 6)[0]? = some _› (by first | exact pos_front (And.right ‹_ ∧ LeTo L a _›) hleL (And.left ‹_ ∧ LeTo L a _›) ‹_› | exact pos_front' ‹VsOK L› (And.right ‹_ ∧ LeTo L a _›) ‹L[k]? = some _› ‹_›) ‹_›]; rfl)
theorem z_c_impl_SeatReader_144 (L : List Visit) (nL : Nat) (hbdL : (nL : Int) ≤ 9223372036854775807) (hleL : nL = L.length) (r : Int) (a : Int) (b : Int) (h5 : VsOK L) (hq9 : L.length ≤ 15) (h14 : (480 ≤ a ∧ a ≤ 1200) ∧ (480 ≤ b ∧ b ≤ 1200) ∧ a < b) (n21 : Nat) (hl26 : n21 = (freeN L a b 6).length) (hl27 : (n21 : Int) ≤ 9223372036854775807) (hq28 : (freeN L a b 6).length ≤ 6) (h29 : ¬ ((n21 : Int) = 0)) (k : Nat) (hi40 : k ≤ nL ∧ LeTo L a k) (h41 : (k : Int) < (nL : Int)) (x42 : Visit) (hx43 : L[k]? = some x42) (hq44 : ((1 : Int) ≤ x42.Reader ∧ x42.Reader ≤ 999) ∧ ((1 : Int) ≤ x42.Seat ∧ x42.Seat ≤ 6) ∧ ((480 : Int) ≤ x42.From ∧ x42.From ≤ 1200) ∧ ((480 : Int) ≤ x42.Until ∧ x42.Until ≤ 1200) ∧ x42.From < x42.Until) (h45 : ¬ (x42.From ≤ a)) (n57 : Nat) (n78 : Nat) (x52 : Int) (hx53 : (freeN L a b 6)[0]? = some x52) (hl63 : n57 = (L).length) (hl64 : (n57 : Int) ≤ 9223372036854775807) (hl87 : n78 = (L.take (k : Int).toNat ++ ([(⟨r, x52, a, b⟩ : Visit)] : List Visit) ++ L.drop (k : Int).toNat).length) (hl88 : (n78 : Int) ≤ 9223372036854775807) (h136 : VsOK (L.take (k : Int).toNat ++ ([(⟨r, x52, a, b⟩ : Visit)] : List Visit) ++ L.drop (k : Int).toNat)) : L.take (k : Int).toNat ++ ([(⟨r, x52, a, b⟩ : Visit)] : List Visit) ++ L.drop (k : Int).toNat = (seatR L r a b).elim [] (·.1) := by
  try simp only [Int.toNat_natCast] at *
  first | (rw [show seatR L r a b = none from by first | exact seat_no (fun h => absurd h.1 ‹_›) | exact seat_no (by omega) | exact seat_full ‹_› ‹_› | exact seat_bad ‹(freeN L a b 6)[0]? = some _› (by first | exact pos_front (And.right ‹_ ∧ LeTo L a _›) hleL (And.left ‹_ ∧ LeTo L a _›) ‹_› | exact pos_front' ‹VsOK L› (And.right ‹_ ∧ LeTo L a _›) ‹L[k]? = some _› ‹_›) ‹_›]; rfl) | (rw [seat_yes ‹VsOK L› ‹_› ‹(freeN L a b 6)[0]? = some _› (by first | exact pos_front (And.right ‹_ ∧ LeTo L a _›) hleL (And.left ‹_ ∧ LeTo L a _›) ‹_› | exact pos_front' ‹VsOK L› (And.right ‹_ ∧ LeTo L a _›) ‹L[k]? = some _› ‹_›) ‹_›]; rfl)
theorem z_c_impl_SeatReader_145 (L : List Visit) (nL : Nat) (hbdL : (nL : Int) ≤ 9223372036854775807) (hleL : nL = L.length) (r : Int) (a : Int) (b : Int) (h5 : VsOK L) (hq9 : L.length ≤ 15) (h14 : (480 ≤ a ∧ a ≤ 1200) ∧ (480 ≤ b ∧ b ≤ 1200) ∧ a < b) (n21 : Nat) (hl26 : n21 = (freeN L a b 6).length) (hl27 : (n21 : Int) ≤ 9223372036854775807) (hq28 : (freeN L a b 6).length ≤ 6) (h29 : ¬ ((n21 : Int) = 0)) (k : Nat) (hi40 : k ≤ nL ∧ LeTo L a k) (h41 : (k : Int) < (nL : Int)) (x42 : Visit) (hx43 : L[k]? = some x42) (hq44 : ((1 : Int) ≤ x42.Reader ∧ x42.Reader ≤ 999) ∧ ((1 : Int) ≤ x42.Seat ∧ x42.Seat ≤ 6) ∧ ((480 : Int) ≤ x42.From ∧ x42.From ≤ 1200) ∧ ((480 : Int) ≤ x42.Until ∧ x42.Until ≤ 1200) ∧ x42.From < x42.Until) (h45 : ¬ (x42.From ≤ a)) (n57 : Nat) (n78 : Nat) (x52 : Int) (hx53 : (freeN L a b 6)[0]? = some x52) (hl63 : n57 = (L).length) (hl64 : (n57 : Int) ≤ 9223372036854775807) (hl87 : n78 = (L.take (k : Int).toNat ++ ([(⟨r, x52, a, b⟩ : Visit)] : List Visit) ++ L.drop (k : Int).toNat).length) (hl88 : (n78 : Int) ≤ 9223372036854775807) (h136 : VsOK (L.take (k : Int).toNat ++ ([(⟨r, x52, a, b⟩ : Visit)] : List Visit) ++ L.drop (k : Int).toNat)) : x52 = (seatR L r a b).elim 0 (·.2) := by
  try simp only [Int.toNat_natCast] at *
  first | (rw [show seatR L r a b = none from by first | exact seat_no (fun h => absurd h.1 ‹_›) | exact seat_no (by omega) | exact seat_full ‹_› ‹_› | exact seat_bad ‹(freeN L a b 6)[0]? = some _› (by first | exact pos_front (And.right ‹_ ∧ LeTo L a _›) hleL (And.left ‹_ ∧ LeTo L a _›) ‹_› | exact pos_front' ‹VsOK L› (And.right ‹_ ∧ LeTo L a _›) ‹L[k]? = some _› ‹_›) ‹_›]; rfl) | (rw [seat_yes ‹VsOK L› ‹_› ‹(freeN L a b 6)[0]? = some _› (by first | exact pos_front (And.right ‹_ ∧ LeTo L a _›) hleL (And.left ‹_ ∧ LeTo L a _›) ‹_› | exact pos_front' ‹VsOK L› (And.right ‹_ ∧ LeTo L a _›) ‹L[k]? = some _› ‹_›) ‹_›]; rfl)
theorem z_c_impl_SeatReader_146 (L : List Visit) (nL : Nat) (hbdL : (nL : Int) ≤ 9223372036854775807) (hleL : nL = L.length) (r : Int) (a : Int) (b : Int) (h5 : VsOK L) (hq9 : L.length ≤ 15) (h14 : (480 ≤ a ∧ a ≤ 1200) ∧ (480 ≤ b ∧ b ≤ 1200) ∧ a < b) (n21 : Nat) (hl26 : n21 = (freeN L a b 6).length) (hl27 : (n21 : Int) ≤ 9223372036854775807) (hq28 : (freeN L a b 6).length ≤ 6) (h29 : ¬ ((n21 : Int) = 0)) (k : Nat) (hi40 : k ≤ nL ∧ LeTo L a k) (h41 : (k : Int) < (nL : Int)) (x42 : Visit) (hx43 : L[k]? = some x42) (hq44 : ((1 : Int) ≤ x42.Reader ∧ x42.Reader ≤ 999) ∧ ((1 : Int) ≤ x42.Seat ∧ x42.Seat ≤ 6) ∧ ((480 : Int) ≤ x42.From ∧ x42.From ≤ 1200) ∧ ((480 : Int) ≤ x42.Until ∧ x42.Until ≤ 1200) ∧ x42.From < x42.Until) (h45 : ¬ (x42.From ≤ a)) (n57 : Nat) (n78 : Nat) (x52 : Int) (hx53 : (freeN L a b 6)[0]? = some x52) (hl63 : n57 = (L).length) (hl64 : (n57 : Int) ≤ 9223372036854775807) (hl87 : n78 = (L.take (k : Int).toNat ++ ([(⟨r, x52, a, b⟩ : Visit)] : List Visit) ++ L.drop (k : Int).toNat).length) (hl88 : (n78 : Int) ≤ 9223372036854775807) (h136 : VsOK (L.take (k : Int).toNat ++ ([(⟨r, x52, a, b⟩ : Visit)] : List Visit) ++ L.drop (k : Int).toNat)) : true = (seatR L r a b).isSome := by
  try simp only [Int.toNat_natCast] at *
  first | (rw [show seatR L r a b = none from by first | exact seat_no (fun h => absurd h.1 ‹_›) | exact seat_no (by omega) | exact seat_full ‹_› ‹_› | exact seat_bad ‹(freeN L a b 6)[0]? = some _› (by first | exact pos_front (And.right ‹_ ∧ LeTo L a _›) hleL (And.left ‹_ ∧ LeTo L a _›) ‹_› | exact pos_front' ‹VsOK L› (And.right ‹_ ∧ LeTo L a _›) ‹L[k]? = some _› ‹_›) ‹_›]; rfl) | (rw [seat_yes ‹VsOK L› ‹_› ‹(freeN L a b 6)[0]? = some _› (by first | exact pos_front (And.right ‹_ ∧ LeTo L a _›) hleL (And.left ‹_ ∧ LeTo L a _›) ‹_› | exact pos_front' ‹VsOK L› (And.right ‹_ ∧ LeTo L a _›) ‹L[k]? = some _› ‹_›) ‹_›]; rfl)
theorem z_c_impl_SeatReader_236 (L : List Visit) (nL : Nat) (hbdL : (nL : Int) ≤ 9223372036854775807) (hleL : nL = L.length) (r : Int) (a : Int) (b : Int) (h5 : VsOK L) (hq9 : L.length ≤ 15) (h14 : (480 ≤ a ∧ a ≤ 1200) ∧ (480 ≤ b ∧ b ≤ 1200) ∧ a < b) (n21 : Nat) (hl26 : n21 = (freeN L a b 6).length) (hl27 : (n21 : Int) ≤ 9223372036854775807) (hq28 : (freeN L a b 6).length ≤ 6) (h29 : ¬ ((n21 : Int) = 0)) (k : Nat) (hi40 : k ≤ nL ∧ LeTo L a k) (h41 : ¬ ((k : Int) < (nL : Int))) (n156 : Nat) (n177 : Nat) (x151 : Int) (hx152 : (freeN L a b 6)[0]? = some x151) (hl162 : n156 = (L).length) (hl163 : (n156 : Int) ≤ 9223372036854775807) (hl186 : n177 = (L.take (k : Int).toNat ++ ([(⟨r, x151, a, b⟩ : Visit)] : List Visit) ++ L.drop (k : Int).toNat).length) (hl187 : (n177 : Int) ≤ 9223372036854775807) (h235 : ¬ (VsOK (L.take (k : Int).toNat ++ ([(⟨r, x151, a, b⟩ : Visit)] : List Visit) ++ L.drop (k : Int).toNat))) : ([] : List Visit) = (seatR L r a b).elim [] (·.1) := by
  try simp only [Int.toNat_natCast] at *
  first | (rw [show seatR L r a b = none from by first | exact seat_no (fun h => absurd h.1 ‹_›) | exact seat_no (by omega) | exact seat_full ‹_› ‹_› | exact seat_bad ‹(freeN L a b 6)[0]? = some _› (by first | exact pos_front (And.right ‹_ ∧ LeTo L a _›) hleL (And.left ‹_ ∧ LeTo L a _›) ‹_› | exact pos_front' ‹VsOK L› (And.right ‹_ ∧ LeTo L a _›) ‹L[k]? = some _› ‹_›) ‹_›]; rfl) | (rw [seat_yes ‹VsOK L› ‹_› ‹(freeN L a b 6)[0]? = some _› (by first | exact pos_front (And.right ‹_ ∧ LeTo L a _›) hleL (And.left ‹_ ∧ LeTo L a _›) ‹_› | exact pos_front' ‹VsOK L› (And.right ‹_ ∧ LeTo L a _›) ‹L[k]? = some _› ‹_›) ‹_›]; rfl)
theorem z_c_impl_SeatReader_237 (L : List Visit) (nL : Nat) (hbdL : (nL : Int) ≤ 9223372036854775807) (hleL : nL = L.length) (r : Int) (a : Int) (b : Int) (h5 : VsOK L) (hq9 : L.length ≤ 15) (h14 : (480 ≤ a ∧ a ≤ 1200) ∧ (480 ≤ b ∧ b ≤ 1200) ∧ a < b) (n21 : Nat) (hl26 : n21 = (freeN L a b 6).length) (hl27 : (n21 : Int) ≤ 9223372036854775807) (hq28 : (freeN L a b 6).length ≤ 6) (h29 : ¬ ((n21 : Int) = 0)) (k : Nat) (hi40 : k ≤ nL ∧ LeTo L a k) (h41 : ¬ ((k : Int) < (nL : Int))) (n156 : Nat) (n177 : Nat) (x151 : Int) (hx152 : (freeN L a b 6)[0]? = some x151) (hl162 : n156 = (L).length) (hl163 : (n156 : Int) ≤ 9223372036854775807) (hl186 : n177 = (L.take (k : Int).toNat ++ ([(⟨r, x151, a, b⟩ : Visit)] : List Visit) ++ L.drop (k : Int).toNat).length) (hl187 : (n177 : Int) ≤ 9223372036854775807) (h235 : ¬ (VsOK (L.take (k : Int).toNat ++ ([(⟨r, x151, a, b⟩ : Visit)] : List Visit) ++ L.drop (k : Int).toNat))) : 0 = (seatR L r a b).elim 0 (·.2) := by
  try simp only [Int.toNat_natCast] at *
  first | (rw [show seatR L r a b = none from by first | exact seat_no (fun h => absurd h.1 ‹_›) | exact seat_no (by omega) | exact seat_full ‹_› ‹_› | exact seat_bad ‹(freeN L a b 6)[0]? = some _› (by first | exact pos_front (And.right ‹_ ∧ LeTo L a _›) hleL (And.left ‹_ ∧ LeTo L a _›) ‹_› | exact pos_front' ‹VsOK L› (And.right ‹_ ∧ LeTo L a _›) ‹L[k]? = some _› ‹_›) ‹_›]; rfl) | (rw [seat_yes ‹VsOK L› ‹_› ‹(freeN L a b 6)[0]? = some _› (by first | exact pos_front (And.right ‹_ ∧ LeTo L a _›) hleL (And.left ‹_ ∧ LeTo L a _›) ‹_› | exact pos_front' ‹VsOK L› (And.right ‹_ ∧ LeTo L a _›) ‹L[k]? = some _› ‹_›) ‹_›]; rfl)
theorem z_c_impl_SeatReader_238 (L : List Visit) (nL : Nat) (hbdL : (nL : Int) ≤ 9223372036854775807) (hleL : nL = L.length) (r : Int) (a : Int) (b : Int) (h5 : VsOK L) (hq9 : L.length ≤ 15) (h14 : (480 ≤ a ∧ a ≤ 1200) ∧ (480 ≤ b ∧ b ≤ 1200) ∧ a < b) (n21 : Nat) (hl26 : n21 = (freeN L a b 6).length) (hl27 : (n21 : Int) ≤ 9223372036854775807) (hq28 : (freeN L a b 6).length ≤ 6) (h29 : ¬ ((n21 : Int) = 0)) (k : Nat) (hi40 : k ≤ nL ∧ LeTo L a k) (h41 : ¬ ((k : Int) < (nL : Int))) (n156 : Nat) (n177 : Nat) (x151 : Int) (hx152 : (freeN L a b 6)[0]? = some x151) (hl162 : n156 = (L).length) (hl163 : (n156 : Int) ≤ 9223372036854775807) (hl186 : n177 = (L.take (k : Int).toNat ++ ([(⟨r, x151, a, b⟩ : Visit)] : List Visit) ++ L.drop (k : Int).toNat).length) (hl187 : (n177 : Int) ≤ 9223372036854775807) (h235 : ¬ (VsOK (L.take (k : Int).toNat ++ ([(⟨r, x151, a, b⟩ : Visit)] : List Visit) ++ L.drop (k : Int).toNat))) : false = (seatR L r a b).isSome := by
  try simp only [Int.toNat_natCast] at *
  first | (rw [show seatR L r a b = none from by first | exact seat_no (fun h => absurd h.1 ‹_›) | exact seat_no (by omega) | exact seat_full ‹_› ‹_› | exact seat_bad ‹(freeN L a b 6)[0]? = some _› (by first | exact pos_front (And.right ‹_ ∧ LeTo L a _›) hleL (And.left ‹_ ∧ LeTo L a _›) ‹_› | exact pos_front' ‹VsOK L› (And.right ‹_ ∧ LeTo L a _›) ‹L[k]? = some _› ‹_›) ‹_›]; rfl) | (rw [seat_yes ‹VsOK L› ‹_› ‹(freeN L a b 6)[0]? = some _› (by first | exact pos_front (And.right ‹_ ∧ LeTo L a _›) hleL (And.left ‹_ ∧ LeTo L a _›) ‹_› | exact pos_front' ‹VsOK L› (And.right ‹_ ∧ LeTo L a _›) ‹L[k]? = some _› ‹_›) ‹_›]; rfl)
theorem z_c_impl_SeatReader_243 (L : List Visit) (nL : Nat) (hbdL : (nL : Int) ≤ 9223372036854775807) (hleL : nL = L.length) (r : Int) (a : Int) (b : Int) (h5 : VsOK L) (hq9 : L.length ≤ 15) (h14 : (480 ≤ a ∧ a ≤ 1200) ∧ (480 ≤ b ∧ b ≤ 1200) ∧ a < b) (n21 : Nat) (hl26 : n21 = (freeN L a b 6).length) (hl27 : (n21 : Int) ≤ 9223372036854775807) (hq28 : (freeN L a b 6).length ≤ 6) (h29 : ¬ ((n21 : Int) = 0)) (k : Nat) (hi40 : k ≤ nL ∧ LeTo L a k) (h41 : ¬ ((k : Int) < (nL : Int))) (n156 : Nat) (n177 : Nat) (x151 : Int) (hx152 : (freeN L a b 6)[0]? = some x151) (hl162 : n156 = (L).length) (hl163 : (n156 : Int) ≤ 9223372036854775807) (hl186 : n177 = (L.take (k : Int).toNat ++ ([(⟨r, x151, a, b⟩ : Visit)] : List Visit) ++ L.drop (k : Int).toNat).length) (hl187 : (n177 : Int) ≤ 9223372036854775807) (h235 : VsOK (L.take (k : Int).toNat ++ ([(⟨r, x151, a, b⟩ : Visit)] : List Visit) ++ L.drop (k : Int).toNat)) : L.take (k : Int).toNat ++ ([(⟨r, x151, a, b⟩ : Visit)] : List Visit) ++ L.drop (k : Int).toNat = (seatR L r a b).elim [] (·.1) := by
  try simp only [Int.toNat_natCast] at *
  first | (rw [show seatR L r a b = none from by first | exact seat_no (fun h => absurd h.1 ‹_›) | exact seat_no (by omega) | exact seat_full ‹_› ‹_› | exact seat_bad ‹(freeN L a b 6)[0]? = some _› (by first | exact pos_front (And.right ‹_ ∧ LeTo L a _›) hleL (And.left ‹_ ∧ LeTo L a _›) ‹_› | exact pos_front' ‹VsOK L› (And.right ‹_ ∧ LeTo L a _›) ‹L[k]? = some _› ‹_›) ‹_›]; rfl) | (rw [seat_yes ‹VsOK L› ‹_› ‹(freeN L a b 6)[0]? = some _› (by first | exact pos_front (And.right ‹_ ∧ LeTo L a _›) hleL (And.left ‹_ ∧ LeTo L a _›) ‹_› | exact pos_front' ‹VsOK L› (And.right ‹_ ∧ LeTo L a _›) ‹L[k]? = some _› ‹_›) ‹_›]; rfl)
theorem z_c_impl_SeatReader_244 (L : List Visit) (nL : Nat) (hbdL : (nL : Int) ≤ 9223372036854775807) (hleL : nL = L.length) (r : Int) (a : Int) (b : Int) (h5 : VsOK L) (hq9 : L.length ≤ 15) (h14 : (480 ≤ a ∧ a ≤ 1200) ∧ (480 ≤ b ∧ b ≤ 1200) ∧ a < b) (n21 : Nat) (hl26 : n21 = (freeN L a b 6).length) (hl27 : (n21 : Int) ≤ 9223372036854775807) (hq28 : (freeN L a b 6).length ≤ 6) (h29 : ¬ ((n21 : Int) = 0)) (k : Nat) (hi40 : k ≤ nL ∧ LeTo L a k) (h41 : ¬ ((k : Int) < (nL : Int))) (n156 : Nat) (n177 : Nat) (x151 : Int) (hx152 : (freeN L a b 6)[0]? = some x151) (hl162 : n156 = (L).length) (hl163 : (n156 : Int) ≤ 9223372036854775807) (hl186 : n177 = (L.take (k : Int).toNat ++ ([(⟨r, x151, a, b⟩ : Visit)] : List Visit) ++ L.drop (k : Int).toNat).length) (hl187 : (n177 : Int) ≤ 9223372036854775807) (h235 : VsOK (L.take (k : Int).toNat ++ ([(⟨r, x151, a, b⟩ : Visit)] : List Visit) ++ L.drop (k : Int).toNat)) : x151 = (seatR L r a b).elim 0 (·.2) := by
  try simp only [Int.toNat_natCast] at *
  first | (rw [show seatR L r a b = none from by first | exact seat_no (fun h => absurd h.1 ‹_›) | exact seat_no (by omega) | exact seat_full ‹_› ‹_› | exact seat_bad ‹(freeN L a b 6)[0]? = some _› (by first | exact pos_front (And.right ‹_ ∧ LeTo L a _›) hleL (And.left ‹_ ∧ LeTo L a _›) ‹_› | exact pos_front' ‹VsOK L› (And.right ‹_ ∧ LeTo L a _›) ‹L[k]? = some _› ‹_›) ‹_›]; rfl) | (rw [seat_yes ‹VsOK L› ‹_› ‹(freeN L a b 6)[0]? = some _› (by first | exact pos_front (And.right ‹_ ∧ LeTo L a _›) hleL (And.left ‹_ ∧ LeTo L a _›) ‹_› | exact pos_front' ‹VsOK L› (And.right ‹_ ∧ LeTo L a _›) ‹L[k]? = some _› ‹_›) ‹_›]; rfl)
theorem z_c_impl_SeatReader_245 (L : List Visit) (nL : Nat) (hbdL : (nL : Int) ≤ 9223372036854775807) (hleL : nL = L.length) (r : Int) (a : Int) (b : Int) (h5 : VsOK L) (hq9 : L.length ≤ 15) (h14 : (480 ≤ a ∧ a ≤ 1200) ∧ (480 ≤ b ∧ b ≤ 1200) ∧ a < b) (n21 : Nat) (hl26 : n21 = (freeN L a b 6).length) (hl27 : (n21 : Int) ≤ 9223372036854775807) (hq28 : (freeN L a b 6).length ≤ 6) (h29 : ¬ ((n21 : Int) = 0)) (k : Nat) (hi40 : k ≤ nL ∧ LeTo L a k) (h41 : ¬ ((k : Int) < (nL : Int))) (n156 : Nat) (n177 : Nat) (x151 : Int) (hx152 : (freeN L a b 6)[0]? = some x151) (hl162 : n156 = (L).length) (hl163 : (n156 : Int) ≤ 9223372036854775807) (hl186 : n177 = (L.take (k : Int).toNat ++ ([(⟨r, x151, a, b⟩ : Visit)] : List Visit) ++ L.drop (k : Int).toNat).length) (hl187 : (n177 : Int) ≤ 9223372036854775807) (h235 : VsOK (L.take (k : Int).toNat ++ ([(⟨r, x151, a, b⟩ : Visit)] : List Visit) ++ L.drop (k : Int).toNat)) : true = (seatR L r a b).isSome := by
  try simp only [Int.toNat_natCast] at *
  first | (rw [show seatR L r a b = none from by first | exact seat_no (fun h => absurd h.1 ‹_›) | exact seat_no (by omega) | exact seat_full ‹_› ‹_› | exact seat_bad ‹(freeN L a b 6)[0]? = some _› (by first | exact pos_front (And.right ‹_ ∧ LeTo L a _›) hleL (And.left ‹_ ∧ LeTo L a _›) ‹_› | exact pos_front' ‹VsOK L› (And.right ‹_ ∧ LeTo L a _›) ‹L[k]? = some _› ‹_›) ‹_›]; rfl) | (rw [seat_yes ‹VsOK L› ‹_› ‹(freeN L a b 6)[0]? = some _› (by first | exact pos_front (And.right ‹_ ∧ LeTo L a _›) hleL (And.left ‹_ ∧ LeTo L a _›) ‹_› | exact pos_front' ‹VsOK L› (And.right ‹_ ∧ LeTo L a _›) ‹L[k]? = some _› ‹_›) ‹_›]; rfl)
theorem c_impl_SeatReader (w : World) {AL : Option Addr} {nL cL BL : Nat}  (L : List Visit) (hL : SlR w BL encVisit 4 AL nL cL L) (r : Int) (a : Int) (b : Int) : Calls Try.prog 19 #[.slice AL nL cL, .int .i64 r, .int .i64 a, .int .i64 b] w fun e w' => ∃ (A1' : Option Addr) (n1' c1' : Nat), e = .returned (.tuple (List.toArray [.slice A1' n1' c1', .int .i64 ((seatR L r a b).elim 0 (·.2)), .bool ((seatR L r a b).isSome)])) ∧ SlO w' w.heap.size encVisit 4 59 A1' n1' c1' ((seatR L r a b).elim [] (·.1)) ∧ Lo w w' := by
  refine calls_W 64 Try.func19 rfl rfl rfl ?_
  have hbdL := hL.bound
  have hleL := hL.len
  have hBbL := hL.bd
  refine W.seq ?_
  refine W.regS (SR.q' (r_as (v := .slice none 0 0) rfl) <| SR.q' (r_as (v := .int .i64 0) rfl) <| SR.q' (r_as (v := .bool false) rfl) <| SR.nil ?_)
  refine W.seq ?_
  refine W.seq ?_
  refine W.regS (SR.q' (r_mv (v := .slice _ _ _) rfl) <| SR.call ent33 (c_impl_AreVisits w L ((hL))) rfl ?_)
  rintro e w1 ⟨rfl, hk2⟩
  refine ⟨_, rfl, ?_⟩
  have hz3 := hk2.size
  have hB4 := (Lo.refl w).lo hk2
  refine SR.q' (r_not rfl) <| SR.q' (r_mv (v := .bool _) rfl) <| SR.splitN (fun h5 => ?_) (fun h5 => ?_)
  · refine SR.s' rfl <| SR.s' rfl <| SR.s' rfl <| SR.s' rfl <| SR.q' (r_pick true rfl (v := .bool true) rfl) <| SR.nil ?_
    refine W.cond_t rfl ?_
    refine W.seq ?_
    refine W.regS (SR.q' (r_as (v := .slice none 0 0) rfl) <| SR.q' (r_as (v := .int .i64 0) rfl) <| SR.q' (r_as (v := .bool false) rfl) <| SR.nil ?_)
    refine W.ret ?_
    refine ret3 rfl (v := .slice none 0 0) (v' := .int .i64 _) (v'' := .bool _) rfl rfl rfl ?_
    exact ⟨none, 0, 0, eR (eT3 rfl (eI (z_c_impl_SeatReader_7 L nL hbdL hleL r a b h5)) (eB (z_c_impl_SeatReader_8 L nL hbdL hleL r a b h5))), (SlO.eqv (SlO.nil (e := 59) (enc := encVisit) (fun _ => rfl) (by omega)) (z_c_impl_SeatReader_6 L nL hbdL hleL r a b h5)), hB4⟩
  · have hq9 := vs_len h5
    refine SR.g' rfl (r_mv (v := .int .i64 _) rfl) <| SR.g' rfl (r_mv (v := .int .i64 _) rfl) <| SR.gcall rfl ent52 (c_impl_isTime w1 a b) rfl ?_
    rintro e w10 ⟨rfl, hk11⟩
    refine ⟨_, rfl, ?_⟩
    have hz12 := hk11.size
    have hB13 := hB4.lo hk11
    refine SR.g' rfl (r_not rfl) <| SR.q' (r_pick false rfl (v := .bool _) rfl) <| SR.nil ?_
    refine W.cond_n rfl (fun h14 => ?_) (fun h14 => ?_)
    · refine W.seq ?_
      refine W.regS (SR.q' (r_as (v := .slice none 0 0) rfl) <| SR.q' (r_as (v := .int .i64 0) rfl) <| SR.q' (r_as (v := .bool false) rfl) <| SR.nil ?_)
      refine W.ret ?_
      refine ret3 rfl (v := .slice none 0 0) (v' := .int .i64 _) (v'' := .bool _) rfl rfl rfl ?_
      exact ⟨none, 0, 0, eR (eT3 rfl (eI (z_c_impl_SeatReader_16 L nL hbdL hleL r a b h5 hq9 h14)) (eB (z_c_impl_SeatReader_17 L nL hbdL hleL r a b h5 hq9 h14))), (SlO.eqv (SlO.nil (e := 59) (enc := encVisit) (fun _ => rfl) (by omega)) (z_c_impl_SeatReader_15 L nL hbdL hleL r a b h5 hq9 h14)), hB13⟩
    · refine W.skip ?_
      refine W.seq ?_
      refine W.regS (SR.q' (r_mv (v := .slice _ _ _) rfl) <| SR.q' (r_mv (v := .int .i64 _) rfl) <| SR.q' (r_mv (v := .int .i64 _) rfl) <| SR.call ent53 (c_impl_freeSeats w10 L ((((hL).lo hk2).lo hk11)) a b) rfl ?_)
      rintro e w18 ⟨A20, n21, c22, rfl, hO23, hk19⟩
      refine ⟨_, rfl, ?_⟩
      have hz24 := hk19.size
      have hB25 := hB13.lo hk19
      have hl26 := hO23.len
      have hl27 := hO23.rd.bound
      have hq28 := free_len L a b 6
      refine SR.q' (r_as (v := .slice _ _ _) rfl) <| SR.nil ?_
      refine W.seq ?_
      refine W.seq ?_
      refine W.regS (SR.q' (r_mv (v := .slice _ _ _) rfl) <| SR.q' (r_len und39 rfl) <| SR.q' (r_eq rfl rfl) <| SR.nil ?_)
      refine W.cond_d rfl (fun h29 => ?_) (fun h29 => ?_)
      · refine W.seq ?_
        refine W.regS (SR.q' (r_as (v := .slice none 0 0) rfl) <| SR.q' (r_as (v := .int .i64 0) rfl) <| SR.q' (r_as (v := .bool false) rfl) <| SR.nil ?_)
        refine W.ret ?_
        refine ret3 rfl (v := .slice none 0 0) (v' := .int .i64 _) (v'' := .bool _) rfl rfl rfl ?_
        exact ⟨none, 0, 0, eR (eT3 rfl (eI (z_c_impl_SeatReader_31 L nL hbdL hleL r a b h5 hq9 h14 n21 hl26 hl27 hq28 h29)) (eB (z_c_impl_SeatReader_32 L nL hbdL hleL r a b h5 hq9 h14 n21 hl26 hl27 hq28 h29))), (SlO.eqv (SlO.nil (e := 59) (enc := encVisit) (fun _ => rfl) (by omega)) (z_c_impl_SeatReader_30 L nL hbdL hleL r a b h5 hq9 h14 n21 hl26 hl27 hq28 h29)), hB25⟩
      · refine W.skip ?_
        refine W.seq ?_
        refine W.regS (SR.q' (r_as (v := .int .i64 0) rfl) <| SR.nil ?_)
        refine W.seq ?_
        refine W.block ?_
        refine W.loop (σ := Nat) (fun g => [(0, .slice AL nL cL), (1, .int .i64 r), (2, .int .i64 a), (3, .int .i64 b), (8, .slice none 0 0), (9, .int .i64 0), (10, .bool false), (11, .slice A20 n21 c22), (12, .int .i64 (g : Int))]) (fun g w' => (Lo w w') ∧ (SlR w' BL encVisit 4 AL nL cL L) ∧ (SlO w' w10.heap.size encI 1 3 A20 n21 c22 (freeN L a b 6)) ∧ (g ≤ nL ∧ LeTo L a g)) (fun g => nL - g) 0 ?_ ?_ ?_
        · exact ⟨rfl, rfl, rfl, rfl, rfl, rfl, rfl, rfl, (eI (by first | omega | (dsimp only; omega))), trivial⟩
        · exact ⟨hB25, (((hL).lo hk2).lo hk11).lo hk19, hO23, (z_c_impl_SeatReader_33 L nL hbdL hleL r a b h5 hq9 h14 n21 hl26 hl27 hq28 h29)⟩
        · rintro k f34 w35 hP37
          obtain ⟨hB36, hm38, hm39, hi40⟩ : (Lo w w35) ∧ (SlR w35 BL encVisit 4 AL nL cL L) ∧ (SlO w35 w10.heap.size encI 1 3 A20 n21 c22 (freeN L a b 6)) ∧ (k ≤ nL ∧ LeTo L a k) := hP37
          refine (?_ : W _ _ _ _ _ (act _ (sets f34 [(0, .slice AL nL cL), (1, .int .i64 r), (2, .int .i64 a), (3, .int .i64 b), (8, .slice none 0 0), (9, .int .i64 0), (10, .bool false), (11, .slice A20 n21 c22), (12, .int .i64 (k : Int))])) _)
          have hzw35 := hB36.size
          refine W.seq ?_
          refine W.seq ?_
          refine W.regS (SR.q' (r_mv (v := .int .i64 _) rfl) <| SR.q' (r_mv (v := .slice _ _ _) rfl) <| SR.q' (r_len und24 rfl) <| SR.q' (r_lt rfl rfl) <| SR.q' (r_mv (v := .bool _) rfl) <| SR.splitD (fun h41 => ?_) (fun h41 => ?_))
          · refine SR.g' rfl (r_mv (v := .slice _ _ _) rfl) <| SR.g' rfl (r_mv (v := .int .i64 _) rfl) <| ?_
            obtain ⟨x42, hx43⟩ := (hm38).get (i := k) (by omega)
            have hq44 := vs_rng h5 hx43
            refine SR.g' rfl (r_ixR tsl24 (hm38) rfl rfl (by omega)) <| SR.g' rfl (r_fa fa59_2 rfl) <| SR.g' rfl (r_ld (v := .int .i64 x42.From) sca3 rfl ((hm38).cell hx43 rfl)) <| SR.g' rfl (r_mv (v := .int .i64 _) rfl) <| SR.g' rfl (r_le rfl rfl) <| SR.q' (r_pick true rfl (v := .bool _) rfl) <| SR.nil ?_
            refine W.cond_d rfl (fun h45 => ?_) (fun h45 => ?_)
            · refine W.skip ?_
              refine W.block ?_
              refine W.regS (SR.q' (r_mv (v := .int .i64 _) rfl) <| SR.q' (r_add rfl rfl (by omega)) <| SR.q' (r_as (v := .int .i64 _) rfl) <| SR.nil ?_)
              refine ⟨k + 1, _, rfl, ⟨rfl, rfl, rfl, rfl, rfl, rfl, rfl, rfl, (eI (by first | omega | (dsimp only; omega))), trivial⟩, ⟨hB36, hm38, hm39, ?_⟩, ?_⟩
              · exact (z_c_impl_SeatReader_46 L nL hbdL hleL r a b h5 hq9 h14 n21 hl26 hl27 hq28 h29 k hi40 h41 x42 hx43 hq44 h45)
              · exact (z_c_impl_SeatReader_47 L nL hbdL hleL r a b h5 hq9 h14 n21 hl26 hl27 hq28 h29 k hi40 h41 x42 hx43 hq44 h45)
            · refine W.exit (xin_here ?_)
              refine W.seq ?_
              refine W.regA (Lo w35) (fun f' w' => ∃ (A56 : Option Addr), ∃ (n57 : Nat), ∃ (c58 : Nat), ∃ (g65 : Nat), ∃ (A77 : Option Addr), ∃ (n78 : Nat), ∃ (c79 : Nat), ∃ (x52 : Int), At f' [(8, .slice none 0 0), (9, .int .i64 0), (10, .bool false), (11, .slice A20 n21 c22), (13, .slice A77 n78 c79)] ∧ (Lo w35 w') ∧ (SlO w' w35.heap.size encVisit 4 59 A77 n78 c79 (L.take (k : Int).toNat ++ ([(⟨r, x52, a, b⟩ : Visit)] : List Visit) ++ L.drop (k : Int).toNat)) ∧ (∀ b_, A77 = some ⟨b_, 0, none⟩ → ¬ A20 = some ⟨b_, 0, none⟩) ∧ ((freeN L a b 6)[0]? = some x52) ∧ (n57 = (L).length) ∧ ((n57 : Int) ≤ 9223372036854775807) ∧ (n78 = (L.take (k : Int).toNat ++ ([(⟨r, x52, a, b⟩ : Visit)] : List Visit) ++ L.drop (k : Int).toNat).length) ∧ ((n78 : Int) ≤ 9223372036854775807)) mo ?_ ?_
              · intro w48 hk49
                have hz50 := hk49.size
                have hB51 := hB36.lo hk49
                refine AH.take 0 rfl (by kernel_rfl) trivial (hk49) (fun w' hw' => r_mv (v := .slice _ _ _) rfl) <| AH.take 2 rfl (by kernel_rfl) trivial (hk49) (fun w' hw' => r_mv (v := .int .i64 _) rfl) <| AH.take 3 rfl (by kernel_rfl) trivial (hk49) (fun w' hw' => r_mv (v := .int .i64 _) rfl) <| AH.take 4 rfl (by kernel_rfl) trivial (hk49) (fun w' hw' => r_mv (v := .slice _ _ _) rfl) <| ?_
                obtain ⟨x52, hx53⟩ := (((hm39).lo hk49).rd).get (i := 0) (by omega)
                refine AH.take 5 rfl (by kernel_rfl) trivial (hk49) (fun w' hw' => r_ixR tsl39 (((hm39).lo hw').rd) rfl rfl (by omega)) <| AH.take 6 rfl (by kernel_rfl) trivial (hk49) (fun w' hw' => r_ld (v := .int .i64 x52) sca3 rfl ((((hm39).lo hw').rd).cell0 hx53 rfl)) <| AH.take 7 rfl (by kernel_rfl) trivial (hk49) (fun w' hw' => r_mv (v := .int .i64 _) rfl) <| AH.take 8 rfl (by kernel_rfl) trivial (hk49) (fun w' hw' => r_mv (v := .int .i64 _) rfl) <| AH.take 9 rfl (by kernel_rfl) trivial (hk49) (fun w' hw' => r_build (vs := [(0, .int .i64 r), (1, .int .i64 x52), (2, .int .i64 a), (3, .int .i64 b)]) rfl (bld59_0_1_2_3 _ _ _ _)) <| AH.br [1, 10] (by kernel_rfl) rfl ⟨Br.mk' rfl trivial ?_, Br.mk' rfl trivial ?_, trivial⟩
                · refine SR.call ent47 (c_slices_Clone___impl_Visit_impl_Visit_ w48 L (((hm38).lo hk49)) (by omega)) rfl ?_
                  rintro e w54 ⟨A56, n57, c58, rfl, hO59, hk55⟩
                  refine ⟨_, rfl, ?_⟩
                  have hz60 := hk55.size
                  have hB61 := hB51.lo hk55
                  have hS62 := (hk49).lo hk55
                  have hl63 := hO59.len
                  have hl64 := hO59.rd.bound
                  refine SR.nil ⟨hS62, _, rfl, ?_⟩
                  refine AH.br [10] (by kernel_rfl) rfl ⟨Br.mk' rfl trivial ?_, trivial⟩
                  refine SR.lit (vs := [.agg (List.toArray [.int .i64 r, .int .i64 x52, .int .i64 a, .int .i64 b])]) (L := ([(⟨r, x52, a, b⟩ : Visit)] : List Visit)) (enc := encVisit) tel24 (fun _ => rfl) rfl rfl rfl (by decide) ?_
                  intro g65 w66 hg67 hk68 hO69
                  have hz70 := hk68.size
                  have hB71 := hB61.lo hk68
                  have hS72 := (hS62).lo hk68
                  have hd73 : ¬ A20 = some ⟨g65, 0, none⟩ := fun e' => by have := (((hm39).lo hk49).lo hk55).base_le e'; omega
                  have hd74 : ¬ A56 = some ⟨g65, 0, none⟩ := fun e' => by have := (hO59).base_le e'; omega
                  refine SR.nil ⟨hS72, _, rfl, ?_⟩
                  refine AH.br [11] (by kernel_rfl) rfl ⟨Br.mk' rfl trivial ?_, trivial⟩
                  refine SR.call ent54 (c_slices_Insert___impl_Visit_impl_Visit_ w66 L ((hO59).lo hk68) (k : Int) ([(⟨r, x52, a, b⟩ : Visit)] : List Visit) (hO69) (by omega) (by omega) (by omega) (fun b_ h h' => hd74 (h'.trans h.symm))) rfl ?_
                  rintro e w75 ⟨A77, n78, c79, rfl, hO80, hN81, hk76⟩
                  refine ⟨_, rfl, ?_⟩
                  have hz82 := hk76.size
                  have hB83 := hB71.step hk76 (fun i_ hi_ e' => by have := (((hO59).lo hk68)).base_le e'; first | omega | (exfalso; omega) | exact e' | exact .inl e' | exact .inr e')
                  have hS84 := (hS72).step hk76 (fun i_ hi_ e' => by have := (((hO59).lo hk68)).base_le e'; exfalso; omega)
                  have hd85 : ∀ b_, A77 = some ⟨b_, 0, none⟩ → ¬ A20 = some ⟨b_, 0, none⟩ := fun b_ e' h' => (hN81 b_ e').elim (fun h => (fun b_ h h' => by have h1 := ((hO59).lo hk68).base_le h; have h2 := ((hm39).lo hk49).base_le h'; omega) b_ h h') (fun h => by have := ((((hm39).lo hk49).lo hk55).lo hk68).base_le h'; omega)
                  have hd86 : ∀ b_, A77 = some ⟨b_, 0, none⟩ → ¬ (some (⟨g65, 0, none⟩ : Addr)) = some ⟨b_, 0, none⟩ := fun b_ e' h' => (hN81 b_ e').elim (fun h => (fun b_ h h' => hd74 (h.trans h'.symm)) b_ h h') (fun h => by have := (hO69).base_le h'; omega)
                  have hl87 := hO80.len
                  have hl88 := hO80.rd.bound
                  refine SR.nil ⟨hS84, _, rfl, ?_⟩
                  refine AH.take 12 rfl (by kernel_rfl) trivial (hS84) (fun w' hw' => r_as (v := .slice _ _ _) rfl) <| AH.done (by kernel_rfl) ?_
                  exact ⟨A56, n57, c58, g65, A77, n78, c79, x52, ⟨rfl, rfl, rfl, rfl, rfl, trivial⟩, hS84, ((hO80).down (by omega)), hd85, hx53, hl63, hl64, hl87, hl88⟩
                · refine SR.lit (vs := [.agg (List.toArray [.int .i64 r, .int .i64 x52, .int .i64 a, .int .i64 b])]) (L := ([(⟨r, x52, a, b⟩ : Visit)] : List Visit)) (enc := encVisit) tel24 (fun _ => rfl) rfl rfl rfl (by decide) ?_
                  intro g91 w92 hg93 hk94 hO95
                  have hz96 := hk94.size
                  have hB97 := hB51.lo hk94
                  have hS98 := (hk49).lo hk94
                  have hd99 : ¬ A20 = some ⟨g91, 0, none⟩ := fun e' => by have := ((hm39).lo hk49).base_le e'; omega
                  refine SR.nil ⟨hS98, _, rfl, ?_⟩
                  refine AH.br [1] (by kernel_rfl) rfl ⟨Br.mk' rfl trivial ?_, trivial⟩
                  refine SR.call ent47 (c_slices_Clone___impl_Visit_impl_Visit_ w92 L ((((hm38).lo hk49).lo hk94)) (by omega)) rfl ?_
                  rintro e w100 ⟨A102, n103, c104, rfl, hO105, hk101⟩
                  refine ⟨_, rfl, ?_⟩
                  have hz106 := hk101.size
                  have hB107 := hB97.lo hk101
                  have hS108 := (hS98).lo hk101
                  have hl109 := hO105.len
                  have hl110 := hO105.rd.bound
                  refine SR.nil ⟨hS108, _, rfl, ?_⟩
                  refine AH.br [11] (by kernel_rfl) rfl ⟨Br.mk' rfl trivial ?_, trivial⟩
                  refine SR.call ent54 (c_slices_Insert___impl_Visit_impl_Visit_ w100 L (hO105) (k : Int) ([(⟨r, x52, a, b⟩ : Visit)] : List Visit) ((hO95).lo hk101) (by omega) (by omega) (by omega) (fun b_ h h' => by have h1 := (hO95).base_le h; have h2 := (hO105).base_le h'; omega)) rfl ?_
                  rintro e w111 ⟨A113, n114, c115, rfl, hO116, hN117, hk112⟩
                  refine ⟨_, rfl, ?_⟩
                  have hz118 := hk112.size
                  have hB119 := hB107.step hk112 (fun i_ hi_ e' => by have := ((hO105)).base_le e'; first | omega | (exfalso; omega) | exact e' | exact .inl e' | exact .inr e')
                  have hS120 := (hS108).step hk112 (fun i_ hi_ e' => by have := ((hO105)).base_le e'; exfalso; omega)
                  have hd121 : ∀ b_, A113 = some ⟨b_, 0, none⟩ → ¬ A20 = some ⟨b_, 0, none⟩ := fun b_ e' h' => (hN117 b_ e').elim (fun h => (fun b_ h h' => by have h1 := (hO105).base_le h; have h2 := (((hm39).lo hk49).lo hk94).base_le h'; omega) b_ h h') (fun h => by have := ((((hm39).lo hk49).lo hk94).lo hk101).base_le h'; omega)
                  have hd122 : ∀ b_, A113 = some ⟨b_, 0, none⟩ → ¬ (some (⟨g91, 0, none⟩ : Addr)) = some ⟨b_, 0, none⟩ := fun b_ e' h' => (hN117 b_ e').elim (fun h => (fun b_ h h' => by have h1 := (hO105).base_le h; have h2 := (hO95).base_le h'; omega) b_ h h') (fun h => by have := ((hO95).lo hk101).base_le h'; omega)
                  have hl123 := hO116.len
                  have hl124 := hO116.rd.bound
                  refine SR.nil ⟨hS120, _, rfl, ?_⟩
                  refine AH.take 12 rfl (by kernel_rfl) trivial (hS120) (fun w' hw' => r_as (v := .slice _ _ _) rfl) <| AH.done (by kernel_rfl) ?_
                  exact ⟨A102, n103, c104, g91, A113, n114, c115, x52, ⟨rfl, rfl, rfl, rfl, rfl, trivial⟩, hS120, ((hO116).down (by omega)), hd121, hx53, hl109, hl110, hl123, hl124⟩
              rintro f126 w127 ⟨A56, n57, c58, g65, A77, n78, c79, x52, hat129, hR128, hm89, hd90, hx53, hl63, hl64, hl87, hl88⟩
              rw [← sets_of_at hat129]
              have hz130 := hR128.size
              have hB131 := hB36.lo hR128
              refine W.seq ?_
              refine W.seq ?_
              refine W.regS (SR.q' (r_mv (v := .slice _ _ _) rfl) <| SR.call ent33 (c_impl_AreVisits w127 (L.take (k : Int).toNat ++ ([(⟨r, x52, a, b⟩ : Visit)] : List Visit) ++ L.drop (k : Int).toNat) (((hm89).rd))) rfl ?_)
              rintro e w132 ⟨rfl, hk133⟩
              refine ⟨_, rfl, ?_⟩
              have hz134 := hk133.size
              have hB135 := hB131.lo hk133
              refine SR.q' (r_not rfl) <| SR.nil ?_
              refine W.cond_n rfl (fun h136 => ?_) (fun h136 => ?_)
              · refine W.seq ?_
                refine W.regS (SR.q' (r_as (v := .slice none 0 0) rfl) <| SR.q' (r_as (v := .int .i64 0) rfl) <| SR.q' (r_as (v := .bool false) rfl) <| SR.nil ?_)
                refine W.ret ?_
                refine ret3 rfl (v := .slice none 0 0) (v' := .int .i64 _) (v'' := .bool _) rfl rfl rfl ?_
                exact ⟨none, 0, 0, eR (eT3 rfl (eI (z_c_impl_SeatReader_138 L nL hbdL hleL r a b h5 hq9 h14 n21 hl26 hl27 hq28 h29 k hi40 h41 x42 hx43 hq44 h45 n57 n78 x52 hx53 hl63 hl64 hl87 hl88 h136)) (eB (z_c_impl_SeatReader_139 L nL hbdL hleL r a b h5 hq9 h14 n21 hl26 hl27 hq28 h29 k hi40 h41 x42 hx43 hq44 h45 n57 n78 x52 hx53 hl63 hl64 hl87 hl88 h136))), (SlO.eqv (SlO.nil (e := 59) (enc := encVisit) (fun _ => rfl) (by omega)) (z_c_impl_SeatReader_137 L nL hbdL hleL r a b h5 hq9 h14 n21 hl26 hl27 hq28 h29 k hi40 h41 x42 hx43 hq44 h45 n57 n78 x52 hx53 hl63 hl64 hl87 hl88 h136)), hB135⟩
              · refine W.skip ?_
                refine W.seq ?_
                refine W.regD mo (by kernel_rfl) (QR.q' (fun w' hw' => r_mv (v := .slice _ _ _) rfl) <| QR.q' (fun w' hw' => r_mv (v := .slice _ _ _) rfl) <| QR.q' (fun w' hw' => r_ixR tsl39 (((((hm39).lo hR128).lo hk133).lo hw').rd) rfl rfl (by omega)) <| QR.q' (fun w' hw' => r_ld (v := .int .i64 x52) sca3 rfl ((((((hm39).lo hR128).lo hk133).lo hw').rd).cell0 hx53 rfl)) <| QR.q' (fun w' hw' => r_as (v := .slice _ _ _) rfl) <| QR.q' (fun w' hw' => r_as (v := .int .i64 _) rfl) <| QR.q' (fun w' hw' => r_as (v := .bool true) rfl) <| QR.nil ?_)
                intro w140 hk141
                have hz142 := hk141.size
                have hB143 := hB135.lo hk141
                refine W.ret ?_
                refine ret3 rfl (v := .slice _ _ _) (v' := .int .i64 _) (v'' := .bool _) rfl rfl rfl ?_
                exact ⟨A77, n78, c79, eR (eT3 rfl (eI (z_c_impl_SeatReader_145 L nL hbdL hleL r a b h5 hq9 h14 n21 hl26 hl27 hq28 h29 k hi40 h41 x42 hx43 hq44 h45 n57 n78 x52 hx53 hl63 hl64 hl87 hl88 h136)) (eB (z_c_impl_SeatReader_146 L nL hbdL hleL r a b h5 hq9 h14 n21 hl26 hl27 hq28 h29 k hi40 h41 x42 hx43 hq44 h45 n57 n78 x52 hx53 hl63 hl64 hl87 hl88 h136))), (SlO.eqv ((((hm89).lo hk133).lo hk141).down (by omega)) (z_c_impl_SeatReader_144 L nL hbdL hleL r a b h5 hq9 h14 n21 hl26 hl27 hq28 h29 k hi40 h41 x42 hx43 hq44 h45 n57 n78 x52 hx53 hl63 hl64 hl87 hl88 h136)), hB143⟩
          · refine SR.s' rfl <| SR.s' rfl <| SR.s' rfl <| SR.s' rfl <| SR.s' rfl <| SR.s' rfl <| SR.s' rfl <| SR.q' (r_pick false rfl (v := .bool false) rfl) <| SR.nil ?_
            refine W.cond_f rfl ?_
            refine W.exit (xin_here ?_)
            refine W.seq ?_
            refine W.regA (Lo w35) (fun f' w' => ∃ (A155 : Option Addr), ∃ (n156 : Nat), ∃ (c157 : Nat), ∃ (g164 : Nat), ∃ (A176 : Option Addr), ∃ (n177 : Nat), ∃ (c178 : Nat), ∃ (x151 : Int), At f' [(8, .slice none 0 0), (9, .int .i64 0), (10, .bool false), (11, .slice A20 n21 c22), (13, .slice A176 n177 c178)] ∧ (Lo w35 w') ∧ (SlO w' w35.heap.size encVisit 4 59 A176 n177 c178 (L.take (k : Int).toNat ++ ([(⟨r, x151, a, b⟩ : Visit)] : List Visit) ++ L.drop (k : Int).toNat)) ∧ (∀ b_, A176 = some ⟨b_, 0, none⟩ → ¬ A20 = some ⟨b_, 0, none⟩) ∧ ((freeN L a b 6)[0]? = some x151) ∧ (n156 = (L).length) ∧ ((n156 : Int) ≤ 9223372036854775807) ∧ (n177 = (L.take (k : Int).toNat ++ ([(⟨r, x151, a, b⟩ : Visit)] : List Visit) ++ L.drop (k : Int).toNat).length) ∧ ((n177 : Int) ≤ 9223372036854775807)) mo ?_ ?_
            · intro w147 hk148
              have hz149 := hk148.size
              have hB150 := hB36.lo hk148
              refine AH.take 0 rfl (by kernel_rfl) trivial (hk148) (fun w' hw' => r_mv (v := .slice _ _ _) rfl) <| AH.take 2 rfl (by kernel_rfl) trivial (hk148) (fun w' hw' => r_mv (v := .int .i64 _) rfl) <| AH.take 3 rfl (by kernel_rfl) trivial (hk148) (fun w' hw' => r_mv (v := .int .i64 _) rfl) <| AH.take 4 rfl (by kernel_rfl) trivial (hk148) (fun w' hw' => r_mv (v := .slice _ _ _) rfl) <| ?_
              obtain ⟨x151, hx152⟩ := (((hm39).lo hk148).rd).get (i := 0) (by omega)
              refine AH.take 5 rfl (by kernel_rfl) trivial (hk148) (fun w' hw' => r_ixR tsl39 (((hm39).lo hw').rd) rfl rfl (by omega)) <| AH.take 6 rfl (by kernel_rfl) trivial (hk148) (fun w' hw' => r_ld (v := .int .i64 x151) sca3 rfl ((((hm39).lo hw').rd).cell0 hx152 rfl)) <| AH.take 7 rfl (by kernel_rfl) trivial (hk148) (fun w' hw' => r_mv (v := .int .i64 _) rfl) <| AH.take 8 rfl (by kernel_rfl) trivial (hk148) (fun w' hw' => r_mv (v := .int .i64 _) rfl) <| AH.take 9 rfl (by kernel_rfl) trivial (hk148) (fun w' hw' => r_build (vs := [(0, .int .i64 r), (1, .int .i64 x151), (2, .int .i64 a), (3, .int .i64 b)]) rfl (bld59_0_1_2_3 _ _ _ _)) <| AH.br [1, 10] (by kernel_rfl) rfl ⟨Br.mk' rfl trivial ?_, Br.mk' rfl trivial ?_, trivial⟩
              · refine SR.call ent47 (c_slices_Clone___impl_Visit_impl_Visit_ w147 L (((hm38).lo hk148)) (by omega)) rfl ?_
                rintro e w153 ⟨A155, n156, c157, rfl, hO158, hk154⟩
                refine ⟨_, rfl, ?_⟩
                have hz159 := hk154.size
                have hB160 := hB150.lo hk154
                have hS161 := (hk148).lo hk154
                have hl162 := hO158.len
                have hl163 := hO158.rd.bound
                refine SR.nil ⟨hS161, _, rfl, ?_⟩
                refine AH.br [10] (by kernel_rfl) rfl ⟨Br.mk' rfl trivial ?_, trivial⟩
                refine SR.lit (vs := [.agg (List.toArray [.int .i64 r, .int .i64 x151, .int .i64 a, .int .i64 b])]) (L := ([(⟨r, x151, a, b⟩ : Visit)] : List Visit)) (enc := encVisit) tel24 (fun _ => rfl) rfl rfl rfl (by decide) ?_
                intro g164 w165 hg166 hk167 hO168
                have hz169 := hk167.size
                have hB170 := hB160.lo hk167
                have hS171 := (hS161).lo hk167
                have hd172 : ¬ A20 = some ⟨g164, 0, none⟩ := fun e' => by have := (((hm39).lo hk148).lo hk154).base_le e'; omega
                have hd173 : ¬ A155 = some ⟨g164, 0, none⟩ := fun e' => by have := (hO158).base_le e'; omega
                refine SR.nil ⟨hS171, _, rfl, ?_⟩
                refine AH.br [11] (by kernel_rfl) rfl ⟨Br.mk' rfl trivial ?_, trivial⟩
                refine SR.call ent54 (c_slices_Insert___impl_Visit_impl_Visit_ w165 L ((hO158).lo hk167) (k : Int) ([(⟨r, x151, a, b⟩ : Visit)] : List Visit) (hO168) (by omega) (by omega) (by omega) (fun b_ h h' => hd173 (h'.trans h.symm))) rfl ?_
                rintro e w174 ⟨A176, n177, c178, rfl, hO179, hN180, hk175⟩
                refine ⟨_, rfl, ?_⟩
                have hz181 := hk175.size
                have hB182 := hB170.step hk175 (fun i_ hi_ e' => by have := (((hO158).lo hk167)).base_le e'; first | omega | (exfalso; omega) | exact e' | exact .inl e' | exact .inr e')
                have hS183 := (hS171).step hk175 (fun i_ hi_ e' => by have := (((hO158).lo hk167)).base_le e'; exfalso; omega)
                have hd184 : ∀ b_, A176 = some ⟨b_, 0, none⟩ → ¬ A20 = some ⟨b_, 0, none⟩ := fun b_ e' h' => (hN180 b_ e').elim (fun h => (fun b_ h h' => by have h1 := ((hO158).lo hk167).base_le h; have h2 := ((hm39).lo hk148).base_le h'; omega) b_ h h') (fun h => by have := ((((hm39).lo hk148).lo hk154).lo hk167).base_le h'; omega)
                have hd185 : ∀ b_, A176 = some ⟨b_, 0, none⟩ → ¬ (some (⟨g164, 0, none⟩ : Addr)) = some ⟨b_, 0, none⟩ := fun b_ e' h' => (hN180 b_ e').elim (fun h => (fun b_ h h' => hd173 (h.trans h'.symm)) b_ h h') (fun h => by have := (hO168).base_le h'; omega)
                have hl186 := hO179.len
                have hl187 := hO179.rd.bound
                refine SR.nil ⟨hS183, _, rfl, ?_⟩
                refine AH.take 12 rfl (by kernel_rfl) trivial (hS183) (fun w' hw' => r_as (v := .slice _ _ _) rfl) <| AH.done (by kernel_rfl) ?_
                exact ⟨A155, n156, c157, g164, A176, n177, c178, x151, ⟨rfl, rfl, rfl, rfl, rfl, trivial⟩, hS183, ((hO179).down (by omega)), hd184, hx152, hl162, hl163, hl186, hl187⟩
              · refine SR.lit (vs := [.agg (List.toArray [.int .i64 r, .int .i64 x151, .int .i64 a, .int .i64 b])]) (L := ([(⟨r, x151, a, b⟩ : Visit)] : List Visit)) (enc := encVisit) tel24 (fun _ => rfl) rfl rfl rfl (by decide) ?_
                intro g190 w191 hg192 hk193 hO194
                have hz195 := hk193.size
                have hB196 := hB150.lo hk193
                have hS197 := (hk148).lo hk193
                have hd198 : ¬ A20 = some ⟨g190, 0, none⟩ := fun e' => by have := ((hm39).lo hk148).base_le e'; omega
                refine SR.nil ⟨hS197, _, rfl, ?_⟩
                refine AH.br [1] (by kernel_rfl) rfl ⟨Br.mk' rfl trivial ?_, trivial⟩
                refine SR.call ent47 (c_slices_Clone___impl_Visit_impl_Visit_ w191 L ((((hm38).lo hk148).lo hk193)) (by omega)) rfl ?_
                rintro e w199 ⟨A201, n202, c203, rfl, hO204, hk200⟩
                refine ⟨_, rfl, ?_⟩
                have hz205 := hk200.size
                have hB206 := hB196.lo hk200
                have hS207 := (hS197).lo hk200
                have hl208 := hO204.len
                have hl209 := hO204.rd.bound
                refine SR.nil ⟨hS207, _, rfl, ?_⟩
                refine AH.br [11] (by kernel_rfl) rfl ⟨Br.mk' rfl trivial ?_, trivial⟩
                refine SR.call ent54 (c_slices_Insert___impl_Visit_impl_Visit_ w199 L (hO204) (k : Int) ([(⟨r, x151, a, b⟩ : Visit)] : List Visit) ((hO194).lo hk200) (by omega) (by omega) (by omega) (fun b_ h h' => by have h1 := (hO194).base_le h; have h2 := (hO204).base_le h'; omega)) rfl ?_
                rintro e w210 ⟨A212, n213, c214, rfl, hO215, hN216, hk211⟩
                refine ⟨_, rfl, ?_⟩
                have hz217 := hk211.size
                have hB218 := hB206.step hk211 (fun i_ hi_ e' => by have := ((hO204)).base_le e'; first | omega | (exfalso; omega) | exact e' | exact .inl e' | exact .inr e')
                have hS219 := (hS207).step hk211 (fun i_ hi_ e' => by have := ((hO204)).base_le e'; exfalso; omega)
                have hd220 : ∀ b_, A212 = some ⟨b_, 0, none⟩ → ¬ A20 = some ⟨b_, 0, none⟩ := fun b_ e' h' => (hN216 b_ e').elim (fun h => (fun b_ h h' => by have h1 := (hO204).base_le h; have h2 := (((hm39).lo hk148).lo hk193).base_le h'; omega) b_ h h') (fun h => by have := ((((hm39).lo hk148).lo hk193).lo hk200).base_le h'; omega)
                have hd221 : ∀ b_, A212 = some ⟨b_, 0, none⟩ → ¬ (some (⟨g190, 0, none⟩ : Addr)) = some ⟨b_, 0, none⟩ := fun b_ e' h' => (hN216 b_ e').elim (fun h => (fun b_ h h' => by have h1 := (hO204).base_le h; have h2 := (hO194).base_le h'; omega) b_ h h') (fun h => by have := ((hO194).lo hk200).base_le h'; omega)
                have hl222 := hO215.len
                have hl223 := hO215.rd.bound
                refine SR.nil ⟨hS219, _, rfl, ?_⟩
                refine AH.take 12 rfl (by kernel_rfl) trivial (hS219) (fun w' hw' => r_as (v := .slice _ _ _) rfl) <| AH.done (by kernel_rfl) ?_
                exact ⟨A201, n202, c203, g190, A212, n213, c214, x151, ⟨rfl, rfl, rfl, rfl, rfl, trivial⟩, hS219, ((hO215).down (by omega)), hd220, hx152, hl208, hl209, hl222, hl223⟩
            rintro f225 w226 ⟨A155, n156, c157, g164, A176, n177, c178, x151, hat228, hR227, hm188, hd189, hx152, hl162, hl163, hl186, hl187⟩
            rw [← sets_of_at hat228]
            have hz229 := hR227.size
            have hB230 := hB36.lo hR227
            refine W.seq ?_
            refine W.seq ?_
            refine W.regS (SR.q' (r_mv (v := .slice _ _ _) rfl) <| SR.call ent33 (c_impl_AreVisits w226 (L.take (k : Int).toNat ++ ([(⟨r, x151, a, b⟩ : Visit)] : List Visit) ++ L.drop (k : Int).toNat) (((hm188).rd))) rfl ?_)
            rintro e w231 ⟨rfl, hk232⟩
            refine ⟨_, rfl, ?_⟩
            have hz233 := hk232.size
            have hB234 := hB230.lo hk232
            refine SR.q' (r_not rfl) <| SR.nil ?_
            refine W.cond_n rfl (fun h235 => ?_) (fun h235 => ?_)
            · refine W.seq ?_
              refine W.regS (SR.q' (r_as (v := .slice none 0 0) rfl) <| SR.q' (r_as (v := .int .i64 0) rfl) <| SR.q' (r_as (v := .bool false) rfl) <| SR.nil ?_)
              refine W.ret ?_
              refine ret3 rfl (v := .slice none 0 0) (v' := .int .i64 _) (v'' := .bool _) rfl rfl rfl ?_
              exact ⟨none, 0, 0, eR (eT3 rfl (eI (z_c_impl_SeatReader_237 L nL hbdL hleL r a b h5 hq9 h14 n21 hl26 hl27 hq28 h29 k hi40 h41 n156 n177 x151 hx152 hl162 hl163 hl186 hl187 h235)) (eB (z_c_impl_SeatReader_238 L nL hbdL hleL r a b h5 hq9 h14 n21 hl26 hl27 hq28 h29 k hi40 h41 n156 n177 x151 hx152 hl162 hl163 hl186 hl187 h235))), (SlO.eqv (SlO.nil (e := 59) (enc := encVisit) (fun _ => rfl) (by omega)) (z_c_impl_SeatReader_236 L nL hbdL hleL r a b h5 hq9 h14 n21 hl26 hl27 hq28 h29 k hi40 h41 n156 n177 x151 hx152 hl162 hl163 hl186 hl187 h235)), hB234⟩
            · refine W.skip ?_
              refine W.seq ?_
              refine W.regD mo (by kernel_rfl) (QR.q' (fun w' hw' => r_mv (v := .slice _ _ _) rfl) <| QR.q' (fun w' hw' => r_mv (v := .slice _ _ _) rfl) <| QR.q' (fun w' hw' => r_ixR tsl39 (((((hm39).lo hR227).lo hk232).lo hw').rd) rfl rfl (by omega)) <| QR.q' (fun w' hw' => r_ld (v := .int .i64 x151) sca3 rfl ((((((hm39).lo hR227).lo hk232).lo hw').rd).cell0 hx152 rfl)) <| QR.q' (fun w' hw' => r_as (v := .slice _ _ _) rfl) <| QR.q' (fun w' hw' => r_as (v := .int .i64 _) rfl) <| QR.q' (fun w' hw' => r_as (v := .bool true) rfl) <| QR.nil ?_)
              intro w239 hk240
              have hz241 := hk240.size
              have hB242 := hB234.lo hk240
              refine W.ret ?_
              refine ret3 rfl (v := .slice _ _ _) (v' := .int .i64 _) (v'' := .bool _) rfl rfl rfl ?_
              exact ⟨A176, n177, c178, eR (eT3 rfl (eI (z_c_impl_SeatReader_244 L nL hbdL hleL r a b h5 hq9 h14 n21 hl26 hl27 hq28 h29 k hi40 h41 n156 n177 x151 hx152 hl162 hl163 hl186 hl187 h235)) (eB (z_c_impl_SeatReader_245 L nL hbdL hleL r a b h5 hq9 h14 n21 hl26 hl27 hq28 h29 k hi40 h41 n156 n177 x151 hx152 hl162 hl163 hl186 hl187 h235))), (SlO.eqv ((((hm188).lo hk232).lo hk240).down (by omega)) (z_c_impl_SeatReader_243 L nL hbdL hleL r a b h5 hq9 h14 n21 hl26 hl27 hq28 h29 k hi40 h41 n156 n177 x151 hx152 hl162 hl163 hl186 hl187 h235)), hB242⟩
end Go.Proofs.Ythgbcadgnihdiaa
