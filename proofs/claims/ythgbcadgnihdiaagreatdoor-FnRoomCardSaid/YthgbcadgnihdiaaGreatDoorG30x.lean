/- Walks, printed by a program of this claim's author. -/
import Derived.Test.YthgbcadgnihdiaaGreatDoorChecked
import Derived.Test.YthgbcadgnihdiaaGreatDoorRa
import Derived.Test.YthgbcadgnihdiaaGreatDoorFu
import Derived.Test.YthgbcadgnihdiaaGreatDoorFo
import Derived.Test.YthgbcadgnihdiaaGreatDoorFp
import Derived.Test.YthgbcadgnihdiaaGreatDoorFt
import Derived.Test.YthgbcadgnihdiaaGreatDoorRc
import Derived.Test.YthgbcadgnihdiaaGreatDoorG30v
namespace Go.Proofs.YthgbcadgnihdiaaGreatDoor
open Go Go.RowKit Fw
set_option maxRecDepth 10000
set_option linter.unusedVariables false
theorem ent42 : Ent Tryz.prog 42 := ent_of Tryz.func42 (by decide +kernel) rfl

theorem z_c_impl_FreeSeats_6 (L : List Visit) (nL : Nat) (hbdL : (nL : Int) ≤ 9223372036854775807) (hleL : nL = L.length) (a : Int) (b : Int) (h5 : ¬ (VsOK L)) : ([] : List Int) = freeF L a b := by
  unfold freeF; first | (rw [if_neg (by intro hh; first | (rcases ‹_ ∨ _› with h | h; exact h hh.1; exact h hh.2) | omega)]; done) | (rw [if_pos ⟨‹_›, by omega⟩]; done) | (rw [if_neg (by intro hh; simp_all)]; done)
theorem z_c_impl_FreeSeats_7 (L : List Visit) (nL : Nat) (hbdL : (nL : Int) ≤ 9223372036854775807) (hleL : nL = L.length) (a : Int) (b : Int) (h5 : ¬ (VsOK L)) : ¬ (VsOK L ∧ (480 ≤ a ∧ a ≤ 1200) ∧ (480 ≤ b ∧ b ≤ 1200) ∧ a < b) := by
  first | (simp_all; done) | (intro hh; rcases ‹_ ∨ _› with h | h; exact h hh.1; exact h hh.2)
theorem z_c_impl_FreeSeats_14 (L : List Visit) (nL : Nat) (hbdL : (nL : Int) ≤ 9223372036854775807) (hleL : nL = L.length) (a : Int) (b : Int) (h5 : VsOK L) (hq8 : L.length ≤ 15) (h13 : ¬ ((480 ≤ a ∧ a ≤ 1200) ∧ (480 ≤ b ∧ b ≤ 1200) ∧ a < b)) : ([] : List Int) = freeF L a b := by
  unfold freeF; first | (rw [if_neg (by intro hh; first | (rcases ‹_ ∨ _› with h | h; exact h hh.1; exact h hh.2) | omega)]; done) | (rw [if_pos ⟨‹_›, by omega⟩]; done) | (rw [if_neg (by intro hh; simp_all)]; done)
theorem z_c_impl_FreeSeats_15 (L : List Visit) (nL : Nat) (hbdL : (nL : Int) ≤ 9223372036854775807) (hleL : nL = L.length) (a : Int) (b : Int) (h5 : VsOK L) (hq8 : L.length ≤ 15) (h13 : ¬ ((480 ≤ a ∧ a ≤ 1200) ∧ (480 ≤ b ∧ b ≤ 1200) ∧ a < b)) : ¬ (VsOK L ∧ (480 ≤ a ∧ a ≤ 1200) ∧ (480 ≤ b ∧ b ≤ 1200) ∧ a < b) := by
  first | (simp_all; done) | (intro hh; rcases ‹_ ∨ _› with h | h; exact h hh.1; exact h hh.2)
theorem z_c_impl_FreeSeats_27 (L : List Visit) (nL : Nat) (hbdL : (nL : Int) ≤ 9223372036854775807) (hleL : nL = L.length) (a : Int) (b : Int) (h5 : VsOK L) (hq8 : L.length ≤ 15) (h13 : (480 ≤ a ∧ a ≤ 1200) ∧ (480 ≤ b ∧ b ≤ 1200) ∧ a < b) (n19 : Nat) (hl24 : n19 = (freeN L a b 6).length) (hl25 : (n19 : Int) ≤ 9223372036854775807) (hq26 : (freeN L a b 6).length ≤ 6) : freeN L a b 6 = freeF L a b := by
  unfold freeF; first | (rw [if_neg (by intro hh; first | (rcases ‹_ ∨ _› with h | h; exact h hh.1; exact h hh.2) | omega)]; done) | (rw [if_pos ⟨‹_›, by omega⟩]; done) | (rw [if_neg (by intro hh; simp_all)]; done)
theorem z_c_impl_FreeSeats_28 (L : List Visit) (nL : Nat) (hbdL : (nL : Int) ≤ 9223372036854775807) (hleL : nL = L.length) (a : Int) (b : Int) (h5 : VsOK L) (hq8 : L.length ≤ 15) (h13 : (480 ≤ a ∧ a ≤ 1200) ∧ (480 ≤ b ∧ b ≤ 1200) ∧ a < b) (n19 : Nat) (hl24 : n19 = (freeN L a b 6).length) (hl25 : (n19 : Int) ≤ 9223372036854775807) (hq26 : (freeN L a b 6).length ≤ 6) : VsOK L ∧ (480 ≤ a ∧ a ≤ 1200) ∧ (480 ≤ b ∧ b ≤ 1200) ∧ a < b := by
  first | (simp_all; done) | (intro hh; rcases ‹_ ∨ _› with h | h; exact h hh.1; exact h hh.2)
theorem c_impl_FreeSeats (w : World) {AL : Option Addr} {nL cL BL : Nat}  (L : List Visit) (hL : SlR w BL encVisit 4 AL nL cL L) (a : Int) (b : Int) : Calls Tryz.prog 14 #[.slice AL nL cL, .int .i64 a, .int .i64 b] w fun e w' => ∃ (A1' : Option Addr) (n1' c1' : Nat), e = .returned (.tuple (List.toArray [.slice A1' n1' c1', .bool (decide (VsOK L ∧ (480 ≤ a ∧ a ≤ 1200) ∧ (480 ≤ b ∧ b ≤ 1200) ∧ a < b))])) ∧ SlO w' w.heap.size encI 1 3 A1' n1' c1' (freeF L a b) ∧ Lo w w' := by
  refine calls_W 21 Tryz.func14 rfl rfl rfl ?_
  have hbdL := hL.bound
  have hleL := hL.len
  have hBbL := hL.bd
  refine W.seq ?_
  refine W.regS (SR.q' (r_as (v := .slice none 0 0) rfl) <| SR.q' (r_as (v := .bool false) rfl) <| SR.nil ?_)
  refine W.seq ?_
  refine W.seq ?_
  refine W.regS (SR.q' (r_mv (v := .slice _ _ _) rfl) <| SR.call ent29 (c_impl_AreVisits w L ((hL))) rfl ?_)
  rintro e w1 ⟨rfl, hk2⟩
  refine ⟨_, rfl, ?_⟩
  have hz3 := hk2.size
  have hB4 := (Lo.refl w).lo hk2
  refine SR.q' (r_not rfl) <| SR.q' (r_mv (v := .bool _) rfl) <| SR.splitN (fun h5 => ?_) (fun h5 => ?_)
  · refine SR.s' rfl <| SR.s' rfl <| SR.s' rfl <| SR.s' rfl <| SR.q' (r_pick true rfl (v := .bool true) rfl) <| SR.nil ?_
    refine W.cond_t rfl ?_
    refine W.seq ?_
    refine W.regS (SR.q' (r_as (v := .slice none 0 0) rfl) <| SR.q' (r_as (v := .bool false) rfl) <| SR.nil ?_)
    refine W.ret ?_
    refine ret2 rfl (v := .slice none 0 0) (v' := .bool _) rfl rfl ?_
    exact ⟨none, 0, 0, eR (eT2 rfl (eDF (z_c_impl_FreeSeats_7 L nL hbdL hleL a b h5))), (SlO.eqv (SlO.nil (e := 3) (enc := encI) (fun _ => rfl) (by omega)) (z_c_impl_FreeSeats_6 L nL hbdL hleL a b h5)), hB4⟩
  · have hq8 := vs_len h5
    refine SR.g' rfl (r_mv (v := .int .i64 _) rfl) <| SR.g' rfl (r_mv (v := .int .i64 _) rfl) <| SR.gcall rfl ent41 (c_impl_isTime w1 a b) rfl ?_
    rintro e w9 ⟨rfl, hk10⟩
    refine ⟨_, rfl, ?_⟩
    have hz11 := hk10.size
    have hB12 := hB4.lo hk10
    refine SR.g' rfl (r_not rfl) <| SR.q' (r_pick false rfl (v := .bool _) rfl) <| SR.nil ?_
    refine W.cond_n rfl (fun h13 => ?_) (fun h13 => ?_)
    · refine W.seq ?_
      refine W.regS (SR.q' (r_as (v := .slice none 0 0) rfl) <| SR.q' (r_as (v := .bool false) rfl) <| SR.nil ?_)
      refine W.ret ?_
      refine ret2 rfl (v := .slice none 0 0) (v' := .bool _) rfl rfl ?_
      exact ⟨none, 0, 0, eR (eT2 rfl (eDF (z_c_impl_FreeSeats_15 L nL hbdL hleL a b h5 hq8 h13))), (SlO.eqv (SlO.nil (e := 3) (enc := encI) (fun _ => rfl) (by omega)) (z_c_impl_FreeSeats_14 L nL hbdL hleL a b h5 hq8 h13)), hB12⟩
    · refine W.skip ?_
      refine W.seq ?_
      refine W.regS (SR.q' (r_mv (v := .slice _ _ _) rfl) <| SR.q' (r_mv (v := .int .i64 _) rfl) <| SR.q' (r_mv (v := .int .i64 _) rfl) <| SR.call ent42 (c_impl_freeSeats w9 L ((((hL).lo hk2).lo hk10)) a b) rfl ?_)
      rintro e w16 ⟨A18, n19, c20, rfl, hO21, hk17⟩
      refine ⟨_, rfl, ?_⟩
      have hz22 := hk17.size
      have hB23 := hB12.lo hk17
      have hl24 := hO21.len
      have hl25 := hO21.rd.bound
      have hq26 := free_len L a b 6
      refine SR.q' (r_as (v := .slice _ _ _) rfl) <| SR.q' (r_as (v := .bool true) rfl) <| SR.nil ?_
      refine W.ret ?_
      refine ret2 rfl (v := .slice _ _ _) (v' := .bool _) rfl rfl ?_
      exact ⟨A18, n19, c20, eR (eT2 rfl (eDT (z_c_impl_FreeSeats_28 L nL hbdL hleL a b h5 hq8 h13 n19 hl24 hl25 hq26))), (SlO.eqv ((hO21).down (by omega)) (z_c_impl_FreeSeats_27 L nL hbdL hleL a b h5 hq8 h13 n19 hl24 hl25 hq26)), hB23⟩

theorem z_c_impl_SeatOf_6 (L : List Visit) (nL : Nat) (hbdL : (nL : Int) ≤ 9223372036854775807) (hleL : nL = L.length) (r : Int) (m : Int) (h5 : ¬ (VsOK L)) : 0 = seatO L r m := by
  first | exact (seatO_no (by first | (intro hh; simp_all; done) | (intro hh; rcases ‹_ ∨ _› with h | h | h; exact h hh.1; exact h hh.2.1; exact h hh.2.2))).symm | exact (seatO_out (by omega)).symm | exact (seatO_outW ‹VsOK L› ‹_›).symm | exact seatO_in ⟨‹VsOK L›, by omega, by omega⟩ ‹L[_]? = some _› (by first | rfl | exact atW_eq ‹_› _ _) (by omega)
theorem z_c_impl_SeatOf_7 (L : List Visit) (nL : Nat) (hbdL : (nL : Int) ≤ 9223372036854775807) (hleL : nL = L.length) (r : Int) (m : Int) (h5 : ¬ (VsOK L)) : ¬ (VsOK L ∧ (1 ≤ r ∧ r ≤ 999) ∧ (480 ≤ m ∧ m ≤ 1200)) := by
  first | (simp_all; done) | omega | exact ⟨‹VsOK L›, by omega, by omega⟩ | (intro hh; simp_all; done)
theorem z_c_impl_SeatOf_14 (L : List Visit) (nL : Nat) (hbdL : (nL : Int) ≤ 9223372036854775807) (hleL : nL = L.length) (r : Int) (m : Int) (h5 : VsOK L) (hq8 : L.length ≤ 15) (h13 : ¬ (1 ≤ r ∧ r ≤ 999)) : 0 = seatO L r m := by
  first | exact (seatO_no (by first | (intro hh; simp_all; done) | (intro hh; rcases ‹_ ∨ _› with h | h | h; exact h hh.1; exact h hh.2.1; exact h hh.2.2))).symm | exact (seatO_out (by omega)).symm | exact (seatO_outW ‹VsOK L› ‹_›).symm | exact seatO_in ⟨‹VsOK L›, by omega, by omega⟩ ‹L[_]? = some _› (by first | rfl | exact atW_eq ‹_› _ _) (by omega)
theorem z_c_impl_SeatOf_15 (L : List Visit) (nL : Nat) (hbdL : (nL : Int) ≤ 9223372036854775807) (hleL : nL = L.length) (r : Int) (m : Int) (h5 : VsOK L) (hq8 : L.length ≤ 15) (h13 : ¬ (1 ≤ r ∧ r ≤ 999)) : ¬ (VsOK L ∧ (1 ≤ r ∧ r ≤ 999) ∧ (480 ≤ m ∧ m ≤ 1200)) := by
  first | (simp_all; done) | omega | exact ⟨‹VsOK L›, by omega, by omega⟩ | (intro hh; simp_all; done)
theorem z_c_impl_SeatOf_21 (L : List Visit) (nL : Nat) (hbdL : (nL : Int) ≤ 9223372036854775807) (hleL : nL = L.length) (r : Int) (m : Int) (h5 : VsOK L) (hq8 : L.length ≤ 15) (h13 : 1 ≤ r ∧ r ≤ 999) (h20 : ¬ (480 ≤ m ∧ m ≤ 1200)) : 0 = seatO L r m := by
  first | exact (seatO_no (by first | (intro hh; simp_all; done) | (intro hh; rcases ‹_ ∨ _› with h | h | h; exact h hh.1; exact h hh.2.1; exact h hh.2.2))).symm | exact (seatO_out (by omega)).symm | exact (seatO_outW ‹VsOK L› ‹_›).symm | exact seatO_in ⟨‹VsOK L›, by omega, by omega⟩ ‹L[_]? = some _› (by first | rfl | exact atW_eq ‹_› _ _) (by omega)
theorem z_c_impl_SeatOf_22 (L : List Visit) (nL : Nat) (hbdL : (nL : Int) ≤ 9223372036854775807) (hleL : nL = L.length) (r : Int) (m : Int) (h5 : VsOK L) (hq8 : L.length ≤ 15) (h13 : 1 ≤ r ∧ r ≤ 999) (h20 : ¬ (480 ≤ m ∧ m ≤ 1200)) : ¬ (VsOK L ∧ (1 ≤ r ∧ r ≤ 999) ∧ (480 ≤ m ∧ m ≤ 1200)) := by
  first | (simp_all; done) | omega | exact ⟨‹VsOK L›, by omega, by omega⟩ | (intro hh; simp_all; done)
theorem z_c_impl_SeatOf_31 (L : List Visit) (nL : Nat) (hbdL : (nL : Int) ≤ 9223372036854775807) (hleL : nL = L.length) (r : Int) (m : Int) (h5 : VsOK L) (hq8 : L.length ≤ 15) (h13 : 1 ≤ r ∧ r ≤ 999) (h20 : 480 ≤ m ∧ m ≤ 1200) (hq27 : idxF (atW r m) L < (L.length : Int) ∧ -1 ≤ idxF (atW r m) L) (hq28 : VsOK L → idxF (atW r m) L = idxF (atV r m) L) (hq29 : VsOK L → 0 ≤ idxF (atV r m) L → 1 ≤ r ∧ r ≤ 999) (h30 : ¬ (VsOK L ∧ (1 ≤ r ∧ r ≤ 999) ∧ (480 ≤ m ∧ m ≤ 1200) ∧ 0 ≤ idxF (atW r m) L)) : 0 = seatO L r m := by
  first | exact (seatO_no (by first | (intro hh; simp_all; done) | (intro hh; rcases ‹_ ∨ _› with h | h | h; exact h hh.1; exact h hh.2.1; exact h hh.2.2))).symm | exact (seatO_out (by omega)).symm | exact (seatO_outW ‹VsOK L› ‹_›).symm | exact seatO_in ⟨‹VsOK L›, by omega, by omega⟩ ‹L[_]? = some _› (by first | rfl | exact atW_eq ‹_› _ _) (by omega)
theorem z_c_impl_SeatOf_32 (L : List Visit) (nL : Nat) (hbdL : (nL : Int) ≤ 9223372036854775807) (hleL : nL = L.length) (r : Int) (m : Int) (h5 : VsOK L) (hq8 : L.length ≤ 15) (h13 : 1 ≤ r ∧ r ≤ 999) (h20 : 480 ≤ m ∧ m ≤ 1200) (hq27 : idxF (atW r m) L < (L.length : Int) ∧ -1 ≤ idxF (atW r m) L) (hq28 : VsOK L → idxF (atW r m) L = idxF (atV r m) L) (hq29 : VsOK L → 0 ≤ idxF (atV r m) L → 1 ≤ r ∧ r ≤ 999) (h30 : ¬ (VsOK L ∧ (1 ≤ r ∧ r ≤ 999) ∧ (480 ≤ m ∧ m ≤ 1200) ∧ 0 ≤ idxF (atW r m) L)) : VsOK L ∧ (1 ≤ r ∧ r ≤ 999) ∧ (480 ≤ m ∧ m ≤ 1200) := by
  first | (simp_all; done) | omega | exact ⟨‹VsOK L›, by omega, by omega⟩ | (intro hh; simp_all; done)
theorem z_c_impl_SeatOf_38 (L : List Visit) (nL : Nat) (hbdL : (nL : Int) ≤ 9223372036854775807) (hleL : nL = L.length) (r : Int) (m : Int) (h5 : VsOK L) (hq8 : L.length ≤ 15) (h13 : 1 ≤ r ∧ r ≤ 999) (h20 : 480 ≤ m ∧ m ≤ 1200) (hq27 : idxF (atW r m) L < (L.length : Int) ∧ -1 ≤ idxF (atW r m) L) (hq28 : VsOK L → idxF (atW r m) L = idxF (atV r m) L) (hq29 : VsOK L → 0 ≤ idxF (atV r m) L → 1 ≤ r ∧ r ≤ 999) (h30 : VsOK L ∧ (1 ≤ r ∧ r ≤ 999) ∧ (480 ≤ m ∧ m ≤ 1200) ∧ 0 ≤ idxF (atW r m) L) (hq33 : VsOK L) (hq34 : L.length ≤ 15) (x35 : Visit) (hx36 : L[(idxF (atW r m) L).toNat]? = some x35) (hq37 : ((1 : Int) ≤ x35.Reader ∧ x35.Reader ≤ 999) ∧ ((1 : Int) ≤ x35.Seat ∧ x35.Seat ≤ 6) ∧ ((480 : Int) ≤ x35.From ∧ x35.From ≤ 1200) ∧ ((480 : Int) ≤ x35.Until ∧ x35.Until ≤ 1200) ∧ x35.From < x35.Until) : x35.Seat = seatO L r m := by
  first | exact (seatO_no (by first | (intro hh; simp_all; done) | (intro hh; rcases ‹_ ∨ _› with h | h | h; exact h hh.1; exact h hh.2.1; exact h hh.2.2))).symm | exact (seatO_out (by omega)).symm | exact (seatO_outW ‹VsOK L› ‹_›).symm | exact seatO_in ⟨‹VsOK L›, by omega, by omega⟩ ‹L[_]? = some _› (by first | rfl | exact atW_eq ‹_› _ _) (by omega)
theorem z_c_impl_SeatOf_39 (L : List Visit) (nL : Nat) (hbdL : (nL : Int) ≤ 9223372036854775807) (hleL : nL = L.length) (r : Int) (m : Int) (h5 : VsOK L) (hq8 : L.length ≤ 15) (h13 : 1 ≤ r ∧ r ≤ 999) (h20 : 480 ≤ m ∧ m ≤ 1200) (hq27 : idxF (atW r m) L < (L.length : Int) ∧ -1 ≤ idxF (atW r m) L) (hq28 : VsOK L → idxF (atW r m) L = idxF (atV r m) L) (hq29 : VsOK L → 0 ≤ idxF (atV r m) L → 1 ≤ r ∧ r ≤ 999) (h30 : VsOK L ∧ (1 ≤ r ∧ r ≤ 999) ∧ (480 ≤ m ∧ m ≤ 1200) ∧ 0 ≤ idxF (atW r m) L) (hq33 : VsOK L) (hq34 : L.length ≤ 15) (x35 : Visit) (hx36 : L[(idxF (atW r m) L).toNat]? = some x35) (hq37 : ((1 : Int) ≤ x35.Reader ∧ x35.Reader ≤ 999) ∧ ((1 : Int) ≤ x35.Seat ∧ x35.Seat ≤ 6) ∧ ((480 : Int) ≤ x35.From ∧ x35.From ≤ 1200) ∧ ((480 : Int) ≤ x35.Until ∧ x35.Until ≤ 1200) ∧ x35.From < x35.Until) : VsOK L ∧ (1 ≤ r ∧ r ≤ 999) ∧ (480 ≤ m ∧ m ≤ 1200) := by
  first | (simp_all; done) | omega | exact ⟨‹VsOK L›, by omega, by omega⟩ | (intro hh; simp_all; done)
theorem c_impl_SeatOf (w : World) {AL : Option Addr} {nL cL BL : Nat}  (L : List Visit) (hL : SlR w BL encVisit 4 AL nL cL L) (r : Int) (m : Int) : Calls Tryz.prog 20 #[.slice AL nL cL, .int .i64 r, .int .i64 m] w fun e w' => e = .returned (.tuple (List.toArray [.int .i64 (seatO L r m), .bool (decide (VsOK L ∧ (1 ≤ r ∧ r ≤ 999) ∧ (480 ≤ m ∧ m ≤ 1200)))])) ∧ Lo w w' := by
  refine calls_W 37 Tryz.func20 rfl rfl rfl ?_
  have hbdL := hL.bound
  have hleL := hL.len
  have hBbL := hL.bd
  refine W.seq ?_
  refine W.regS (SR.q' (r_as (v := .int .i64 0) rfl) <| SR.q' (r_as (v := .bool false) rfl) <| SR.nil ?_)
  refine W.seq ?_
  refine W.seq ?_
  refine W.regS (SR.q' (r_mv (v := .slice _ _ _) rfl) <| SR.call ent29 (c_impl_AreVisits w L ((hL))) rfl ?_)
  rintro e w1 ⟨rfl, hk2⟩
  refine ⟨_, rfl, ?_⟩
  have hz3 := hk2.size
  have hB4 := (Lo.refl w).lo hk2
  refine SR.q' (r_not rfl) <| SR.q' (r_mv (v := .bool _) rfl) <| SR.splitN (fun h5 => ?_) (fun h5 => ?_)
  · refine SR.s' rfl <| SR.s' rfl <| SR.s' rfl <| SR.q' (r_pick true rfl (v := .bool true) rfl) <| SR.q' (r_mv (v := .bool _) rfl) <| SR.s' rfl <| SR.s' rfl <| SR.s' rfl <| SR.q' (r_pick true rfl (v := .bool true) rfl) <| SR.nil ?_
    refine W.cond_t rfl ?_
    refine W.seq ?_
    refine W.regS (SR.q' (r_as (v := .int .i64 0) rfl) <| SR.q' (r_as (v := .bool false) rfl) <| SR.nil ?_)
    refine W.ret ?_
    refine ret2 rfl (v := .int .i64 _) (v' := .bool _) rfl rfl ?_
    exact ⟨eR (eT2 (eI (z_c_impl_SeatOf_6 L nL hbdL hleL r m h5)) (eDF (z_c_impl_SeatOf_7 L nL hbdL hleL r m h5))), hB4⟩
  · have hq8 := vs_len h5
    refine SR.g' rfl (r_mv (v := .int .i64 _) rfl) <| SR.gcall rfl ent46 (c_impl_isId w1 r) rfl ?_
    rintro e w9 ⟨rfl, hk10⟩
    refine ⟨_, rfl, ?_⟩
    have hz11 := hk10.size
    have hB12 := hB4.lo hk10
    refine SR.g' rfl (r_not rfl) <| SR.q' (r_pick false rfl (v := .bool _) rfl) <| SR.q' (r_mv (v := .bool _) rfl) <| SR.splitN (fun h13 => ?_) (fun h13 => ?_)
    · refine SR.s' rfl <| SR.s' rfl <| SR.s' rfl <| SR.q' (r_pick true rfl (v := .bool true) rfl) <| SR.nil ?_
      refine W.cond_t rfl ?_
      refine W.seq ?_
      refine W.regS (SR.q' (r_as (v := .int .i64 0) rfl) <| SR.q' (r_as (v := .bool false) rfl) <| SR.nil ?_)
      refine W.ret ?_
      refine ret2 rfl (v := .int .i64 _) (v' := .bool _) rfl rfl ?_
      exact ⟨eR (eT2 (eI (z_c_impl_SeatOf_14 L nL hbdL hleL r m h5 hq8 h13)) (eDF (z_c_impl_SeatOf_15 L nL hbdL hleL r m h5 hq8 h13))), hB12⟩
    · refine SR.g' rfl (r_mv (v := .int .i64 _) rfl) <| SR.gcall rfl ent30 (c_impl_isMinute w9 m) rfl ?_
      rintro e w16 ⟨rfl, hk17⟩
      refine ⟨_, rfl, ?_⟩
      have hz18 := hk17.size
      have hB19 := hB12.lo hk17
      refine SR.g' rfl (r_not rfl) <| SR.q' (r_pick false rfl (v := .bool _) rfl) <| SR.nil ?_
      refine W.cond_n rfl (fun h20 => ?_) (fun h20 => ?_)
      · refine W.seq ?_
        refine W.regS (SR.q' (r_as (v := .int .i64 0) rfl) <| SR.q' (r_as (v := .bool false) rfl) <| SR.nil ?_)
        refine W.ret ?_
        refine ret2 rfl (v := .int .i64 _) (v' := .bool _) rfl rfl ?_
        exact ⟨eR (eT2 (eI (z_c_impl_SeatOf_21 L nL hbdL hleL r m h5 hq8 h13 h20)) (eDF (z_c_impl_SeatOf_22 L nL hbdL hleL r m h5 hq8 h13 h20))), hB19⟩
      · refine W.skip ?_
        refine W.seq ?_
        refine W.regS (SR.q' (r_mv (v := .slice _ _ _) rfl) <| SR.q' (r_mv (v := .int .i64 _) rfl) <| SR.q' (r_mv (v := .int .i64 _) rfl) <| SR.call ent44 (c_impl_visitOf w16 L (((((hL).lo hk2).lo hk10).lo hk17)) r m) rfl ?_)
        rintro e w23 ⟨rfl, hk24⟩
        refine ⟨_, rfl, ?_⟩
        have hz25 := hk24.size
        have hB26 := hB19.lo hk24
        have hq27 : idxF (atW r m) L < (L.length : Int) ∧ -1 ≤ idxF (atW r m) L := idx_lt
        have hq28 : VsOK L → idxF (atW r m) L = idxF (atV r m) L := fun h => atW_eq h r m
        have hq29 : VsOK L → 0 ≤ idxF (atV r m) L → 1 ≤ r ∧ r ≤ 999 := fun h h' => at_rdr h h'
        refine SR.q' (r_mv (v := .tuple (List.toArray _)) rfl) <| SR.q' (r_ext (v := .int .i64 _) rfl rfl) <| SR.q' (r_ext (v := .bool _) rfl rfl) <| SR.q' (r_as (v := .int .i64 _) rfl) <| SR.q' (r_as (v := .bool _) rfl) <| SR.nil ?_
        refine W.seq ?_
        refine W.seq ?_
        refine W.regS (SR.q' (r_mv (v := .bool _) rfl) <| SR.q' (r_not rfl) <| SR.nil ?_)
        refine W.cond_n rfl (fun h30 => ?_) (fun h30 => ?_)
        · refine W.seq ?_
          refine W.regS (SR.q' (r_as (v := .int .i64 0) rfl) <| SR.q' (r_as (v := .bool true) rfl) <| SR.nil ?_)
          refine W.ret ?_
          refine ret2 rfl (v := .int .i64 _) (v' := .bool _) rfl rfl ?_
          exact ⟨eR (eT2 (eI (z_c_impl_SeatOf_31 L nL hbdL hleL r m h5 hq8 h13 h20 hq27 hq28 hq29 h30)) (eDT (z_c_impl_SeatOf_32 L nL hbdL hleL r m h5 hq8 h13 h20 hq27 hq28 hq29 h30))), hB26⟩
        · have hq33 := And.left h30
          have hq34 := vs_len hq33
          refine W.skip ?_
          refine W.seq ?_
          refine W.regS (SR.q' (r_mv (v := .slice _ _ _) rfl) <| SR.q' (r_mv (v := .int .i64 _) rfl) <| ?_)
          obtain ⟨x35, hx36⟩ := (((((hL).lo hk2).lo hk10).lo hk17).lo hk24).get (i := (idxF (atW r m) L).toNat) (by omega)
          have hq37 := vs_rng h5 hx36
          refine SR.q' (r_ixR tsl24 (((((hL).lo hk2).lo hk10).lo hk17).lo hk24) rfl rfl (by omega)) <| SR.q' (r_fa fa45_1 rfl) <| SR.q' (r_ld (v := .int .i64 x35.Seat) sca3 rfl ((((((hL).lo hk2).lo hk10).lo hk17).lo hk24).cell hx36 rfl)) <| SR.q' (r_as (v := .int .i64 _) rfl) <| SR.q' (r_as (v := .bool true) rfl) <| SR.nil ?_
          refine W.ret ?_
          refine ret2 rfl (v := .int .i64 _) (v' := .bool _) rfl rfl ?_
          exact ⟨eR (eT2 (eI (z_c_impl_SeatOf_38 L nL hbdL hleL r m h5 hq8 h13 h20 hq27 hq28 hq29 h30 hq33 hq34 x35 hx36 hq37)) (eDT (z_c_impl_SeatOf_39 L nL hbdL hleL r m h5 hq8 h13 h20 hq27 hq28 hq29 h30 hq33 hq34 x35 hx36 hq37))), hB26⟩

theorem z_c_impl_SeatMinutes_6 (L : List Visit) (nL : Nat) (hbdL : (nL : Int) ≤ 9223372036854775807) (hleL : nL = L.length) (r : Int) (h5 : ¬ (VsOK L)) : 0 = if VsOK L ∧ (1 ≤ r ∧ r ≤ 999) then minsN L r else 0 := by
  first | (rw [if_neg (by intro hh; simp_all)]; done) | (rw [if_neg (by intro hh; rcases ‹_ ∨ _› with h | h; exact h hh.1; exact h hh.2)]; done) | (have hh := ‹_ ∧ minsN _ _ = _ ∧ _›; rw [if_pos ⟨‹VsOK L›, by omega⟩, ← hh.2.1, List.take_of_length_le (by omega)])
theorem z_c_impl_SeatMinutes_7 (L : List Visit) (nL : Nat) (hbdL : (nL : Int) ≤ 9223372036854775807) (hleL : nL = L.length) (r : Int) (h5 : ¬ (VsOK L)) : ¬ (VsOK L ∧ (1 ≤ r ∧ r ≤ 999)) := by
  first | (simp_all; done) | exact ⟨‹VsOK L›, by omega⟩ | (intro hh; simp_all; done)
theorem z_c_impl_SeatMinutes_14 (L : List Visit) (nL : Nat) (hbdL : (nL : Int) ≤ 9223372036854775807) (hleL : nL = L.length) (r : Int) (h5 : VsOK L) (hq8 : L.length ≤ 15) (h13 : ¬ (1 ≤ r ∧ r ≤ 999)) : 0 = if VsOK L ∧ (1 ≤ r ∧ r ≤ 999) then minsN L r else 0 := by
  first | (rw [if_neg (by intro hh; simp_all)]; done) | (rw [if_neg (by intro hh; rcases ‹_ ∨ _› with h | h; exact h hh.1; exact h hh.2)]; done) | (have hh := ‹_ ∧ minsN _ _ = _ ∧ _›; rw [if_pos ⟨‹VsOK L›, by omega⟩, ← hh.2.1, List.take_of_length_le (by omega)])
theorem z_c_impl_SeatMinutes_15 (L : List Visit) (nL : Nat) (hbdL : (nL : Int) ≤ 9223372036854775807) (hleL : nL = L.length) (r : Int) (h5 : VsOK L) (hq8 : L.length ≤ 15) (h13 : ¬ (1 ≤ r ∧ r ≤ 999)) : ¬ (VsOK L ∧ (1 ≤ r ∧ r ≤ 999)) := by
  first | (simp_all; done) | exact ⟨‹VsOK L›, by omega⟩ | (intro hh; simp_all; done)
theorem z_c_impl_SeatMinutes_16 (L : List Visit) (nL : Nat) (hbdL : (nL : Int) ≤ 9223372036854775807) (hleL : nL = L.length) (r : Int) (h5 : VsOK L) (hq8 : L.length ≤ 15) (h13 : 1 ≤ r ∧ r ≤ 999) : 0 ≤ nL ∧ minsN (L.take 0) r = (0 : Int) ∧ 0 ≤ (0 : Int) ∧ (0 : Int) ≤ 720 * (0 : Int) := by
  exact ⟨by omega, rfl, by omega, by omega⟩
theorem z_c_impl_SeatMinutes_42 (L : List Visit) (nL : Nat) (hbdL : (nL : Int) ≤ 9223372036854775807) (hleL : nL = L.length) (r : Int) (h5 : VsOK L) (hq8 : L.length ≤ 15) (h13 : 1 ≤ r ∧ r ≤ 999) (k : Nat) (s : Int) (hi22 : k ≤ nL ∧ minsN (L.take k) r = s ∧ 0 ≤ s ∧ s ≤ 720 * (k : Int)) (h23 : (k : Int) < (nL : Int)) (x24 : Visit) (hx25 : L[k]? = some x24) (hq26 : ((1 : Int) ≤ x24.Reader ∧ x24.Reader ≤ 999) ∧ ((1 : Int) ≤ x24.Seat ∧ x24.Seat ≤ 6) ∧ ((480 : Int) ≤ x24.From ∧ x24.From ≤ 1200) ∧ ((480 : Int) ≤ x24.Until ∧ x24.Until ≤ 1200) ∧ x24.From < x24.Until) (h41 : x24.Reader = r) : k + 1 ≤ nL ∧ minsN (L.take (k + 1)) r = s + (x24.Until - x24.From) ∧ 0 ≤ s + (x24.Until - x24.From) ∧ s + (x24.Until - x24.From) ≤ 720 * (k + 1 : Int) := by
  have hh := ‹_ ∧ minsN _ _ = _ ∧ _›
  have hx := ‹L[k]? = some _›
  first | exact ⟨by omega, (mins_yes hx (by assumption)).trans (by rw [hh.2.1]), by omega, by omega⟩ | exact ⟨by omega, (mins_no hx (by assumption)).trans hh.2.1, by omega, by omega⟩
theorem z_c_impl_SeatMinutes_43 (L : List Visit) (nL : Nat) (hbdL : (nL : Int) ≤ 9223372036854775807) (hleL : nL = L.length) (r : Int) (h5 : VsOK L) (hq8 : L.length ≤ 15) (h13 : 1 ≤ r ∧ r ≤ 999) (k : Nat) (s : Int) (hi22 : k ≤ nL ∧ minsN (L.take k) r = s ∧ 0 ≤ s ∧ s ≤ 720 * (k : Int)) (h23 : (k : Int) < (nL : Int)) (x24 : Visit) (hx25 : L[k]? = some x24) (hq26 : ((1 : Int) ≤ x24.Reader ∧ x24.Reader ≤ 999) ∧ ((1 : Int) ≤ x24.Seat ∧ x24.Seat ≤ 6) ∧ ((480 : Int) ≤ x24.From ∧ x24.From ≤ 1200) ∧ ((480 : Int) ≤ x24.Until ∧ x24.Until ≤ 1200) ∧ x24.From < x24.Until) (h41 : x24.Reader = r) : nL - (k + 1) < nL - k := by
  omega
theorem z_c_impl_SeatMinutes_44 (L : List Visit) (nL : Nat) (hbdL : (nL : Int) ≤ 9223372036854775807) (hleL : nL = L.length) (r : Int) (h5 : VsOK L) (hq8 : L.length ≤ 15) (h13 : 1 ≤ r ∧ r ≤ 999) (k : Nat) (s : Int) (hi22 : k ≤ nL ∧ minsN (L.take k) r = s ∧ 0 ≤ s ∧ s ≤ 720 * (k : Int)) (h23 : (k : Int) < (nL : Int)) (x24 : Visit) (hx25 : L[k]? = some x24) (hq26 : ((1 : Int) ≤ x24.Reader ∧ x24.Reader ≤ 999) ∧ ((1 : Int) ≤ x24.Seat ∧ x24.Seat ≤ 6) ∧ ((480 : Int) ≤ x24.From ∧ x24.From ≤ 1200) ∧ ((480 : Int) ≤ x24.Until ∧ x24.Until ≤ 1200) ∧ x24.From < x24.Until) (h41 : ¬ (x24.Reader = r)) : k + 1 ≤ nL ∧ minsN (L.take (k + 1)) r = s ∧ 0 ≤ s ∧ s ≤ 720 * (k + 1 : Int) := by
  have hh := ‹_ ∧ minsN _ _ = _ ∧ _›
  have hx := ‹L[k]? = some _›
  first | exact ⟨by omega, (mins_yes hx (by assumption)).trans (by rw [hh.2.1]), by omega, by omega⟩ | exact ⟨by omega, (mins_no hx (by assumption)).trans hh.2.1, by omega, by omega⟩
theorem z_c_impl_SeatMinutes_45 (L : List Visit) (nL : Nat) (hbdL : (nL : Int) ≤ 9223372036854775807) (hleL : nL = L.length) (r : Int) (h5 : VsOK L) (hq8 : L.length ≤ 15) (h13 : 1 ≤ r ∧ r ≤ 999) (k : Nat) (s : Int) (hi22 : k ≤ nL ∧ minsN (L.take k) r = s ∧ 0 ≤ s ∧ s ≤ 720 * (k : Int)) (h23 : (k : Int) < (nL : Int)) (x24 : Visit) (hx25 : L[k]? = some x24) (hq26 : ((1 : Int) ≤ x24.Reader ∧ x24.Reader ≤ 999) ∧ ((1 : Int) ≤ x24.Seat ∧ x24.Seat ≤ 6) ∧ ((480 : Int) ≤ x24.From ∧ x24.From ≤ 1200) ∧ ((480 : Int) ≤ x24.Until ∧ x24.Until ≤ 1200) ∧ x24.From < x24.Until) (h41 : ¬ (x24.Reader = r)) : nL - (k + 1) < nL - k := by
  omega
theorem z_c_impl_SeatMinutes_46 (L : List Visit) (nL : Nat) (hbdL : (nL : Int) ≤ 9223372036854775807) (hleL : nL = L.length) (r : Int) (h5 : VsOK L) (hq8 : L.length ≤ 15) (h13 : 1 ≤ r ∧ r ≤ 999) (k : Nat) (s : Int) (hi22 : k ≤ nL ∧ minsN (L.take k) r = s ∧ 0 ≤ s ∧ s ≤ 720 * (k : Int)) (h23 : ¬ ((k : Int) < (nL : Int))) : s = if VsOK L ∧ (1 ≤ r ∧ r ≤ 999) then minsN L r else 0 := by
  first | (rw [if_neg (by intro hh; simp_all)]; done) | (rw [if_neg (by intro hh; rcases ‹_ ∨ _› with h | h; exact h hh.1; exact h hh.2)]; done) | (have hh := ‹_ ∧ minsN _ _ = _ ∧ _›; rw [if_pos ⟨‹VsOK L›, by omega⟩, ← hh.2.1, List.take_of_length_le (by omega)])
theorem z_c_impl_SeatMinutes_47 (L : List Visit) (nL : Nat) (hbdL : (nL : Int) ≤ 9223372036854775807) (hleL : nL = L.length) (r : Int) (h5 : VsOK L) (hq8 : L.length ≤ 15) (h13 : 1 ≤ r ∧ r ≤ 999) (k : Nat) (s : Int) (hi22 : k ≤ nL ∧ minsN (L.take k) r = s ∧ 0 ≤ s ∧ s ≤ 720 * (k : Int)) (h23 : ¬ ((k : Int) < (nL : Int))) : VsOK L ∧ (1 ≤ r ∧ r ≤ 999) := by
  first | (simp_all; done) | exact ⟨‹VsOK L›, by omega⟩ | (intro hh; simp_all; done)
theorem c_impl_SeatMinutes (w : World) {AL : Option Addr} {nL cL BL : Nat}  (L : List Visit) (hL : SlR w BL encVisit 4 AL nL cL L) (r : Int) : Calls Tryz.prog 21 #[.slice AL nL cL, .int .i64 r] w fun e w' => e = .returned (.tuple (List.toArray [.int .i64 (if VsOK L ∧ (1 ≤ r ∧ r ≤ 999) then minsN L r else 0), .bool (decide (VsOK L ∧ (1 ≤ r ∧ r ≤ 999)))])) ∧ Lo w w' := by
  refine calls_W 36 Tryz.func21 rfl rfl rfl ?_
  have hbdL := hL.bound
  have hleL := hL.len
  have hBbL := hL.bd
  refine W.seq ?_
  refine W.regS (SR.q' (r_as (v := .int .i64 0) rfl) <| SR.q' (r_as (v := .bool false) rfl) <| SR.nil ?_)
  refine W.seq ?_
  refine W.seq ?_
  refine W.regS (SR.q' (r_mv (v := .slice _ _ _) rfl) <| SR.call ent29 (c_impl_AreVisits w L ((hL))) rfl ?_)
  rintro e w1 ⟨rfl, hk2⟩
  refine ⟨_, rfl, ?_⟩
  have hz3 := hk2.size
  have hB4 := (Lo.refl w).lo hk2
  refine SR.q' (r_not rfl) <| SR.q' (r_mv (v := .bool _) rfl) <| SR.splitN (fun h5 => ?_) (fun h5 => ?_)
  · refine SR.s' rfl <| SR.s' rfl <| SR.s' rfl <| SR.q' (r_pick true rfl (v := .bool true) rfl) <| SR.nil ?_
    refine W.cond_t rfl ?_
    refine W.seq ?_
    refine W.regS (SR.q' (r_as (v := .int .i64 0) rfl) <| SR.q' (r_as (v := .bool false) rfl) <| SR.nil ?_)
    refine W.ret ?_
    refine ret2 rfl (v := .int .i64 _) (v' := .bool _) rfl rfl ?_
    exact ⟨eR (eT2 (eI (z_c_impl_SeatMinutes_6 L nL hbdL hleL r h5)) (eDF (z_c_impl_SeatMinutes_7 L nL hbdL hleL r h5))), hB4⟩
  · have hq8 := vs_len h5
    refine SR.g' rfl (r_mv (v := .int .i64 _) rfl) <| SR.gcall rfl ent46 (c_impl_isId w1 r) rfl ?_
    rintro e w9 ⟨rfl, hk10⟩
    refine ⟨_, rfl, ?_⟩
    have hz11 := hk10.size
    have hB12 := hB4.lo hk10
    refine SR.g' rfl (r_not rfl) <| SR.q' (r_pick false rfl (v := .bool _) rfl) <| SR.nil ?_
    refine W.cond_n rfl (fun h13 => ?_) (fun h13 => ?_)
    · refine W.seq ?_
      refine W.regS (SR.q' (r_as (v := .int .i64 0) rfl) <| SR.q' (r_as (v := .bool false) rfl) <| SR.nil ?_)
      refine W.ret ?_
      refine ret2 rfl (v := .int .i64 _) (v' := .bool _) rfl rfl ?_
      exact ⟨eR (eT2 (eI (z_c_impl_SeatMinutes_14 L nL hbdL hleL r h5 hq8 h13)) (eDF (z_c_impl_SeatMinutes_15 L nL hbdL hleL r h5 hq8 h13))), hB12⟩
    · refine W.skip ?_
      refine W.seq ?_
      refine W.regS (SR.q' (r_as (v := .int .i64 0) rfl) <| SR.nil ?_)
      refine W.seq ?_
      refine W.seq ?_
      refine W.regS (SR.q' (r_mv (v := .slice _ _ _) rfl) <| SR.q' (r_len und24 rfl) <| SR.q' (r_mv (v := .int .i64 0) rfl) <| SR.nil ?_)
      refine W.block ?_
      refine W.loop (σ := Nat × Int) (fun g => [(1, .int .i64 r), (4, .int .i64 0), (5, .bool false), (6, .int .i64 g.2), (17, .slice AL nL cL), (18, .int .i64 (nL : Int)), (19, .int .i64 (g.1 : Int))]) (fun g w' => (Lo w w') ∧ (SlR w' BL encVisit 4 AL nL cL L) ∧ (g.1 ≤ nL ∧ minsN (L.take g.1) r = g.2 ∧ 0 ≤ g.2 ∧ g.2 ≤ 720 * (g.1 : Int))) (fun g => nL - g.1) (0, (0 : Int)) ?_ ?_ ?_
      · exact ⟨rfl, rfl, rfl, (eI (by first | (first | rfl | omega) | (dsimp only; (first | rfl | omega)))), rfl, rfl, (eI (by first | (first | rfl | omega) | (dsimp only; (first | rfl | omega)))), trivial⟩
      · exact ⟨hB12, ((hL).lo hk2).lo hk10, (z_c_impl_SeatMinutes_16 L nL hbdL hleL r h5 hq8 h13)⟩
      · rintro ⟨k, s⟩ f17 w18 hP20
        obtain ⟨hB19, hm21, hi22⟩ : (Lo w w18) ∧ (SlR w18 BL encVisit 4 AL nL cL L) ∧ (k ≤ nL ∧ minsN (L.take k) r = s ∧ 0 ≤ s ∧ s ≤ 720 * (k : Int)) := hP20
        refine (?_ : W _ _ _ _ _ (act _ (sets f17 [(1, .int .i64 r), (4, .int .i64 0), (5, .bool false), (6, .int .i64 s), (17, .slice AL nL cL), (18, .int .i64 (nL : Int)), (19, .int .i64 (k : Int))])) _)
        have hzw18 := hB19.size
        refine W.seq ?_
        refine W.regS (SR.q' (r_lt rfl rfl) <| SR.nil ?_)
        refine W.seq ?_
        refine W.cond_d rfl (fun h23 => ?_) (fun h23 => ?_)
        · refine W.skip ?_
          refine W.seq ?_
          refine W.block ?_
          refine W.seq ?_
          obtain ⟨x24, hx25⟩ := (hm21).get (i := k) (by omega)
          have hq26 := vs_rng h5 hx25
          refine W.regS (SR.q' (r_ixR tsl24 (hm21) rfl rfl (by omega)) <| SR.q' (r_lda (l := encVisit x24) agg45 rfl (fun _ _ hu => (hm21).cell hx25 hu) ((hm21).esz _)) <| SR.alloc (l := [.int .i64 0, .int .i64 0, .int .i64 0, .int .i64 0]) tz45 rfl ?_)
          intro g27 w28 hg29 hk30 hs31 hb32
          have hz33 := hk30.size
          have hB34 := hB19.lo hk30
          refine SR.store (o := 0) (vs := [.int .i64 x24.Reader, .int .i64 x24.Seat, .int .i64 x24.From, .int .i64 x24.Until]) agg45.2 rfl rfl rfl rfl (hb32) (Nat.le_of_ble_eq_true rfl) rfl ?_
          intro w35 hk36 hs37 hb38
          have hz39 := hk36.size
          have hB40 := hB34.new hk36 (by omega)
          refine SR.nil ?_
          refine W.seq ?_
          refine W.regS (SR.q' (r_fa fa45_0 rfl) <| SR.q' (r_ld (v := .int .i64 x24.Reader) sca3 rfl ((hb38).cell rfl)) <| SR.q' (r_mv (v := .int .i64 _) rfl) <| SR.q' (r_eq rfl rfl) <| SR.nil ?_)
          refine W.cond_d rfl (fun h41 => ?_) (fun h41 => ?_)
          · refine W.regS (SR.q' (r_mv (v := .int .i64 _) rfl) <| SR.q' (r_fa fa45_3 rfl) <| SR.q' (r_ld (v := .int .i64 x24.Until) sca3 rfl ((hb38).cell rfl)) <| SR.q' (r_fa fa45_2 rfl) <| SR.q' (r_ld (v := .int .i64 x24.From) sca3 rfl ((hb38).cell rfl)) <| SR.q' (r_sub rfl rfl (by omega)) <| SR.q' (r_add rfl rfl (by omega)) <| SR.q' (r_as (v := .int .i64 _) rfl) <| SR.nil ?_)
            refine W.regS (SR.q' (r_add rfl rfl (by omega)) <| SR.q' (r_mv (v := .int .i64 _) rfl) <| SR.nil ?_)
            refine ⟨(k + 1, s + (x24.Until - x24.From)), _, rfl, ⟨rfl, rfl, rfl, rfl, rfl, rfl, (eI (by first | (first | rfl | omega) | (dsimp only; (first | rfl | omega)))), trivial⟩, ⟨hB40, ((hm21).lo hk30).kn hk36 (by omega), ?_⟩, ?_⟩
            · exact (z_c_impl_SeatMinutes_42 L nL hbdL hleL r h5 hq8 h13 k s hi22 h23 x24 hx25 hq26 h41)
            · exact (z_c_impl_SeatMinutes_43 L nL hbdL hleL r h5 hq8 h13 k s hi22 h23 x24 hx25 hq26 h41)
          · refine W.skip ?_
            refine W.regS (SR.q' (r_add rfl rfl (by omega)) <| SR.q' (r_mv (v := .int .i64 _) rfl) <| SR.nil ?_)
            refine ⟨(k + 1, s), _, rfl, ⟨rfl, rfl, rfl, rfl, rfl, rfl, (eI (by first | (first | rfl | omega) | (dsimp only; (first | rfl | omega)))), trivial⟩, ⟨hB40, ((hm21).lo hk30).kn hk36 (by omega), ?_⟩, ?_⟩
            · exact (z_c_impl_SeatMinutes_44 L nL hbdL hleL r h5 hq8 h13 k s hi22 h23 x24 hx25 hq26 h41)
            · exact (z_c_impl_SeatMinutes_45 L nL hbdL hleL r h5 hq8 h13 k s hi22 h23 x24 hx25 hq26 h41)
        · refine W.exit (xin_here ?_)
          refine W.seq ?_
          refine W.regS (SR.q' (r_mv (v := .int .i64 _) rfl) <| SR.q' (r_as (v := .int .i64 _) rfl) <| SR.q' (r_as (v := .bool true) rfl) <| SR.nil ?_)
          refine W.ret ?_
          refine ret2 rfl (v := .int .i64 _) (v' := .bool _) rfl rfl ?_
          exact ⟨eR (eT2 (eI (z_c_impl_SeatMinutes_46 L nL hbdL hleL r h5 hq8 h13 k s hi22 h23)) (eDT (z_c_impl_SeatMinutes_47 L nL hbdL hleL r h5 hq8 h13 k s hi22 h23))), hB19⟩

theorem z_c_spec_l1Least_2 (a : Int) (b : Int) (h1 : a < b) : a = min a b := by
  omega
theorem z_c_spec_l1Least_3 (a : Int) (b : Int) (h1 : ¬ (a < b)) : b = min a b := by
  omega
theorem c_spec_l1Least (w : World) (a : Int) (b : Int) : Calls Tryz.prog 57 #[.int .i64 a, .int .i64 b] w fun e w' => e = .returned (.int .i64 (min a b)) ∧ Lo w w' := by
  refine calls_W 10 Tryz.func57 rfl rfl rfl ?_
  refine W.seq ?_
  refine W.regS (SR.q' (r_as (v := .int .i64 0) rfl) <| SR.nil ?_)
  refine W.seq ?_
  refine W.seq ?_
  refine W.regS (SR.q' (r_mv (v := .int .i64 _) rfl) <| SR.q' (r_mv (v := .int .i64 _) rfl) <| SR.q' (r_lt rfl rfl) <| SR.nil ?_)
  refine W.cond_d rfl (fun h1 => ?_) (fun h1 => ?_)
  · refine W.seq ?_
    refine W.regS (SR.q' (r_mv (v := .int .i64 _) rfl) <| SR.q' (r_as (v := .int .i64 _) rfl) <| SR.nil ?_)
    refine W.ret ?_
    refine ret1 rfl (v := .int .i64 _) rfl ?_
    exact ⟨eR (eI (z_c_spec_l1Least_2 a b h1)), (Lo.refl w)⟩
  · refine W.skip ?_
    refine W.seq ?_
    refine W.regS (SR.q' (r_mv (v := .int .i64 _) rfl) <| SR.q' (r_as (v := .int .i64 _) rfl) <| SR.nil ?_)
    refine W.ret ?_
    refine ret1 rfl (v := .int .i64 _) rfl ?_
    exact ⟨eR (eI (z_c_spec_l1Least_3 a b h1)), (Lo.refl w)⟩

theorem z_c_spec_l1Most_2 (a : Int) (b : Int) (h1 : b < a) : a = max a b := by
  omega
theorem z_c_spec_l1Most_3 (a : Int) (b : Int) (h1 : ¬ (b < a)) : b = max a b := by
  omega
theorem c_spec_l1Most (w : World) (a : Int) (b : Int) : Calls Tryz.prog 58 #[.int .i64 a, .int .i64 b] w fun e w' => e = .returned (.int .i64 (max a b)) ∧ Lo w w' := by
  refine calls_W 10 Tryz.func58 rfl rfl rfl ?_
  refine W.seq ?_
  refine W.regS (SR.q' (r_as (v := .int .i64 0) rfl) <| SR.nil ?_)
  refine W.seq ?_
  refine W.seq ?_
  refine W.regS (SR.q' (r_mv (v := .int .i64 _) rfl) <| SR.q' (r_mv (v := .int .i64 _) rfl) <| SR.q' (r_gt rfl rfl) <| SR.nil ?_)
  refine W.cond_d rfl (fun h1 => ?_) (fun h1 => ?_)
  · refine W.seq ?_
    refine W.regS (SR.q' (r_mv (v := .int .i64 _) rfl) <| SR.q' (r_as (v := .int .i64 _) rfl) <| SR.nil ?_)
    refine W.ret ?_
    refine ret1 rfl (v := .int .i64 _) rfl ?_
    exact ⟨eR (eI (z_c_spec_l1Most_2 a b h1)), (Lo.refl w)⟩
  · refine W.skip ?_
    refine W.seq ?_
    refine W.regS (SR.q' (r_mv (v := .int .i64 _) rfl) <| SR.q' (r_as (v := .int .i64 _) rfl) <| SR.nil ?_)
    refine W.ret ?_
    refine ret1 rfl (v := .int .i64 _) rfl ?_
    exact ⟨eR (eI (z_c_spec_l1Most_3 a b h1)), (Lo.refl w)⟩
end Go.Proofs.YthgbcadgnihdiaaGreatDoor
