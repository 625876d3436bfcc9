/- Walks, printed by a program of this claim's author. -/
import Derived.Test.YthgbcadgnihdiaaGreatDoorChecked
import Derived.Test.YthgbcadgnihdiaaGreatDoorRa
import Derived.Test.YthgbcadgnihdiaaGreatDoorFu
import Derived.Test.YthgbcadgnihdiaaGreatDoorFo
import Derived.Test.YthgbcadgnihdiaaGreatDoorFp
import Derived.Test.YthgbcadgnihdiaaGreatDoorFt
import Derived.Test.YthgbcadgnihdiaaGreatDoorRt
import Derived.Test.YthgbcadgnihdiaaGreatDoorG30u
namespace Go.Proofs.YthgbcadgnihdiaaGreatDoor
open Go Go.RowKit Fw
set_option maxRecDepth 10000
set_option linter.unusedVariables false
theorem ent7 : Ent Tryz.prog 7 := ent_of Tryz.func7 (by decide +kernel) rfl

theorem z_c_impl_FullestMinute_6 (L : List Visit) (nL : Nat) (hbdL : (nL : Int) ≤ 9223372036854775807) (hleL : nL = L.length) (h5 : ¬ (VsOK L)) : 0 = if VsOK L then (fullN L 720).1 else 0 := by
  first | (rw [if_neg ‹_›]; done) | (rw [if_pos ‹_›]; first | done | (obtain rfl : k = 720 := (by omega); rfl))
theorem z_c_impl_FullestMinute_7 (L : List Visit) (nL : Nat) (hbdL : (nL : Int) ≤ 9223372036854775807) (hleL : nL = L.length) (h5 : ¬ (VsOK L)) : 0 = if VsOK L then (fullN L 720).2 else 0 := by
  first | (rw [if_neg ‹_›]; done) | (rw [if_pos ‹_›]; first | done | (obtain rfl : k = 720 := (by omega); rfl))
theorem z_c_impl_FullestMinute_9 (L : List Visit) (nL : Nat) (hbdL : (nL : Int) ≤ 9223372036854775807) (hleL : nL = L.length) (h5 : VsOK L) (hq8 : L.length ≤ 15) : 0 ≤ 720 := by
  omega
theorem z_c_impl_FullestMinute_29 (L : List Visit) (nL : Nat) (hbdL : (nL : Int) ≤ 9223372036854775807) (hleL : nL = L.length) (h5 : VsOK L) (hq8 : L.length ≤ 15) (k : Nat) (hi15 : k ≤ 720) (h16 : (480 + (k : Int)) < 1200) (n20 : Nat) (hl25 : n20 = (seatsAt L (480 + (k : Int))).length) (hl26 : (n20 : Int) ≤ 9223372036854775807) (hq27 : (seatsAt L (480 + (k : Int))).length ≤ 6) (h28 : ((fullN L k).2) < (n20 : Int)) : k + 1 ≤ 720 := by
  omega
theorem z_c_impl_FullestMinute_30 (L : List Visit) (nL : Nat) (hbdL : (nL : Int) ≤ 9223372036854775807) (hleL : nL = L.length) (h5 : VsOK L) (hq8 : L.length ≤ 15) (k : Nat) (hi15 : k ≤ 720) (h16 : (480 + (k : Int)) < 1200) (n20 : Nat) (hl25 : n20 = (seatsAt L (480 + (k : Int))).length) (hl26 : (n20 : Int) ≤ 9223372036854775807) (hq27 : (seatsAt L (480 + (k : Int))).length ≤ 6) (h28 : ((fullN L k).2) < (n20 : Int)) : 720 - (k + 1) < 720 - k := by
  omega
theorem z_c_impl_FullestMinute_31 (L : List Visit) (nL : Nat) (hbdL : (nL : Int) ≤ 9223372036854775807) (hleL : nL = L.length) (h5 : VsOK L) (hq8 : L.length ≤ 15) (k : Nat) (hi15 : k ≤ 720) (h16 : (480 + (k : Int)) < 1200) (n20 : Nat) (hl25 : n20 = (seatsAt L (480 + (k : Int))).length) (hl26 : (n20 : Int) ≤ 9223372036854775807) (hq27 : (seatsAt L (480 + (k : Int))).length ≤ 6) (h28 : ¬ (((fullN L k).2) < (n20 : Int))) : k + 1 ≤ 720 := by
  omega
theorem z_c_impl_FullestMinute_32 (L : List Visit) (nL : Nat) (hbdL : (nL : Int) ≤ 9223372036854775807) (hleL : nL = L.length) (h5 : VsOK L) (hq8 : L.length ≤ 15) (k : Nat) (hi15 : k ≤ 720) (h16 : (480 + (k : Int)) < 1200) (n20 : Nat) (hl25 : n20 = (seatsAt L (480 + (k : Int))).length) (hl26 : (n20 : Int) ≤ 9223372036854775807) (hq27 : (seatsAt L (480 + (k : Int))).length ≤ 6) (h28 : ¬ (((fullN L k).2) < (n20 : Int))) : 720 - (k + 1) < 720 - k := by
  omega
theorem z_c_impl_FullestMinute_33 (L : List Visit) (nL : Nat) (hbdL : (nL : Int) ≤ 9223372036854775807) (hleL : nL = L.length) (h5 : VsOK L) (hq8 : L.length ≤ 15) (k : Nat) (hi15 : k ≤ 720) (h16 : ¬ ((480 + (k : Int)) < 1200)) : (fullN L k).1 = if VsOK L then (fullN L 720).1 else 0 := by
  first | (rw [if_neg ‹_›]; done) | (rw [if_pos ‹_›]; first | done | (obtain rfl : k = 720 := (by omega); rfl))
theorem z_c_impl_FullestMinute_34 (L : List Visit) (nL : Nat) (hbdL : (nL : Int) ≤ 9223372036854775807) (hleL : nL = L.length) (h5 : VsOK L) (hq8 : L.length ≤ 15) (k : Nat) (hi15 : k ≤ 720) (h16 : ¬ ((480 + (k : Int)) < 1200)) : (fullN L k).2 = if VsOK L then (fullN L 720).2 else 0 := by
  first | (rw [if_neg ‹_›]; done) | (rw [if_pos ‹_›]; first | done | (obtain rfl : k = 720 := (by omega); rfl))
theorem c_impl_FullestMinute (w : World) {AL : Option Addr} {nL cL BL : Nat}  (L : List Visit) (hL : SlR w BL encVisit 4 AL nL cL L) : Calls Tryz.prog 9 #[.slice AL nL cL] w fun e w' => e = .returned (.tuple (List.toArray [.int .i64 (if VsOK L then (fullN L 720).1 else 0), .int .i64 (if VsOK L then (fullN L 720).2 else 0), .bool (decide (VsOK L))])) ∧ Lo w w' := by
  refine calls_W 27 Tryz.func9 rfl rfl rfl ?_
  have hbdL := hL.bound
  have hleL := hL.len
  have hBbL := hL.bd
  refine W.seq ?_
  refine W.regS (SR.q' (r_as (v := .int .i64 0) rfl) <| SR.q' (r_as (v := .int .i64 0) rfl) <| SR.q' (r_as (v := .bool false) rfl) <| SR.nil ?_)
  refine W.seq ?_
  refine W.seq ?_
  refine W.regS (SR.q' (r_mv (v := .slice _ _ _) rfl) <| SR.call ent29 (c_impl_AreVisits w L ((hL))) rfl ?_)
  rintro e w1 ⟨rfl, hk2⟩
  refine ⟨_, rfl, ?_⟩
  have hz3 := hk2.size
  have hB4 := (Lo.refl w).lo hk2
  refine SR.q' (r_not rfl) <| SR.nil ?_
  refine W.cond_n rfl (fun h5 => ?_) (fun h5 => ?_)
  · refine W.seq ?_
    refine W.regS (SR.q' (r_as (v := .int .i64 0) rfl) <| SR.q' (r_as (v := .int .i64 0) rfl) <| SR.q' (r_as (v := .bool false) rfl) <| SR.nil ?_)
    refine W.ret ?_
    refine ret3 rfl (v := .int .i64 _) (v' := .int .i64 _) (v'' := .bool _) rfl rfl rfl ?_
    exact ⟨eR (eT3 (eI (z_c_impl_FullestMinute_6 L nL hbdL hleL h5)) (eI (z_c_impl_FullestMinute_7 L nL hbdL hleL h5)) (eDF h5)), hB4⟩
  · have hq8 := vs_len h5
    refine W.skip ?_
    refine W.seq ?_
    refine W.regS (SR.q' (r_as (v := .int .i64 480) rfl) <| SR.q' (r_as (v := .int .i64 0) rfl) <| SR.nil ?_)
    refine W.seq ?_
    refine W.seq ?_
    refine W.regS (SR.q' (r_as (v := .int .i64 480) rfl) <| SR.nil ?_)
    refine W.block ?_
    refine W.loop (σ := Nat) (fun g => [(0, .slice AL nL cL), (2, .int .i64 0), (3, .int .i64 0), (4, .bool false), (5, .int .i64 ((fullN L g).1)), (6, .int .i64 ((fullN L g).2)), (7, .int .i64 (480 + (g : Int)))]) (fun g w' => (Lo w w') ∧ (SlR w' BL encVisit 4 AL nL cL L) ∧ (g ≤ 720)) (fun g => 720 - g) 0 ?_ ?_ ?_
    · exact ⟨rfl, rfl, rfl, rfl, (eI (by first | (first | omega | rfl | (rw [fullN_yes (by omega)] <;> omega) | rw [fullN_no (by omega)]) | (dsimp only; (first | omega | rfl | (rw [fullN_yes (by omega)] <;> omega) | rw [fullN_no (by omega)])))), (eI (by first | (first | omega | rfl | (rw [fullN_yes (by omega)] <;> omega) | rw [fullN_no (by omega)]) | (dsimp only; (first | omega | rfl | (rw [fullN_yes (by omega)] <;> omega) | rw [fullN_no (by omega)])))), (eI (by first | (first | omega | rfl | (rw [fullN_yes (by omega)] <;> omega) | rw [fullN_no (by omega)]) | (dsimp only; (first | omega | rfl | (rw [fullN_yes (by omega)] <;> omega) | rw [fullN_no (by omega)])))), trivial⟩
    · exact ⟨hB4, (hL).lo hk2, (z_c_impl_FullestMinute_9 L nL hbdL hleL h5 hq8)⟩
    · rintro k f10 w11 hP13
      obtain ⟨hB12, hm14, hi15⟩ : (Lo w w11) ∧ (SlR w11 BL encVisit 4 AL nL cL L) ∧ (k ≤ 720) := hP13
      refine (?_ : W _ _ _ _ _ (act _ (sets f10 [(0, .slice AL nL cL), (2, .int .i64 0), (3, .int .i64 0), (4, .bool false), (5, .int .i64 ((fullN L k).1)), (6, .int .i64 ((fullN L k).2)), (7, .int .i64 (480 + (k : Int)))])) _)
      have hzw11 := hB12.size
      refine W.seq ?_
      refine W.seq ?_
      refine W.regS (SR.q' (r_mv (v := .int .i64 _) rfl) <| SR.q' (r_lt rfl rfl) <| SR.nil ?_)
      refine W.cond_d rfl (fun h16 => ?_) (fun h16 => ?_)
      · refine W.skip ?_
        refine W.seq ?_
        refine W.block ?_
        refine W.seq ?_
        refine W.regS (SR.q' (r_mv (v := .slice _ _ _) rfl) <| SR.q' (r_mv (v := .int .i64 _) rfl) <| SR.call ent31 (c_impl_seatedAt w11 L ((hm14)) (480 + (k : Int)) (by assumption)) rfl ?_)
        rintro e w17 ⟨A19, n20, c21, rfl, hO22, hk18⟩
        refine ⟨_, rfl, ?_⟩
        have hz23 := hk18.size
        have hB24 := hB12.lo hk18
        have hl25 := hO22.len
        have hl26 := hO22.rd.bound
        have hq27 : (seatsAt L (480 + (k : Int))).length ≤ 6 := seats_len ‹VsOK L› (480 + (k : Int))
        refine SR.q' (r_len und27 rfl) <| SR.q' (r_as (v := .int .i64 _) rfl) <| SR.nil ?_
        refine W.seq ?_
        refine W.regS (SR.q' (r_mv (v := .int .i64 _) rfl) <| SR.q' (r_mv (v := .int .i64 _) rfl) <| SR.q' (r_gt rfl rfl) <| SR.nil ?_)
        refine W.cond_d rfl (fun h28 => ?_) (fun h28 => ?_)
        · refine W.regS (SR.q' (r_mv (v := .int .i64 _) rfl) <| SR.q' (r_mv (v := .int .i64 _) rfl) <| SR.q' (r_as (v := .int .i64 _) rfl) <| SR.q' (r_as (v := .int .i64 _) rfl) <| SR.nil ?_)
          refine W.regS (SR.q' (r_mv (v := .int .i64 _) rfl) <| SR.q' (r_add rfl rfl (by omega)) <| SR.q' (r_as (v := .int .i64 _) rfl) <| SR.nil ?_)
          refine ⟨k + 1, _, rfl, ⟨rfl, rfl, rfl, rfl, (eI (by first | (first | omega | rfl | (rw [fullN_yes (by omega)] <;> omega) | rw [fullN_no (by omega)]) | (dsimp only; (first | omega | rfl | (rw [fullN_yes (by omega)] <;> omega) | rw [fullN_no (by omega)])))), (eI (by first | (first | omega | rfl | (rw [fullN_yes (by omega)] <;> omega) | rw [fullN_no (by omega)]) | (dsimp only; (first | omega | rfl | (rw [fullN_yes (by omega)] <;> omega) | rw [fullN_no (by omega)])))), (eI (by first | (first | omega | rfl | (rw [fullN_yes (by omega)] <;> omega) | rw [fullN_no (by omega)]) | (dsimp only; (first | omega | rfl | (rw [fullN_yes (by omega)] <;> omega) | rw [fullN_no (by omega)])))), trivial⟩, ⟨hB24, (hm14).lo hk18, ?_⟩, ?_⟩
          · exact (z_c_impl_FullestMinute_29 L nL hbdL hleL h5 hq8 k hi15 h16 n20 hl25 hl26 hq27 h28)
          · exact (z_c_impl_FullestMinute_30 L nL hbdL hleL h5 hq8 k hi15 h16 n20 hl25 hl26 hq27 h28)
        · refine W.skip ?_
          refine W.regS (SR.q' (r_mv (v := .int .i64 _) rfl) <| SR.q' (r_add rfl rfl (by omega)) <| SR.q' (r_as (v := .int .i64 _) rfl) <| SR.nil ?_)
          refine ⟨k + 1, _, rfl, ⟨rfl, rfl, rfl, rfl, (eI (by first | (first | omega | rfl | (rw [fullN_yes (by omega)] <;> omega) | rw [fullN_no (by omega)]) | (dsimp only; (first | omega | rfl | (rw [fullN_yes (by omega)] <;> omega) | rw [fullN_no (by omega)])))), (eI (by first | (first | omega | rfl | (rw [fullN_yes (by omega)] <;> omega) | rw [fullN_no (by omega)]) | (dsimp only; (first | omega | rfl | (rw [fullN_yes (by omega)] <;> omega) | rw [fullN_no (by omega)])))), (eI (by first | (first | omega | rfl | (rw [fullN_yes (by omega)] <;> omega) | rw [fullN_no (by omega)]) | (dsimp only; (first | omega | rfl | (rw [fullN_yes (by omega)] <;> omega) | rw [fullN_no (by omega)])))), trivial⟩, ⟨hB24, (hm14).lo hk18, ?_⟩, ?_⟩
          · exact (z_c_impl_FullestMinute_31 L nL hbdL hleL h5 hq8 k hi15 h16 n20 hl25 hl26 hq27 h28)
          · exact (z_c_impl_FullestMinute_32 L nL hbdL hleL h5 hq8 k hi15 h16 n20 hl25 hl26 hq27 h28)
      · refine W.exit (xin_here ?_)
        refine W.seq ?_
        refine W.regS (SR.q' (r_mv (v := .int .i64 _) rfl) <| SR.q' (r_mv (v := .int .i64 _) rfl) <| SR.q' (r_as (v := .int .i64 _) rfl) <| SR.q' (r_as (v := .int .i64 _) rfl) <| SR.q' (r_as (v := .bool true) rfl) <| SR.nil ?_)
        refine W.ret ?_
        refine ret3 rfl (v := .int .i64 _) (v' := .int .i64 _) (v'' := .bool _) rfl rfl rfl ?_
        exact ⟨eR (eT3 (eI (z_c_impl_FullestMinute_33 L nL hbdL hleL h5 hq8 k hi15 h16)) (eI (z_c_impl_FullestMinute_34 L nL hbdL hleL h5 hq8 k hi15 h16)) (eDT h5)), hB12⟩

theorem z_c_spec_FullestMinute_6 (L : List Visit) (nL : Nat) (hbdL : (nL : Int) ≤ 9223372036854775807) (hleL : nL = L.length) (h5 : ¬ (VsOK L)) : 0 = if VsOK L then (fullN L 720).1 else 0 := by
  first | (rw [if_neg ‹_›]; done) | (rw [if_pos ‹_›]; first | done | (subst hleL; obtain rfl : k = L.length := (by omega); rw [full_eq ‹_›]))
theorem z_c_spec_FullestMinute_7 (L : List Visit) (nL : Nat) (hbdL : (nL : Int) ≤ 9223372036854775807) (hleL : nL = L.length) (h5 : ¬ (VsOK L)) : 0 = if VsOK L then (fullN L 720).2 else 0 := by
  first | (rw [if_neg ‹_›]; done) | (rw [if_pos ‹_›]; first | done | (subst hleL; obtain rfl : k = L.length := (by omega); rw [full_eq ‹_›]))
theorem z_c_spec_FullestMinute_9 (L : List Visit) (nL : Nat) (hbdL : (nL : Int) ≤ 9223372036854775807) (hleL : nL = L.length) (h5 : VsOK L) (hq8 : L.length ≤ 15) : 0 ≤ nL := by
  omega
theorem z_c_spec_FullestMinute_32 (L : List Visit) (nL : Nat) (hbdL : (nL : Int) ≤ 9223372036854775807) (hleL : nL = L.length) (h5 : VsOK L) (hq8 : L.length ≤ 15) (k : Nat) (hi15 : k ≤ nL) (h16 : (k : Int) < (nL : Int)) (hx18 : L[k]? = some (gt L k)) (hq19 : ((1 : Int) ≤ (gt L k).Reader ∧ (gt L k).Reader ≤ 999) ∧ ((1 : Int) ≤ (gt L k).Seat ∧ (gt L k).Seat ≤ 6) ∧ ((480 : Int) ≤ (gt L k).From ∧ (gt L k).From ≤ 1200) ∧ ((480 : Int) ≤ (gt L k).Until ∧ (gt L k).Until ≤ 1200) ∧ (gt L k).From < (gt L k).Until) (n23 : Nat) (hl28 : n23 = (satL L ((gt L k).From)).length) (hl29 : (n23 : Int) ≤ 9223372036854775807) (hq30 : (satL L ((gt L k).From)).length ≤ 6) (h31 : ((fullS L k).2) < (n23 : Int)) : k + 1 ≤ nL := by
  omega
theorem z_c_spec_FullestMinute_33 (L : List Visit) (nL : Nat) (hbdL : (nL : Int) ≤ 9223372036854775807) (hleL : nL = L.length) (h5 : VsOK L) (hq8 : L.length ≤ 15) (k : Nat) (hi15 : k ≤ nL) (h16 : (k : Int) < (nL : Int)) (hx18 : L[k]? = some (gt L k)) (hq19 : ((1 : Int) ≤ (gt L k).Reader ∧ (gt L k).Reader ≤ 999) ∧ ((1 : Int) ≤ (gt L k).Seat ∧ (gt L k).Seat ≤ 6) ∧ ((480 : Int) ≤ (gt L k).From ∧ (gt L k).From ≤ 1200) ∧ ((480 : Int) ≤ (gt L k).Until ∧ (gt L k).Until ≤ 1200) ∧ (gt L k).From < (gt L k).Until) (n23 : Nat) (hl28 : n23 = (satL L ((gt L k).From)).length) (hl29 : (n23 : Int) ≤ 9223372036854775807) (hq30 : (satL L ((gt L k).From)).length ≤ 6) (h31 : ((fullS L k).2) < (n23 : Int)) : nL - (k + 1) < nL - k := by
  omega
theorem z_c_spec_FullestMinute_34 (L : List Visit) (nL : Nat) (hbdL : (nL : Int) ≤ 9223372036854775807) (hleL : nL = L.length) (h5 : VsOK L) (hq8 : L.length ≤ 15) (k : Nat) (hi15 : k ≤ nL) (h16 : (k : Int) < (nL : Int)) (hx18 : L[k]? = some (gt L k)) (hq19 : ((1 : Int) ≤ (gt L k).Reader ∧ (gt L k).Reader ≤ 999) ∧ ((1 : Int) ≤ (gt L k).Seat ∧ (gt L k).Seat ≤ 6) ∧ ((480 : Int) ≤ (gt L k).From ∧ (gt L k).From ≤ 1200) ∧ ((480 : Int) ≤ (gt L k).Until ∧ (gt L k).Until ≤ 1200) ∧ (gt L k).From < (gt L k).Until) (n23 : Nat) (hl28 : n23 = (satL L ((gt L k).From)).length) (hl29 : (n23 : Int) ≤ 9223372036854775807) (hq30 : (satL L ((gt L k).From)).length ≤ 6) (h31 : ¬ (((fullS L k).2) < (n23 : Int))) : k + 1 ≤ nL := by
  omega
theorem z_c_spec_FullestMinute_35 (L : List Visit) (nL : Nat) (hbdL : (nL : Int) ≤ 9223372036854775807) (hleL : nL = L.length) (h5 : VsOK L) (hq8 : L.length ≤ 15) (k : Nat) (hi15 : k ≤ nL) (h16 : (k : Int) < (nL : Int)) (hx18 : L[k]? = some (gt L k)) (hq19 : ((1 : Int) ≤ (gt L k).Reader ∧ (gt L k).Reader ≤ 999) ∧ ((1 : Int) ≤ (gt L k).Seat ∧ (gt L k).Seat ≤ 6) ∧ ((480 : Int) ≤ (gt L k).From ∧ (gt L k).From ≤ 1200) ∧ ((480 : Int) ≤ (gt L k).Until ∧ (gt L k).Until ≤ 1200) ∧ (gt L k).From < (gt L k).Until) (n23 : Nat) (hl28 : n23 = (satL L ((gt L k).From)).length) (hl29 : (n23 : Int) ≤ 9223372036854775807) (hq30 : (satL L ((gt L k).From)).length ≤ 6) (h31 : ¬ (((fullS L k).2) < (n23 : Int))) : nL - (k + 1) < nL - k := by
  omega
theorem z_c_spec_FullestMinute_36 (L : List Visit) (nL : Nat) (hbdL : (nL : Int) ≤ 9223372036854775807) (hleL : nL = L.length) (h5 : VsOK L) (hq8 : L.length ≤ 15) (k : Nat) (hi15 : k ≤ nL) (h16 : ¬ ((k : Int) < (nL : Int))) : (fullS L k).1 = if VsOK L then (fullN L 720).1 else 0 := by
  first | (rw [if_neg ‹_›]; done) | (rw [if_pos ‹_›]; first | done | (subst hleL; obtain rfl : k = L.length := (by omega); rw [full_eq ‹_›]))
theorem z_c_spec_FullestMinute_37 (L : List Visit) (nL : Nat) (hbdL : (nL : Int) ≤ 9223372036854775807) (hleL : nL = L.length) (h5 : VsOK L) (hq8 : L.length ≤ 15) (k : Nat) (hi15 : k ≤ nL) (h16 : ¬ ((k : Int) < (nL : Int))) : (fullS L k).2 = if VsOK L then (fullN L 720).2 else 0 := by
  first | (rw [if_neg ‹_›]; done) | (rw [if_pos ‹_›]; first | done | (subst hleL; obtain rfl : k = L.length := (by omega); rw [full_eq ‹_›]))
theorem c_spec_FullestMinute (w : World) {AL : Option Addr} {nL cL BL : Nat}  (L : List Visit) (hL : SlR w BL encVisit 4 AL nL cL L) : Calls Tryz.prog 10 #[.slice AL nL cL] w fun e w' => e = .returned (.tuple (List.toArray [.int .i64 (if VsOK L then (fullN L 720).1 else 0), .int .i64 (if VsOK L then (fullN L 720).2 else 0), .bool (decide (VsOK L))])) ∧ Lo w w' := by
  refine calls_W 42 Tryz.func10 rfl rfl rfl ?_
  have hbdL := hL.bound
  have hleL := hL.len
  have hBbL := hL.bd
  refine W.seq ?_
  refine W.regS (SR.q' (r_as (v := .int .i64 0) rfl) <| SR.q' (r_as (v := .int .i64 0) rfl) <| SR.q' (r_as (v := .bool false) rfl) <| SR.nil ?_)
  refine W.seq ?_
  refine W.seq ?_
  refine W.regS (SR.q' (r_mv (v := .slice _ _ _) rfl) <| SR.call ent32 (c_spec_l30Good w L ((hL))) rfl ?_)
  rintro e w1 ⟨rfl, hk2⟩
  refine ⟨_, rfl, ?_⟩
  have hz3 := hk2.size
  have hB4 := (Lo.refl w).lo hk2
  refine SR.q' (r_not rfl) <| SR.nil ?_
  refine W.cond_n rfl (fun h5 => ?_) (fun h5 => ?_)
  · refine W.seq ?_
    refine W.regS (SR.q' (r_as (v := .int .i64 0) rfl) <| SR.q' (r_as (v := .int .i64 0) rfl) <| SR.q' (r_as (v := .bool false) rfl) <| SR.nil ?_)
    refine W.ret ?_
    refine ret3 rfl (v := .int .i64 _) (v' := .int .i64 _) (v'' := .bool _) rfl rfl rfl ?_
    exact ⟨eR (eT3 (eI (z_c_spec_FullestMinute_6 L nL hbdL hleL h5)) (eI (z_c_spec_FullestMinute_7 L nL hbdL hleL h5)) (eDF h5)), hB4⟩
  · have hq8 := vs_len h5
    refine W.skip ?_
    refine W.seq ?_
    refine W.regS (SR.q' (r_as (v := .int .i64 480) rfl) <| SR.q' (r_as (v := .int .i64 0) rfl) <| SR.nil ?_)
    refine W.seq ?_
    refine W.seq ?_
    refine W.regS (SR.q' (r_as (v := .int .i64 0) rfl) <| SR.nil ?_)
    refine W.block ?_
    refine W.loop (σ := Nat) (fun g => [(0, .slice AL nL cL), (2, .int .i64 0), (3, .int .i64 0), (4, .bool false), (5, .int .i64 ((fullS L g).1)), (6, .int .i64 ((fullS L g).2)), (7, .int .i64 (g : Int))]) (fun g w' => (Lo w w') ∧ (SlR w' BL encVisit 4 AL nL cL L) ∧ (g ≤ nL)) (fun g => nL - g) 0 ?_ ?_ ?_
    · exact ⟨rfl, rfl, rfl, rfl, (eI (by first | (first | omega | rfl | (rw [fullS_yes ‹VsOK L› (by omega) (by omega)] <;> omega) | rw [fullS_no ‹VsOK L› (by omega) (by omega)]) | (dsimp only; (first | omega | rfl | (rw [fullS_yes ‹VsOK L› (by omega) (by omega)] <;> omega) | rw [fullS_no ‹VsOK L› (by omega) (by omega)])))), (eI (by first | (first | omega | rfl | (rw [fullS_yes ‹VsOK L› (by omega) (by omega)] <;> omega) | rw [fullS_no ‹VsOK L› (by omega) (by omega)]) | (dsimp only; (first | omega | rfl | (rw [fullS_yes ‹VsOK L› (by omega) (by omega)] <;> omega) | rw [fullS_no ‹VsOK L› (by omega) (by omega)])))), (eI (by first | (first | omega | rfl | (rw [fullS_yes ‹VsOK L› (by omega) (by omega)] <;> omega) | rw [fullS_no ‹VsOK L› (by omega) (by omega)]) | (dsimp only; (first | omega | rfl | (rw [fullS_yes ‹VsOK L› (by omega) (by omega)] <;> omega) | rw [fullS_no ‹VsOK L› (by omega) (by omega)])))), trivial⟩
    · exact ⟨hB4, (hL).lo hk2, (z_c_spec_FullestMinute_9 L nL hbdL hleL h5 hq8)⟩
    · rintro k f10 w11 hP13
      obtain ⟨hB12, hm14, hi15⟩ : (Lo w w11) ∧ (SlR w11 BL encVisit 4 AL nL cL L) ∧ (k ≤ nL) := hP13
      refine (?_ : W _ _ _ _ _ (act _ (sets f10 [(0, .slice AL nL cL), (2, .int .i64 0), (3, .int .i64 0), (4, .bool false), (5, .int .i64 ((fullS L k).1)), (6, .int .i64 ((fullS L k).2)), (7, .int .i64 (k : Int))])) _)
      have hzw11 := hB12.size
      refine W.seq ?_
      refine W.seq ?_
      refine W.regS (SR.q' (r_mv (v := .int .i64 _) rfl) <| SR.q' (r_mv (v := .slice _ _ _) rfl) <| SR.q' (r_len und24 rfl) <| SR.q' (r_lt rfl rfl) <| SR.nil ?_)
      refine W.cond_d rfl (fun h16 => ?_) (fun h16 => ?_)
      · refine W.skip ?_
        refine W.seq ?_
        refine W.block ?_
        refine W.seq ?_
        refine W.regS (SR.q' (r_mv (v := .slice _ _ _) rfl) <| SR.q' (r_mv (v := .slice _ _ _) rfl) <| SR.q' (r_mv (v := .int .i64 _) rfl) <| ?_)
        have hx18 := (hm14).elem (i := k) (by omega)
        have hq19 := vs_rng h5 hx18
        refine SR.q' (r_ixR tsl24 (hm14) rfl rfl (by omega)) <| SR.q' (r_fa fa45_2 rfl) <| SR.q' (r_ld (v := .int .i64 ((gt L k).From)) sca3 rfl ((hm14).cell hx18 rfl)) <| SR.call ent7 (c_spec_SeatedAt w11 L ((hm14)) ((gt L k).From)) rfl ?_
        rintro e w20 ⟨A22, n23, c24, rfl, hO25, hk21⟩
        refine ⟨_, rfl, ?_⟩
        have hz26 := hk21.size
        have hB27 := hB12.lo hk21
        have hl28 := hO25.len
        have hl29 := hO25.rd.bound
        have hq30 : (satL L ((gt L k).From)).length ≤ 6 := sat_len L ((gt L k).From)
        refine SR.q' (r_mv (v := .tuple (List.toArray _)) rfl) <| SR.q' (r_ext (v := .slice _ _ _) rfl rfl) <| SR.q' (r_ext (v := .bool _) rfl rfl) <| SR.q' (r_as (v := .slice _ _ _) rfl) <| SR.q' (r_as (v := .bool _) rfl) <| SR.nil ?_
        refine W.seq ?_
        refine W.regS (SR.q' (r_mv (v := .slice _ _ _) rfl) <| SR.q' (r_len und27 rfl) <| SR.q' (r_mv (v := .int .i64 _) rfl) <| SR.q' (r_gt rfl rfl) <| SR.nil ?_)
        refine W.cond_d rfl (fun h31 => ?_) (fun h31 => ?_)
        · refine W.seq ?_
          refine W.regS (SR.q' (r_mv (v := .slice _ _ _) rfl) <| SR.q' (r_mv (v := .int .i64 _) rfl) <| SR.q' (r_ixR tsl24 ((hm14).lo hk21) rfl rfl (by omega)) <| SR.q' (r_fa fa45_2 rfl) <| SR.q' (r_ld (v := .int .i64 ((gt L k).From)) sca3 rfl (((hm14).lo hk21).cell hx18 rfl)) <| SR.q' (r_as (v := .int .i64 _) rfl) <| SR.nil ?_)
          refine W.regS (SR.q' (r_mv (v := .slice _ _ _) rfl) <| SR.q' (r_len und27 rfl) <| SR.q' (r_as (v := .int .i64 _) rfl) <| SR.nil ?_)
          refine W.regS (SR.q' (r_mv (v := .int .i64 _) rfl) <| SR.q' (r_add rfl rfl (by omega)) <| SR.q' (r_as (v := .int .i64 _) rfl) <| SR.nil ?_)
          refine ⟨k + 1, _, rfl, ⟨rfl, rfl, rfl, rfl, (eI (by first | (first | omega | rfl | (rw [fullS_yes ‹VsOK L› (by omega) (by omega)] <;> omega) | rw [fullS_no ‹VsOK L› (by omega) (by omega)]) | (dsimp only; (first | omega | rfl | (rw [fullS_yes ‹VsOK L› (by omega) (by omega)] <;> omega) | rw [fullS_no ‹VsOK L› (by omega) (by omega)])))), (eI (by first | (first | omega | rfl | (rw [fullS_yes ‹VsOK L› (by omega) (by omega)] <;> omega) | rw [fullS_no ‹VsOK L› (by omega) (by omega)]) | (dsimp only; (first | omega | rfl | (rw [fullS_yes ‹VsOK L› (by omega) (by omega)] <;> omega) | rw [fullS_no ‹VsOK L› (by omega) (by omega)])))), (eI (by first | (first | omega | rfl | (rw [fullS_yes ‹VsOK L› (by omega) (by omega)] <;> omega) | rw [fullS_no ‹VsOK L› (by omega) (by omega)]) | (dsimp only; (first | omega | rfl | (rw [fullS_yes ‹VsOK L› (by omega) (by omega)] <;> omega) | rw [fullS_no ‹VsOK L› (by omega) (by omega)])))), trivial⟩, ⟨hB27, (hm14).lo hk21, ?_⟩, ?_⟩
          · exact (z_c_spec_FullestMinute_32 L nL hbdL hleL h5 hq8 k hi15 h16 hx18 hq19 n23 hl28 hl29 hq30 h31)
          · exact (z_c_spec_FullestMinute_33 L nL hbdL hleL h5 hq8 k hi15 h16 hx18 hq19 n23 hl28 hl29 hq30 h31)
        · refine W.skip ?_
          refine W.regS (SR.q' (r_mv (v := .int .i64 _) rfl) <| SR.q' (r_add rfl rfl (by omega)) <| SR.q' (r_as (v := .int .i64 _) rfl) <| SR.nil ?_)
          refine ⟨k + 1, _, rfl, ⟨rfl, rfl, rfl, rfl, (eI (by first | (first | omega | rfl | (rw [fullS_yes ‹VsOK L› (by omega) (by omega)] <;> omega) | rw [fullS_no ‹VsOK L› (by omega) (by omega)]) | (dsimp only; (first | omega | rfl | (rw [fullS_yes ‹VsOK L› (by omega) (by omega)] <;> omega) | rw [fullS_no ‹VsOK L› (by omega) (by omega)])))), (eI (by first | (first | omega | rfl | (rw [fullS_yes ‹VsOK L› (by omega) (by omega)] <;> omega) | rw [fullS_no ‹VsOK L› (by omega) (by omega)]) | (dsimp only; (first | omega | rfl | (rw [fullS_yes ‹VsOK L› (by omega) (by omega)] <;> omega) | rw [fullS_no ‹VsOK L› (by omega) (by omega)])))), (eI (by first | (first | omega | rfl | (rw [fullS_yes ‹VsOK L› (by omega) (by omega)] <;> omega) | rw [fullS_no ‹VsOK L› (by omega) (by omega)]) | (dsimp only; (first | omega | rfl | (rw [fullS_yes ‹VsOK L› (by omega) (by omega)] <;> omega) | rw [fullS_no ‹VsOK L› (by omega) (by omega)])))), trivial⟩, ⟨hB27, (hm14).lo hk21, ?_⟩, ?_⟩
          · exact (z_c_spec_FullestMinute_34 L nL hbdL hleL h5 hq8 k hi15 h16 hx18 hq19 n23 hl28 hl29 hq30 h31)
          · exact (z_c_spec_FullestMinute_35 L nL hbdL hleL h5 hq8 k hi15 h16 hx18 hq19 n23 hl28 hl29 hq30 h31)
      · refine W.exit (xin_here ?_)
        refine W.seq ?_
        refine W.regS (SR.q' (r_mv (v := .int .i64 _) rfl) <| SR.q' (r_mv (v := .int .i64 _) rfl) <| SR.q' (r_as (v := .int .i64 _) rfl) <| SR.q' (r_as (v := .int .i64 _) rfl) <| SR.q' (r_as (v := .bool true) rfl) <| SR.nil ?_)
        refine W.ret ?_
        refine ret3 rfl (v := .int .i64 _) (v' := .int .i64 _) (v'' := .bool _) rfl rfl rfl ?_
        exact ⟨eR (eT3 (eI (z_c_spec_FullestMinute_36 L nL hbdL hleL h5 hq8 k hi15 h16)) (eI (z_c_spec_FullestMinute_37 L nL hbdL hleL h5 hq8 k hi15 h16)) (eDT h5)), hB12⟩
end Go.Proofs.YthgbcadgnihdiaaGreatDoor
