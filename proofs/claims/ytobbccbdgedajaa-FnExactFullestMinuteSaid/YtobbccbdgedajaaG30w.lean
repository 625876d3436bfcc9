/- Walks, printed by a program of this claim's author. -/
import Derived.Test.YtobbccbdgedajaaChecked
import Derived.Test.YtobbccbdgedajaaRa
import Derived.Test.YtobbccbdgedajaaRt
import Derived.Test.YtobbccbdgedajaaG30u
namespace Go.Proofs.Ytobbccbdgedajaa
open Go Go.RowKit Fw
set_option maxRecDepth 10000
set_option linter.unusedVariables false
theorem ent11 : Ent Try.prog 11 := ent_of Try.func11 (by decide +kernel) rfl
theorem ent13 : Ent Try.prog 13 := ent_of Try.func13 (by decide +kernel) rfl
theorem ent35 : Ent Try.prog 35 := ent_of Try.func35 (by decide +kernel) rfl
theorem ent36 : Ent Try.prog 36 := ent_of Try.func36 (by decide +kernel) rfl
theorem ent37 : Ent Try.prog 37 := ent_of Try.func37 (by decide +kernel) rfl
theorem ent9 : Ent Try.prog 9 := ent_of Try.func9 (by decide +kernel) rfl
theorem und4 : Try.prog.underlying 4 = some (.bool) := by kernel_rfl

theorem z_c_impl_FullestMinute_6 (L : List Visit) (nL : Nat) (hbdL : (nL : Int) ≤ 9223372036854775807) (hleL : nL = L.length) (h5 : ¬ (VsOK L)) : 0 = if VsOK L then (fullN L 720).1 else 0 := by
  first | (rw [if_neg ‹_›]; done) | (rw [if_pos ‹_›]; first | done | (obtain rfl : k = 720 := (by omega); rfl))
theorem z_c_impl_FullestMinute_7 (L : List Visit) (nL : Nat) (hbdL : (nL : Int) ≤ 9223372036854775807) (hleL : nL = L.length) (h5 : ¬ (VsOK L)) : 0 = if VsOK L then (fullN L 720).2 else 0 := by
  first | (rw [if_neg ‹_›]; done) | (rw [if_pos ‹_›]; first | done | (obtain rfl : k = 720 := (by omega); rfl))
theorem z_c_impl_FullestMinute_8 (L : List Visit) (nL : Nat) (hbdL : (nL : Int) ≤ 9223372036854775807) (hleL : nL = L.length) (h5 : ¬ (VsOK L)) : ¬ (VsOK L) := by
  assumption
theorem z_c_impl_FullestMinute_10 (L : List Visit) (nL : Nat) (hbdL : (nL : Int) ≤ 9223372036854775807) (hleL : nL = L.length) (h5 : VsOK L) (hq9 : L.length ≤ 15) : 0 ≤ 720 := by
  omega
theorem z_c_impl_FullestMinute_30 (L : List Visit) (nL : Nat) (hbdL : (nL : Int) ≤ 9223372036854775807) (hleL : nL = L.length) (h5 : VsOK L) (hq9 : L.length ≤ 15) (k : Nat) (hi16 : k ≤ 720) (h17 : (480 + (k : Int)) < 1200) (n21 : Nat) (hl26 : n21 = (seatsAt L (480 + (k : Int))).length) (hl27 : (n21 : Int) ≤ 9223372036854775807) (hq28 : (seatsAt L (480 + (k : Int))).length ≤ 6) (h29 : ((fullN L k).2) < (n21 : Int)) : k + 1 ≤ 720 := by
  omega
theorem z_c_impl_FullestMinute_31 (L : List Visit) (nL : Nat) (hbdL : (nL : Int) ≤ 9223372036854775807) (hleL : nL = L.length) (h5 : VsOK L) (hq9 : L.length ≤ 15) (k : Nat) (hi16 : k ≤ 720) (h17 : (480 + (k : Int)) < 1200) (n21 : Nat) (hl26 : n21 = (seatsAt L (480 + (k : Int))).length) (hl27 : (n21 : Int) ≤ 9223372036854775807) (hq28 : (seatsAt L (480 + (k : Int))).length ≤ 6) (h29 : ((fullN L k).2) < (n21 : Int)) : 720 - (k + 1) < 720 - k := by
  omega
theorem z_c_impl_FullestMinute_32 (L : List Visit) (nL : Nat) (hbdL : (nL : Int) ≤ 9223372036854775807) (hleL : nL = L.length) (h5 : VsOK L) (hq9 : L.length ≤ 15) (k : Nat) (hi16 : k ≤ 720) (h17 : (480 + (k : Int)) < 1200) (n21 : Nat) (hl26 : n21 = (seatsAt L (480 + (k : Int))).length) (hl27 : (n21 : Int) ≤ 9223372036854775807) (hq28 : (seatsAt L (480 + (k : Int))).length ≤ 6) (h29 : ¬ (((fullN L k).2) < (n21 : Int))) : k + 1 ≤ 720 := by
  omega
theorem z_c_impl_FullestMinute_33 (L : List Visit) (nL : Nat) (hbdL : (nL : Int) ≤ 9223372036854775807) (hleL : nL = L.length) (h5 : VsOK L) (hq9 : L.length ≤ 15) (k : Nat) (hi16 : k ≤ 720) (h17 : (480 + (k : Int)) < 1200) (n21 : Nat) (hl26 : n21 = (seatsAt L (480 + (k : Int))).length) (hl27 : (n21 : Int) ≤ 9223372036854775807) (hq28 : (seatsAt L (480 + (k : Int))).length ≤ 6) (h29 : ¬ (((fullN L k).2) < (n21 : Int))) : 720 - (k + 1) < 720 - k := by
  omega
theorem z_c_impl_FullestMinute_34 (L : List Visit) (nL : Nat) (hbdL : (nL : Int) ≤ 9223372036854775807) (hleL : nL = L.length) (h5 : VsOK L) (hq9 : L.length ≤ 15) (k : Nat) (hi16 : k ≤ 720) (h17 : ¬ ((480 + (k : Int)) < 1200)) : (fullN L k).1 = if VsOK L then (fullN L 720).1 else 0 := by
  first | (rw [if_neg ‹_›]; done) | (rw [if_pos ‹_›]; first | done | (obtain rfl : k = 720 := (by omega); rfl))
theorem z_c_impl_FullestMinute_35 (L : List Visit) (nL : Nat) (hbdL : (nL : Int) ≤ 9223372036854775807) (hleL : nL = L.length) (h5 : VsOK L) (hq9 : L.length ≤ 15) (k : Nat) (hi16 : k ≤ 720) (h17 : ¬ ((480 + (k : Int)) < 1200)) : (fullN L k).2 = if VsOK L then (fullN L 720).2 else 0 := by
  first | (rw [if_neg ‹_›]; done) | (rw [if_pos ‹_›]; first | done | (obtain rfl : k = 720 := (by omega); rfl))
theorem z_c_impl_FullestMinute_36 (L : List Visit) (nL : Nat) (hbdL : (nL : Int) ≤ 9223372036854775807) (hleL : nL = L.length) (h5 : VsOK L) (hq9 : L.length ≤ 15) (k : Nat) (hi16 : k ≤ 720) (h17 : ¬ ((480 + (k : Int)) < 1200)) : VsOK L := by
  assumption
theorem c_impl_FullestMinute (w : World) {AL : Option Addr} {nL cL BL : Nat}  (L : List Visit) (hL : SlR w BL encVisit 4 AL nL cL L) : Calls Try.prog 36 #[.slice AL nL cL] w fun e w' => e = .returned (.tuple (List.toArray [.int .i64 (if VsOK L then (fullN L 720).1 else 0), .int .i64 (if VsOK L then (fullN L 720).2 else 0), .bool (decide (VsOK L))])) ∧ Lo w w' := by
  refine calls_W 27 Try.func36 rfl rfl rfl ?_
  have hbdL := hL.bound
  have hleL := hL.len
  have hBbL := hL.bd
  refine W.seq ?_
  refine W.regS (SR.q' (r_as (v := .int .i64 0) rfl) <| SR.q' (r_as (v := .int .i64 0) rfl) <| SR.q' (r_as (v := .bool false) rfl) <| SR.nil ?_)
  refine W.seq ?_
  refine W.seq ?_
  refine W.regS (SR.q' (r_mv (v := .slice _ _ _) rfl) <| SR.call ent33 (c_impl_AreVisits w L ((hL))) rfl ?_)
  rintro e w1 ⟨rfl, hk2⟩
  refine ⟨_, rfl, ?_⟩
  have hz3 := hk2.size
  have hB4 := (Lo.refl w).lo hk2
  refine SR.q' (r_not rfl) <| SR.nil ?_
  refine W.cond_n rfl (fun h5 => ?_) (fun h5 => ?_)
  · refine W.seq ?_
    refine W.regS (SR.q' (r_as (v := .int .i64 0) rfl) <| SR.q' (r_as (v := .int .i64 0) rfl) <| SR.q' (r_as (v := .bool false) rfl) <| SR.nil ?_)
    refine W.ret ?_
    refine ret3 rfl (v := .int .i64 _) (v' := .int .i64 _) (v'' := .bool _) rfl rfl rfl ?_
    exact ⟨eR (eT3 (eI (z_c_impl_FullestMinute_6 L nL hbdL hleL h5)) (eI (z_c_impl_FullestMinute_7 L nL hbdL hleL h5)) (eDF (z_c_impl_FullestMinute_8 L nL hbdL hleL h5))), hB4⟩
  · have hq9 := vs_len h5
    refine W.skip ?_
    refine W.seq ?_
    refine W.regS (SR.q' (r_as (v := .int .i64 480) rfl) <| SR.q' (r_as (v := .int .i64 0) rfl) <| SR.nil ?_)
    refine W.seq ?_
    refine W.seq ?_
    refine W.regS (SR.q' (r_as (v := .int .i64 480) rfl) <| SR.nil ?_)
    refine W.block ?_
    refine W.loop (σ := Nat) (fun g => [(0, .slice AL nL cL), (2, .int .i64 0), (3, .int .i64 0), (4, .bool false), (5, .int .i64 ((fullN L g).1)), (6, .int .i64 ((fullN L g).2)), (7, .int .i64 (480 + (g : Int)))]) (fun g w' => (Lo w w') ∧ (SlR w' BL encVisit 4 AL nL cL L) ∧ (g ≤ 720)) (fun g => 720 - g) 0 ?_ ?_ ?_
    · exact ⟨rfl, rfl, rfl, rfl, (eI (by first | (first | omega | rfl | (rw [fullN_yes (by omega)] <;> omega) | rw [fullN_no (by omega)]) | (dsimp only; (first | omega | rfl | (rw [fullN_yes (by omega)] <;> omega) | rw [fullN_no (by omega)])))), (eI (by first | (first | omega | rfl | (rw [fullN_yes (by omega)] <;> omega) | rw [fullN_no (by omega)]) | (dsimp only; (first | omega | rfl | (rw [fullN_yes (by omega)] <;> omega) | rw [fullN_no (by omega)])))), (eI (by first | (first | omega | rfl | (rw [fullN_yes (by omega)] <;> omega) | rw [fullN_no (by omega)]) | (dsimp only; (first | omega | rfl | (rw [fullN_yes (by omega)] <;> omega) | rw [fullN_no (by omega)])))), trivial⟩
    · exact ⟨hB4, (hL).lo hk2, (z_c_impl_FullestMinute_10 L nL hbdL hleL h5 hq9)⟩
    · rintro k f11 w12 hP14
      obtain ⟨hB13, hm15, hi16⟩ : (Lo w w12) ∧ (SlR w12 BL encVisit 4 AL nL cL L) ∧ (k ≤ 720) := hP14
      refine (?_ : W _ _ _ _ _ (act _ (sets f11 [(0, .slice AL nL cL), (2, .int .i64 0), (3, .int .i64 0), (4, .bool false), (5, .int .i64 ((fullN L k).1)), (6, .int .i64 ((fullN L k).2)), (7, .int .i64 (480 + (k : Int)))])) _)
      have hzw12 := hB13.size
      refine W.seq ?_
      refine W.seq ?_
      refine W.regS (SR.q' (r_mv (v := .int .i64 _) rfl) <| SR.q' (r_lt rfl rfl) <| SR.nil ?_)
      refine W.cond_d rfl (fun h17 => ?_) (fun h17 => ?_)
      · refine W.skip ?_
        refine W.seq ?_
        refine W.block ?_
        refine W.seq ?_
        refine W.regS (SR.q' (r_mv (v := .slice _ _ _) rfl) <| SR.q' (r_mv (v := .int .i64 _) rfl) <| SR.call ent68 (c_impl_seatedAt w12 L ((hm15)) (480 + (k : Int)) (by assumption)) rfl ?_)
        rintro e w18 ⟨A20, n21, c22, rfl, hO23, hk19⟩
        refine ⟨_, rfl, ?_⟩
        have hz24 := hk19.size
        have hB25 := hB13.lo hk19
        have hl26 := hO23.len
        have hl27 := hO23.rd.bound
        have hq28 : (seatsAt L (480 + (k : Int))).length ≤ 6 := seats_len ‹VsOK L› (480 + (k : Int))
        refine SR.q' (r_len und39 rfl) <| SR.q' (r_as (v := .int .i64 _) rfl) <| SR.nil ?_
        refine W.seq ?_
        refine W.regS (SR.q' (r_mv (v := .int .i64 _) rfl) <| SR.q' (r_mv (v := .int .i64 _) rfl) <| SR.q' (r_gt rfl rfl) <| SR.nil ?_)
        refine W.cond_d rfl (fun h29 => ?_) (fun h29 => ?_)
        · refine W.regS (SR.q' (r_mv (v := .int .i64 _) rfl) <| SR.q' (r_mv (v := .int .i64 _) rfl) <| SR.q' (r_as (v := .int .i64 _) rfl) <| SR.q' (r_as (v := .int .i64 _) rfl) <| SR.nil ?_)
          refine W.regS (SR.q' (r_mv (v := .int .i64 _) rfl) <| SR.q' (r_add rfl rfl (by omega)) <| SR.q' (r_as (v := .int .i64 _) rfl) <| SR.nil ?_)
          refine ⟨k + 1, _, rfl, ⟨rfl, rfl, rfl, rfl, (eI (by first | (first | omega | rfl | (rw [fullN_yes (by omega)] <;> omega) | rw [fullN_no (by omega)]) | (dsimp only; (first | omega | rfl | (rw [fullN_yes (by omega)] <;> omega) | rw [fullN_no (by omega)])))), (eI (by first | (first | omega | rfl | (rw [fullN_yes (by omega)] <;> omega) | rw [fullN_no (by omega)]) | (dsimp only; (first | omega | rfl | (rw [fullN_yes (by omega)] <;> omega) | rw [fullN_no (by omega)])))), (eI (by first | (first | omega | rfl | (rw [fullN_yes (by omega)] <;> omega) | rw [fullN_no (by omega)]) | (dsimp only; (first | omega | rfl | (rw [fullN_yes (by omega)] <;> omega) | rw [fullN_no (by omega)])))), trivial⟩, ⟨hB25, (hm15).lo hk19, ?_⟩, ?_⟩
          · exact (z_c_impl_FullestMinute_30 L nL hbdL hleL h5 hq9 k hi16 h17 n21 hl26 hl27 hq28 h29)
          · exact (z_c_impl_FullestMinute_31 L nL hbdL hleL h5 hq9 k hi16 h17 n21 hl26 hl27 hq28 h29)
        · refine W.skip ?_
          refine W.regS (SR.q' (r_mv (v := .int .i64 _) rfl) <| SR.q' (r_add rfl rfl (by omega)) <| SR.q' (r_as (v := .int .i64 _) rfl) <| SR.nil ?_)
          refine ⟨k + 1, _, rfl, ⟨rfl, rfl, rfl, rfl, (eI (by first | (first | omega | rfl | (rw [fullN_yes (by omega)] <;> omega) | rw [fullN_no (by omega)]) | (dsimp only; (first | omega | rfl | (rw [fullN_yes (by omega)] <;> omega) | rw [fullN_no (by omega)])))), (eI (by first | (first | omega | rfl | (rw [fullN_yes (by omega)] <;> omega) | rw [fullN_no (by omega)]) | (dsimp only; (first | omega | rfl | (rw [fullN_yes (by omega)] <;> omega) | rw [fullN_no (by omega)])))), (eI (by first | (first | omega | rfl | (rw [fullN_yes (by omega)] <;> omega) | rw [fullN_no (by omega)]) | (dsimp only; (first | omega | rfl | (rw [fullN_yes (by omega)] <;> omega) | rw [fullN_no (by omega)])))), trivial⟩, ⟨hB25, (hm15).lo hk19, ?_⟩, ?_⟩
          · exact (z_c_impl_FullestMinute_32 L nL hbdL hleL h5 hq9 k hi16 h17 n21 hl26 hl27 hq28 h29)
          · exact (z_c_impl_FullestMinute_33 L nL hbdL hleL h5 hq9 k hi16 h17 n21 hl26 hl27 hq28 h29)
      · refine W.exit (xin_here ?_)
        refine W.seq ?_
        refine W.regS (SR.q' (r_mv (v := .int .i64 _) rfl) <| SR.q' (r_mv (v := .int .i64 _) rfl) <| SR.q' (r_as (v := .int .i64 _) rfl) <| SR.q' (r_as (v := .int .i64 _) rfl) <| SR.q' (r_as (v := .bool true) rfl) <| SR.nil ?_)
        refine W.ret ?_
        refine ret3 rfl (v := .int .i64 _) (v' := .int .i64 _) (v'' := .bool _) rfl rfl rfl ?_
        exact ⟨eR (eT3 (eI (z_c_impl_FullestMinute_34 L nL hbdL hleL h5 hq9 k hi16 h17)) (eI (z_c_impl_FullestMinute_35 L nL hbdL hleL h5 hq9 k hi16 h17)) (eDT (z_c_impl_FullestMinute_36 L nL hbdL hleL h5 hq9 k hi16 h17))), hB13⟩

theorem z_c_spec_FullestMinute_6 (L : List Visit) (nL : Nat) (hbdL : (nL : Int) ≤ 9223372036854775807) (hleL : nL = L.length) (h5 : ¬ (VsOK L)) : 0 = if VsOK L then (fullN L 720).1 else 0 := by
  first | (rw [if_neg ‹_›]; done) | (rw [if_pos ‹_›]; first | done | (subst hleL; obtain rfl : k = L.length := (by omega); rw [full_eq ‹_›]))
theorem z_c_spec_FullestMinute_7 (L : List Visit) (nL : Nat) (hbdL : (nL : Int) ≤ 9223372036854775807) (hleL : nL = L.length) (h5 : ¬ (VsOK L)) : 0 = if VsOK L then (fullN L 720).2 else 0 := by
  first | (rw [if_neg ‹_›]; done) | (rw [if_pos ‹_›]; first | done | (subst hleL; obtain rfl : k = L.length := (by omega); rw [full_eq ‹_›]))
theorem z_c_spec_FullestMinute_8 (L : List Visit) (nL : Nat) (hbdL : (nL : Int) ≤ 9223372036854775807) (hleL : nL = L.length) (h5 : ¬ (VsOK L)) : ¬ (VsOK L) := by
  assumption
theorem z_c_spec_FullestMinute_10 (L : List Visit) (nL : Nat) (hbdL : (nL : Int) ≤ 9223372036854775807) (hleL : nL = L.length) (h5 : VsOK L) (hq9 : L.length ≤ 15) : 0 ≤ nL := by
  omega
theorem z_c_spec_FullestMinute_33 (L : List Visit) (nL : Nat) (hbdL : (nL : Int) ≤ 9223372036854775807) (hleL : nL = L.length) (h5 : VsOK L) (hq9 : L.length ≤ 15) (k : Nat) (hi16 : k ≤ nL) (h17 : (k : Int) < (nL : Int)) (hx19 : L[k]? = some (gt L k)) (hq20 : ((1 : Int) ≤ (gt L k).Reader ∧ (gt L k).Reader ≤ 999) ∧ ((1 : Int) ≤ (gt L k).Seat ∧ (gt L k).Seat ≤ 6) ∧ ((480 : Int) ≤ (gt L k).From ∧ (gt L k).From ≤ 1200) ∧ ((480 : Int) ≤ (gt L k).Until ∧ (gt L k).Until ≤ 1200) ∧ (gt L k).From < (gt L k).Until) (n24 : Nat) (hl29 : n24 = (satL L ((gt L k).From)).length) (hl30 : (n24 : Int) ≤ 9223372036854775807) (hq31 : (satL L ((gt L k).From)).length ≤ 6) (h32 : ((fullS L k).2) < (n24 : Int)) : k + 1 ≤ nL := by
  omega
theorem z_c_spec_FullestMinute_34 (L : List Visit) (nL : Nat) (hbdL : (nL : Int) ≤ 9223372036854775807) (hleL : nL = L.length) (h5 : VsOK L) (hq9 : L.length ≤ 15) (k : Nat) (hi16 : k ≤ nL) (h17 : (k : Int) < (nL : Int)) (hx19 : L[k]? = some (gt L k)) (hq20 : ((1 : Int) ≤ (gt L k).Reader ∧ (gt L k).Reader ≤ 999) ∧ ((1 : Int) ≤ (gt L k).Seat ∧ (gt L k).Seat ≤ 6) ∧ ((480 : Int) ≤ (gt L k).From ∧ (gt L k).From ≤ 1200) ∧ ((480 : Int) ≤ (gt L k).Until ∧ (gt L k).Until ≤ 1200) ∧ (gt L k).From < (gt L k).Until) (n24 : Nat) (hl29 : n24 = (satL L ((gt L k).From)).length) (hl30 : (n24 : Int) ≤ 9223372036854775807) (hq31 : (satL L ((gt L k).From)).length ≤ 6) (h32 : ((fullS L k).2) < (n24 : Int)) : nL - (k + 1) < nL - k := by
  omega
theorem z_c_spec_FullestMinute_35 (L : List Visit) (nL : Nat) (hbdL : (nL : Int) ≤ 9223372036854775807) (hleL : nL = L.length) (h5 : VsOK L) (hq9 : L.length ≤ 15) (k : Nat) (hi16 : k ≤ nL) (h17 : (k : Int) < (nL : Int)) (hx19 : L[k]? = some (gt L k)) (hq20 : ((1 : Int) ≤ (gt L k).Reader ∧ (gt L k).Reader ≤ 999) ∧ ((1 : Int) ≤ (gt L k).Seat ∧ (gt L k).Seat ≤ 6) ∧ ((480 : Int) ≤ (gt L k).From ∧ (gt L k).From ≤ 1200) ∧ ((480 : Int) ≤ (gt L k).Until ∧ (gt L k).Until ≤ 1200) ∧ (gt L k).From < (gt L k).Until) (n24 : Nat) (hl29 : n24 = (satL L ((gt L k).From)).length) (hl30 : (n24 : Int) ≤ 9223372036854775807) (hq31 : (satL L ((gt L k).From)).length ≤ 6) (h32 : ¬ (((fullS L k).2) < (n24 : Int))) : k + 1 ≤ nL := by
  omega
theorem z_c_spec_FullestMinute_36 (L : List Visit) (nL : Nat) (hbdL : (nL : Int) ≤ 9223372036854775807) (hleL : nL = L.length) (h5 : VsOK L) (hq9 : L.length ≤ 15) (k : Nat) (hi16 : k ≤ nL) (h17 : (k : Int) < (nL : Int)) (hx19 : L[k]? = some (gt L k)) (hq20 : ((1 : Int) ≤ (gt L k).Reader ∧ (gt L k).Reader ≤ 999) ∧ ((1 : Int) ≤ (gt L k).Seat ∧ (gt L k).Seat ≤ 6) ∧ ((480 : Int) ≤ (gt L k).From ∧ (gt L k).From ≤ 1200) ∧ ((480 : Int) ≤ (gt L k).Until ∧ (gt L k).Until ≤ 1200) ∧ (gt L k).From < (gt L k).Until) (n24 : Nat) (hl29 : n24 = (satL L ((gt L k).From)).length) (hl30 : (n24 : Int) ≤ 9223372036854775807) (hq31 : (satL L ((gt L k).From)).length ≤ 6) (h32 : ¬ (((fullS L k).2) < (n24 : Int))) : nL - (k + 1) < nL - k := by
  omega
theorem z_c_spec_FullestMinute_37 (L : List Visit) (nL : Nat) (hbdL : (nL : Int) ≤ 9223372036854775807) (hleL : nL = L.length) (h5 : VsOK L) (hq9 : L.length ≤ 15) (k : Nat) (hi16 : k ≤ nL) (h17 : ¬ ((k : Int) < (nL : Int))) : (fullS L k).1 = if VsOK L then (fullN L 720).1 else 0 := by
  first | (rw [if_neg ‹_›]; done) | (rw [if_pos ‹_›]; first | done | (subst hleL; obtain rfl : k = L.length := (by omega); rw [full_eq ‹_›]))
theorem z_c_spec_FullestMinute_38 (L : List Visit) (nL : Nat) (hbdL : (nL : Int) ≤ 9223372036854775807) (hleL : nL = L.length) (h5 : VsOK L) (hq9 : L.length ≤ 15) (k : Nat) (hi16 : k ≤ nL) (h17 : ¬ ((k : Int) < (nL : Int))) : (fullS L k).2 = if VsOK L then (fullN L 720).2 else 0 := by
  first | (rw [if_neg ‹_›]; done) | (rw [if_pos ‹_›]; first | done | (subst hleL; obtain rfl : k = L.length := (by omega); rw [full_eq ‹_›]))
theorem z_c_spec_FullestMinute_39 (L : List Visit) (nL : Nat) (hbdL : (nL : Int) ≤ 9223372036854775807) (hleL : nL = L.length) (h5 : VsOK L) (hq9 : L.length ≤ 15) (k : Nat) (hi16 : k ≤ nL) (h17 : ¬ ((k : Int) < (nL : Int))) : VsOK L := by
  assumption
theorem c_spec_FullestMinute (w : World) {AL : Option Addr} {nL cL BL : Nat}  (L : List Visit) (hL : SlR w BL encVisit 4 AL nL cL L) : Calls Try.prog 35 #[.slice AL nL cL] w fun e w' => e = .returned (.tuple (List.toArray [.int .i64 (if VsOK L then (fullN L 720).1 else 0), .int .i64 (if VsOK L then (fullN L 720).2 else 0), .bool (decide (VsOK L))])) ∧ Lo w w' := by
  refine calls_W 42 Try.func35 rfl rfl rfl ?_
  have hbdL := hL.bound
  have hleL := hL.len
  have hBbL := hL.bd
  refine W.seq ?_
  refine W.regS (SR.q' (r_as (v := .int .i64 0) rfl) <| SR.q' (r_as (v := .int .i64 0) rfl) <| SR.q' (r_as (v := .bool false) rfl) <| SR.nil ?_)
  refine W.seq ?_
  refine W.seq ?_
  refine W.regS (SR.q' (r_mv (v := .slice _ _ _) rfl) <| SR.call ent42 (c_spec_l30Good w L ((hL))) rfl ?_)
  rintro e w1 ⟨rfl, hk2⟩
  refine ⟨_, rfl, ?_⟩
  have hz3 := hk2.size
  have hB4 := (Lo.refl w).lo hk2
  refine SR.q' (r_not rfl) <| SR.nil ?_
  refine W.cond_n rfl (fun h5 => ?_) (fun h5 => ?_)
  · refine W.seq ?_
    refine W.regS (SR.q' (r_as (v := .int .i64 0) rfl) <| SR.q' (r_as (v := .int .i64 0) rfl) <| SR.q' (r_as (v := .bool false) rfl) <| SR.nil ?_)
    refine W.ret ?_
    refine ret3 rfl (v := .int .i64 _) (v' := .int .i64 _) (v'' := .bool _) rfl rfl rfl ?_
    exact ⟨eR (eT3 (eI (z_c_spec_FullestMinute_6 L nL hbdL hleL h5)) (eI (z_c_spec_FullestMinute_7 L nL hbdL hleL h5)) (eDF (z_c_spec_FullestMinute_8 L nL hbdL hleL h5))), hB4⟩
  · have hq9 := vs_len h5
    refine W.skip ?_
    refine W.seq ?_
    refine W.regS (SR.q' (r_as (v := .int .i64 480) rfl) <| SR.q' (r_as (v := .int .i64 0) rfl) <| SR.nil ?_)
    refine W.seq ?_
    refine W.seq ?_
    refine W.regS (SR.q' (r_as (v := .int .i64 0) rfl) <| SR.nil ?_)
    refine W.block ?_
    refine W.loop (σ := Nat) (fun g => [(0, .slice AL nL cL), (2, .int .i64 0), (3, .int .i64 0), (4, .bool false), (5, .int .i64 ((fullS L g).1)), (6, .int .i64 ((fullS L g).2)), (7, .int .i64 (g : Int))]) (fun g w' => (Lo w w') ∧ (SlR w' BL encVisit 4 AL nL cL L) ∧ (g ≤ nL)) (fun g => nL - g) 0 ?_ ?_ ?_
    · exact ⟨rfl, rfl, rfl, rfl, (eI (by first | (first | omega | rfl | (rw [fullS_yes ‹VsOK L› (by omega) (by omega)] <;> omega) | rw [fullS_no ‹VsOK L› (by omega) (by omega)]) | (dsimp only; (first | omega | rfl | (rw [fullS_yes ‹VsOK L› (by omega) (by omega)] <;> omega) | rw [fullS_no ‹VsOK L› (by omega) (by omega)])))), (eI (by first | (first | omega | rfl | (rw [fullS_yes ‹VsOK L› (by omega) (by omega)] <;> omega) | rw [fullS_no ‹VsOK L› (by omega) (by omega)]) | (dsimp only; (first | omega | rfl | (rw [fullS_yes ‹VsOK L› (by omega) (by omega)] <;> omega) | rw [fullS_no ‹VsOK L› (by omega) (by omega)])))), (eI (by first | (first | omega | rfl | (rw [fullS_yes ‹VsOK L› (by omega) (by omega)] <;> omega) | rw [fullS_no ‹VsOK L› (by omega) (by omega)]) | (dsimp only; (first | omega | rfl | (rw [fullS_yes ‹VsOK L› (by omega) (by omega)] <;> omega) | rw [fullS_no ‹VsOK L› (by omega) (by omega)])))), trivial⟩
    · exact ⟨hB4, (hL).lo hk2, (z_c_spec_FullestMinute_10 L nL hbdL hleL h5 hq9)⟩
    · rintro k f11 w12 hP14
      obtain ⟨hB13, hm15, hi16⟩ : (Lo w w12) ∧ (SlR w12 BL encVisit 4 AL nL cL L) ∧ (k ≤ nL) := hP14
      refine (?_ : W _ _ _ _ _ (act _ (sets f11 [(0, .slice AL nL cL), (2, .int .i64 0), (3, .int .i64 0), (4, .bool false), (5, .int .i64 ((fullS L k).1)), (6, .int .i64 ((fullS L k).2)), (7, .int .i64 (k : Int))])) _)
      have hzw12 := hB13.size
      refine W.seq ?_
      refine W.seq ?_
      refine W.regS (SR.q' (r_mv (v := .int .i64 _) rfl) <| SR.q' (r_mv (v := .slice _ _ _) rfl) <| SR.q' (r_len und24 rfl) <| SR.q' (r_lt rfl rfl) <| SR.nil ?_)
      refine W.cond_d rfl (fun h17 => ?_) (fun h17 => ?_)
      · refine W.skip ?_
        refine W.seq ?_
        refine W.block ?_
        refine W.seq ?_
        refine W.regS (SR.q' (r_mv (v := .slice _ _ _) rfl) <| SR.q' (r_mv (v := .slice _ _ _) rfl) <| SR.q' (r_mv (v := .int .i64 _) rfl) <| ?_)
        have hx19 := (hm15).elem (i := k) (by omega)
        have hq20 := vs_rng h5 hx19
        refine SR.q' (r_ixR tsl24 (hm15) rfl rfl (by omega)) <| SR.q' (r_fa fa59_2 rfl) <| SR.q' (r_ld (v := .int .i64 ((gt L k).From)) sca3 rfl ((hm15).cell hx19 rfl)) <| SR.call ent37 (c_spec_SeatedAt w12 L ((hm15)) ((gt L k).From)) rfl ?_
        rintro e w21 ⟨A23, n24, c25, rfl, hO26, hk22⟩
        refine ⟨_, rfl, ?_⟩
        have hz27 := hk22.size
        have hB28 := hB13.lo hk22
        have hl29 := hO26.len
        have hl30 := hO26.rd.bound
        have hq31 : (satL L ((gt L k).From)).length ≤ 6 := sat_len L ((gt L k).From)
        refine SR.q' (r_mv (v := .tuple (List.toArray _)) rfl) <| SR.q' (r_ext (v := .slice _ _ _) rfl rfl) <| SR.q' (r_ext (v := .bool _) rfl rfl) <| SR.q' (r_as (v := .slice _ _ _) rfl) <| SR.q' (r_as (v := .bool _) rfl) <| SR.nil ?_
        refine W.seq ?_
        refine W.regS (SR.q' (r_mv (v := .slice _ _ _) rfl) <| SR.q' (r_len und39 rfl) <| SR.q' (r_mv (v := .int .i64 _) rfl) <| SR.q' (r_gt rfl rfl) <| SR.nil ?_)
        refine W.cond_d rfl (fun h32 => ?_) (fun h32 => ?_)
        · refine W.seq ?_
          refine W.regS (SR.q' (r_mv (v := .slice _ _ _) rfl) <| SR.q' (r_mv (v := .int .i64 _) rfl) <| SR.q' (r_ixR tsl24 ((hm15).lo hk22) rfl rfl (by omega)) <| SR.q' (r_fa fa59_2 rfl) <| SR.q' (r_ld (v := .int .i64 ((gt L k).From)) sca3 rfl (((hm15).lo hk22).cell hx19 rfl)) <| SR.q' (r_as (v := .int .i64 _) rfl) <| SR.nil ?_)
          refine W.regS (SR.q' (r_mv (v := .slice _ _ _) rfl) <| SR.q' (r_len und39 rfl) <| SR.q' (r_as (v := .int .i64 _) rfl) <| SR.nil ?_)
          refine W.regS (SR.q' (r_mv (v := .int .i64 _) rfl) <| SR.q' (r_add rfl rfl (by omega)) <| SR.q' (r_as (v := .int .i64 _) rfl) <| SR.nil ?_)
          refine ⟨k + 1, _, rfl, ⟨rfl, rfl, rfl, rfl, (eI (by first | (first | omega | rfl | (rw [fullS_yes ‹VsOK L› (by omega) (by omega)] <;> omega) | rw [fullS_no ‹VsOK L› (by omega) (by omega)]) | (dsimp only; (first | omega | rfl | (rw [fullS_yes ‹VsOK L› (by omega) (by omega)] <;> omega) | rw [fullS_no ‹VsOK L› (by omega) (by omega)])))), (eI (by first | (first | omega | rfl | (rw [fullS_yes ‹VsOK L› (by omega) (by omega)] <;> omega) | rw [fullS_no ‹VsOK L› (by omega) (by omega)]) | (dsimp only; (first | omega | rfl | (rw [fullS_yes ‹VsOK L› (by omega) (by omega)] <;> omega) | rw [fullS_no ‹VsOK L› (by omega) (by omega)])))), (eI (by first | (first | omega | rfl | (rw [fullS_yes ‹VsOK L› (by omega) (by omega)] <;> omega) | rw [fullS_no ‹VsOK L› (by omega) (by omega)]) | (dsimp only; (first | omega | rfl | (rw [fullS_yes ‹VsOK L› (by omega) (by omega)] <;> omega) | rw [fullS_no ‹VsOK L› (by omega) (by omega)])))), trivial⟩, ⟨hB28, (hm15).lo hk22, ?_⟩, ?_⟩
          · exact (z_c_spec_FullestMinute_33 L nL hbdL hleL h5 hq9 k hi16 h17 hx19 hq20 n24 hl29 hl30 hq31 h32)
          · exact (z_c_spec_FullestMinute_34 L nL hbdL hleL h5 hq9 k hi16 h17 hx19 hq20 n24 hl29 hl30 hq31 h32)
        · refine W.skip ?_
          refine W.regS (SR.q' (r_mv (v := .int .i64 _) rfl) <| SR.q' (r_add rfl rfl (by omega)) <| SR.q' (r_as (v := .int .i64 _) rfl) <| SR.nil ?_)
          refine ⟨k + 1, _, rfl, ⟨rfl, rfl, rfl, rfl, (eI (by first | (first | omega | rfl | (rw [fullS_yes ‹VsOK L› (by omega) (by omega)] <;> omega) | rw [fullS_no ‹VsOK L› (by omega) (by omega)]) | (dsimp only; (first | omega | rfl | (rw [fullS_yes ‹VsOK L› (by omega) (by omega)] <;> omega) | rw [fullS_no ‹VsOK L› (by omega) (by omega)])))), (eI (by first | (first | omega | rfl | (rw [fullS_yes ‹VsOK L› (by omega) (by omega)] <;> omega) | rw [fullS_no ‹VsOK L› (by omega) (by omega)]) | (dsimp only; (first | omega | rfl | (rw [fullS_yes ‹VsOK L› (by omega) (by omega)] <;> omega) | rw [fullS_no ‹VsOK L› (by omega) (by omega)])))), (eI (by first | (first | omega | rfl | (rw [fullS_yes ‹VsOK L› (by omega) (by omega)] <;> omega) | rw [fullS_no ‹VsOK L› (by omega) (by omega)]) | (dsimp only; (first | omega | rfl | (rw [fullS_yes ‹VsOK L› (by omega) (by omega)] <;> omega) | rw [fullS_no ‹VsOK L› (by omega) (by omega)])))), trivial⟩, ⟨hB28, (hm15).lo hk22, ?_⟩, ?_⟩
          · exact (z_c_spec_FullestMinute_35 L nL hbdL hleL h5 hq9 k hi16 h17 hx19 hq20 n24 hl29 hl30 hq31 h32)
          · exact (z_c_spec_FullestMinute_36 L nL hbdL hleL h5 hq9 k hi16 h17 hx19 hq20 n24 hl29 hl30 hq31 h32)
      · refine W.exit (xin_here ?_)
        refine W.seq ?_
        refine W.regS (SR.q' (r_mv (v := .int .i64 _) rfl) <| SR.q' (r_mv (v := .int .i64 _) rfl) <| SR.q' (r_as (v := .int .i64 _) rfl) <| SR.q' (r_as (v := .int .i64 _) rfl) <| SR.q' (r_as (v := .bool true) rfl) <| SR.nil ?_)
        refine W.ret ?_
        refine ret3 rfl (v := .int .i64 _) (v' := .int .i64 _) (v'' := .bool _) rfl rfl rfl ?_
        exact ⟨eR (eT3 (eI (z_c_spec_FullestMinute_37 L nL hbdL hleL h5 hq9 k hi16 h17)) (eI (z_c_spec_FullestMinute_38 L nL hbdL hleL h5 hq9 k hi16 h17)) (eDT (z_c_spec_FullestMinute_39 L nL hbdL hleL h5 hq9 k hi16 h17))), hB13⟩

theorem z_c_laws_FnExactFullestMinute_50 (L : List Visit) (nL : Nat) (hbdL : (nL : Int) ≤ 9223372036854775807) (hleL : nL = L.length) (h5 : ¬ ((szN L.length 1048576) < 0)) (hq6 : ((L.length : Nat) : Int) ≤ 1048576 ∧ szN L.length 1048576 = 1048576 - (L.length : Int)) (n10 : Nat) (hl15 : n10 = (L).length) (hl16 : (n10 : Int) ≤ 9223372036854775807) (n24 : Nat) (hl29 : n24 = (L).length) (hl30 : (n24 : Int) ≤ 9223372036854775807) (n38 : Nat) (hl43 : n38 = (L).length) (hl44 : (n38 : Int) ≤ 9223372036854775807) (h49 : ¬ (L = L)) : false = true := by
  first | (simp_all; done) | omega | (simp at *; omega)
theorem c_laws_FnExactFullestMinute (w : World) {AL : Option Addr} {nL cL BL : Nat}  (L : List Visit) (hL : SlR w BL encVisit 4 AL nL cL L) : Calls Try.prog 7 #[.slice AL nL cL] w fun e w' => e = .returned (.bool true) ∧ Lo w w' := by
  refine calls_W 49 Try.func7 rfl rfl rfl ?_
  have hbdL := hL.bound
  have hleL := hL.len
  have hBbL := hL.bd
  refine W.seq ?_
  refine W.regS (SR.q' (r_as (v := .bool false) rfl) <| SR.nil ?_)
  refine W.seq ?_
  refine W.regS (SR.q' (r_as (v := .int .i64 1048576) rfl) <| SR.nil ?_)
  refine W.seq ?_
  refine W.regS (SR.q' (r_mv (v := .slice _ _ _) rfl) <| SR.q' (r_mv (v := .int .i64 _) rfl) <| SR.call ent9 (c_laws_szVisitS w L ((hL)) 1048576 (by omega) (by omega)) rfl ?_)
  rintro e w1 ⟨rfl, hk2⟩
  refine ⟨_, rfl, ?_⟩
  have hz3 := hk2.size
  have hB4 := (Lo.refl w).lo hk2
  refine SR.q' (r_as (v := .int .i64 _) rfl) <| SR.nil ?_
  refine W.seq ?_
  refine W.seq ?_
  refine W.regS (SR.q' (r_mv (v := .int .i64 _) rfl) <| SR.q' (r_lt rfl rfl) <| SR.nil ?_)
  refine W.cond_d rfl (fun h5 => ?_) (fun h5 => ?_)
  · refine W.seq ?_
    refine W.regS (SR.q' (r_as (v := .bool true) rfl) <| SR.nil ?_)
    refine W.ret ?_
    refine ret1 rfl (v := .bool _) rfl ?_
    exact ⟨eR rfl, hB4⟩
  · have hq6 := szN_ok h5
    refine W.skip ?_
    refine W.seq ?_
    refine W.regS (SR.q' (r_mv (v := .slice _ _ _) rfl) <| SR.call ent11 (c_laws_toVisitS w1 L (((hL).lo hk2)) (by omega)) rfl ?_)
    rintro e w7 ⟨A9, n10, c11, rfl, hO12, hk8⟩
    refine ⟨_, rfl, ?_⟩
    have hz13 := hk8.size
    have hB14 := hB4.lo hk8
    have hl15 := hO12.len
    have hl16 := hO12.rd.bound
    refine SR.call ent35 (c_spec_FullestMinute w7 L (((hO12).rd))) rfl ?_
    rintro e w17 ⟨rfl, hk18⟩
    refine ⟨_, rfl, ?_⟩
    have hz19 := hk18.size
    have hB20 := hB14.lo hk18
    refine SR.q' (r_mv (v := .tuple (List.toArray _)) rfl) <| SR.q' (r_ext (v := .int .i64 _) rfl rfl) <| SR.q' (r_ext (v := .int .i64 _) rfl rfl) <| SR.q' (r_ext (v := .bool _) rfl rfl) <| SR.q' (r_as (v := .int .i64 _) rfl) <| SR.q' (r_as (v := .int .i64 _) rfl) <| SR.q' (r_as (v := .bool _) rfl) <| SR.nil ?_
    refine W.seq ?_
    refine W.regS (SR.q' (r_mv (v := .slice _ _ _) rfl) <| SR.call ent11 (c_laws_toVisitS w17 L (((((hL).lo hk2).lo hk8).lo hk18)) (by omega)) rfl ?_)
    rintro e w21 ⟨A23, n24, c25, rfl, hO26, hk22⟩
    refine ⟨_, rfl, ?_⟩
    have hz27 := hk22.size
    have hB28 := hB20.lo hk22
    have hl29 := hO26.len
    have hl30 := hO26.rd.bound
    refine SR.q' (r_as (v := .slice _ _ _) rfl) <| SR.nil ?_
    refine W.seq ?_
    refine W.regS (SR.q' (r_mv (v := .slice _ _ _) rfl) <| SR.call ent36 (c_impl_FullestMinute w21 L (((hO26).rd))) rfl ?_)
    rintro e w31 ⟨rfl, hk32⟩
    refine ⟨_, rfl, ?_⟩
    have hz33 := hk32.size
    have hB34 := hB28.lo hk32
    refine SR.q' (r_mv (v := .tuple (List.toArray _)) rfl) <| SR.q' (r_ext (v := .int .i64 _) rfl rfl) <| SR.q' (r_ext (v := .int .i64 _) rfl rfl) <| SR.q' (r_ext (v := .bool _) rfl rfl) <| SR.q' (r_as (v := .int .i64 _) rfl) <| SR.q' (r_as (v := .int .i64 _) rfl) <| SR.q' (r_as (v := .bool _) rfl) <| SR.nil ?_
    refine W.seq ?_
    refine W.seq ?_
    refine W.regS (SR.q' (r_mv (v := .int .i64 _) rfl) <| SR.q' (r_mv (v := .int .i64 _) rfl) <| SR.q' (r_ne_s rfl rfl) <| SR.q' (r_mv (v := .bool _) rfl) <| SR.g' rfl (r_mv (v := .int .i64 _) rfl) <| SR.g' rfl (r_mv (v := .int .i64 _) rfl) <| SR.g' rfl (r_ne_s rfl rfl) <| SR.q' (r_pick false rfl (v := .bool _) rfl) <| SR.q' (r_mv (v := .bool _) rfl) <| SR.g' rfl (r_mv (v := .bool _) rfl) <| SR.g' rfl (r_mv (v := .bool _) rfl) <| SR.g' rfl (r_neb_s und4 rfl rfl) <| SR.q' (r_pick false rfl (v := .bool _) rfl) <| SR.nil ?_)
    refine W.cond_f rfl ?_
    refine W.skip ?_
    refine W.seq ?_
    refine W.seq ?_
    refine W.regS (SR.q' (r_mv (v := .slice _ _ _) rfl) <| SR.q' (r_mv (v := .slice _ _ _) rfl) <| SR.call ent11 (c_laws_toVisitS w31 L (((((((hL).lo hk2).lo hk8).lo hk18).lo hk22).lo hk32)) (by omega)) rfl ?_)
    rintro e w35 ⟨A37, n38, c39, rfl, hO40, hk36⟩
    refine ⟨_, rfl, ?_⟩
    have hz41 := hk36.size
    have hB42 := hB34.lo hk36
    have hl43 := hO40.len
    have hl44 := hO40.rd.bound
    refine SR.call ent13 (c_laws_eqVisitS w35 L (((((hO26).lo hk32).lo hk36).rd)) L (((hO40).rd))) rfl ?_
    rintro e w45 ⟨rfl, hk46⟩
    refine ⟨_, rfl, ?_⟩
    have hz47 := hk46.size
    have hB48 := hB42.lo hk46
    refine SR.q' (r_not rfl) <| SR.nil ?_
    refine W.cond_n rfl (fun h49 => ?_) (fun h49 => ?_)
    · refine W.seq ?_
      refine W.regS (SR.q' (r_as (v := .bool false) rfl) <| SR.nil ?_)
      refine W.ret ?_
      refine ret1 rfl (v := .bool _) rfl ?_
      exact ⟨eR (eB (z_c_laws_FnExactFullestMinute_50 L nL hbdL hleL h5 hq6 n10 hl15 hl16 n24 hl29 hl30 n38 hl43 hl44 h49)), hB48⟩
    · refine W.skip ?_
      refine W.seq ?_
      refine W.regS (SR.q' (r_as (v := .bool true) rfl) <| SR.nil ?_)
      refine W.ret ?_
      refine ret1 rfl (v := .bool _) rfl ?_
      exact ⟨eR rfl, hB48⟩
end Go.Proofs.Ytobbccbdgedajaa
