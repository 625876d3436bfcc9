/- Walks, printed by a program of this claim's author. -/
import Derived.Test.YthgbcadgnihdiaaGreatDoorChecked
import Derived.Test.YthgbcadgnihdiaaGreatDoorRa
import Derived.Test.YthgbcadgnihdiaaGreatDoorFu
import Derived.Test.YthgbcadgnihdiaaGreatDoorFo
import Derived.Test.YthgbcadgnihdiaaGreatDoorFp
import Derived.Test.YthgbcadgnihdiaaGreatDoorFt
import Derived.Test.YthgbcadgnihdiaaGreatDoorRe
import Derived.Test.YthgbcadgnihdiaaGreatDoorG30d
namespace Go.Proofs.YthgbcadgnihdiaaGreatDoor
open Go Go.RowKit Fw
set_option maxRecDepth 10000
set_option linter.unusedVariables false
theorem bld45_1_2 (a1 : Int) (a2 : Int) : Tryz.prog.built 45 [(1, .int .i64 a1), (2, .int .i64 a2)] = some (List.toArray [.int .i64 0, .int .i64 a1, .int .i64 a2, .int .i64 0]) := by kernel_rfl

theorem z_c_spec_SeatMinutes_6 (L : List Visit) (nL : Nat) (hbdL : (nL : Int) ≤ 9223372036854775807) (hleL : nL = L.length) (r : Int) (h5 : ¬ (VsOK L)) : 0 = if VsOK L ∧ (1 ≤ r ∧ r ≤ 999) then minsN L r else 0 := by
  first | (rw [if_neg (by intro hh; simp_all)]; done) | (rw [if_neg (by intro hh; rcases ‹_ ∨ _› with h | h; exact h hh.1; exact h hh.2)]; done) | (have hh := ‹_ ∧ minsN _ _ = _ ∧ _›; rw [if_pos ⟨‹VsOK L›, by omega⟩, ← hh.2.1, List.take_of_length_le (by omega)])
theorem z_c_spec_SeatMinutes_7 (L : List Visit) (nL : Nat) (hbdL : (nL : Int) ≤ 9223372036854775807) (hleL : nL = L.length) (r : Int) (h5 : ¬ (VsOK L)) : ¬ (VsOK L ∧ (1 ≤ r ∧ r ≤ 999)) := by
  first | (simp_all; done) | exact ⟨‹VsOK L›, by omega⟩ | (intro hh; simp_all; done)
theorem z_c_spec_SeatMinutes_14 (L : List Visit) (nL : Nat) (hbdL : (nL : Int) ≤ 9223372036854775807) (hleL : nL = L.length) (r : Int) (h5 : VsOK L) (hq8 : L.length ≤ 15) (h13 : ¬ (1 ≤ r ∧ r ≤ 999)) : 0 = if VsOK L ∧ (1 ≤ r ∧ r ≤ 999) then minsN L r else 0 := by
  first | (rw [if_neg (by intro hh; simp_all)]; done) | (rw [if_neg (by intro hh; rcases ‹_ ∨ _› with h | h; exact h hh.1; exact h hh.2)]; done) | (have hh := ‹_ ∧ minsN _ _ = _ ∧ _›; rw [if_pos ⟨‹VsOK L›, by omega⟩, ← hh.2.1, List.take_of_length_le (by omega)])
theorem z_c_spec_SeatMinutes_15 (L : List Visit) (nL : Nat) (hbdL : (nL : Int) ≤ 9223372036854775807) (hleL : nL = L.length) (r : Int) (h5 : VsOK L) (hq8 : L.length ≤ 15) (h13 : ¬ (1 ≤ r ∧ r ≤ 999)) : ¬ (VsOK L ∧ (1 ≤ r ∧ r ≤ 999)) := by
  first | (simp_all; done) | exact ⟨‹VsOK L›, by omega⟩ | (intro hh; simp_all; done)
theorem z_c_spec_SeatMinutes_16 (L : List Visit) (nL : Nat) (hbdL : (nL : Int) ≤ 9223372036854775807) (hleL : nL = L.length) (r : Int) (h5 : VsOK L) (hq8 : L.length ≤ 15) (h13 : 1 ≤ r ∧ r ≤ 999) : 0 ≤ nL ∧ minsN (L.take 0) r = (0 : Int) ∧ 0 ≤ (0 : Int) ∧ (0 : Int) ≤ 720 * (0 : Int) := by
  exact ⟨by omega, rfl, by omega, by omega⟩
theorem z_c_spec_SeatMinutes_32 (L : List Visit) (nL : Nat) (hbdL : (nL : Int) ≤ 9223372036854775807) (hleL : nL = L.length) (r : Int) (h5 : VsOK L) (hq8 : L.length ≤ 15) (h13 : 1 ≤ r ∧ r ≤ 999) (k : Nat) (s : Int) (hi22 : k ≤ nL ∧ minsN (L.take k) r = s ∧ 0 ≤ s ∧ s ≤ 720 * (k : Int)) (h23 : (k : Int) < (nL : Int)) (x24 : Visit) (hx25 : L[k]? = some x24) (hq26 : ((1 : Int) ≤ x24.Reader ∧ x24.Reader ≤ 999) ∧ ((1 : Int) ≤ x24.Seat ∧ x24.Seat ≤ 6) ∧ ((480 : Int) ≤ x24.From ∧ x24.From ≤ 1200) ∧ ((480 : Int) ≤ x24.Until ∧ x24.Until ≤ 1200) ∧ x24.From < x24.Until) (h27 : x24.Reader = r) : k + 1 ≤ nL ∧ minsN (L.take (k + 1)) r = (s + x24.Until) - x24.From ∧ 0 ≤ (s + x24.Until) - x24.From ∧ (s + x24.Until) - x24.From ≤ 720 * (k + 1 : Int) := by
  have hh := ‹_ ∧ minsN _ _ = _ ∧ _›
  have hx := ‹L[k]? = some _›
  first | exact ⟨by omega, (mins_yes hx (by assumption)).trans (by rw [hh.2.1]; omega), by omega, by omega⟩ | exact ⟨by omega, (mins_no hx (by assumption)).trans hh.2.1, by omega, by omega⟩
theorem z_c_spec_SeatMinutes_33 (L : List Visit) (nL : Nat) (hbdL : (nL : Int) ≤ 9223372036854775807) (hleL : nL = L.length) (r : Int) (h5 : VsOK L) (hq8 : L.length ≤ 15) (h13 : 1 ≤ r ∧ r ≤ 999) (k : Nat) (s : Int) (hi22 : k ≤ nL ∧ minsN (L.take k) r = s ∧ 0 ≤ s ∧ s ≤ 720 * (k : Int)) (h23 : (k : Int) < (nL : Int)) (x24 : Visit) (hx25 : L[k]? = some x24) (hq26 : ((1 : Int) ≤ x24.Reader ∧ x24.Reader ≤ 999) ∧ ((1 : Int) ≤ x24.Seat ∧ x24.Seat ≤ 6) ∧ ((480 : Int) ≤ x24.From ∧ x24.From ≤ 1200) ∧ ((480 : Int) ≤ x24.Until ∧ x24.Until ≤ 1200) ∧ x24.From < x24.Until) (h27 : x24.Reader = r) : nL - (k + 1) < nL - k := by
  omega
theorem z_c_spec_SeatMinutes_34 (L : List Visit) (nL : Nat) (hbdL : (nL : Int) ≤ 9223372036854775807) (hleL : nL = L.length) (r : Int) (h5 : VsOK L) (hq8 : L.length ≤ 15) (h13 : 1 ≤ r ∧ r ≤ 999) (k : Nat) (s : Int) (hi22 : k ≤ nL ∧ minsN (L.take k) r = s ∧ 0 ≤ s ∧ s ≤ 720 * (k : Int)) (h23 : (k : Int) < (nL : Int)) (x24 : Visit) (hx25 : L[k]? = some x24) (hq26 : ((1 : Int) ≤ x24.Reader ∧ x24.Reader ≤ 999) ∧ ((1 : Int) ≤ x24.Seat ∧ x24.Seat ≤ 6) ∧ ((480 : Int) ≤ x24.From ∧ x24.From ≤ 1200) ∧ ((480 : Int) ≤ x24.Until ∧ x24.Until ≤ 1200) ∧ x24.From < x24.Until) (h27 : ¬ (x24.Reader = r)) : k + 1 ≤ nL ∧ minsN (L.take (k + 1)) r = s ∧ 0 ≤ s ∧ s ≤ 720 * (k + 1 : Int) := by
  have hh := ‹_ ∧ minsN _ _ = _ ∧ _›
  have hx := ‹L[k]? = some _›
  first | exact ⟨by omega, (mins_yes hx (by assumption)).trans (by rw [hh.2.1]; omega), by omega, by omega⟩ | exact ⟨by omega, (mins_no hx (by assumption)).trans hh.2.1, by omega, by omega⟩
theorem z_c_spec_SeatMinutes_35 (L : List Visit) (nL : Nat) (hbdL : (nL : Int) ≤ 9223372036854775807) (hleL : nL = L.length) (r : Int) (h5 : VsOK L) (hq8 : L.length ≤ 15) (h13 : 1 ≤ r ∧ r ≤ 999) (k : Nat) (s : Int) (hi22 : k ≤ nL ∧ minsN (L.take k) r = s ∧ 0 ≤ s ∧ s ≤ 720 * (k : Int)) (h23 : (k : Int) < (nL : Int)) (x24 : Visit) (hx25 : L[k]? = some x24) (hq26 : ((1 : Int) ≤ x24.Reader ∧ x24.Reader ≤ 999) ∧ ((1 : Int) ≤ x24.Seat ∧ x24.Seat ≤ 6) ∧ ((480 : Int) ≤ x24.From ∧ x24.From ≤ 1200) ∧ ((480 : Int) ≤ x24.Until ∧ x24.Until ≤ 1200) ∧ x24.From < x24.Until) (h27 : ¬ (x24.Reader = r)) : nL - (k + 1) < nL - k := by
  omega
theorem z_c_spec_SeatMinutes_36 (L : List Visit) (nL : Nat) (hbdL : (nL : Int) ≤ 9223372036854775807) (hleL : nL = L.length) (r : Int) (h5 : VsOK L) (hq8 : L.length ≤ 15) (h13 : 1 ≤ r ∧ r ≤ 999) (k : Nat) (s : Int) (hi22 : k ≤ nL ∧ minsN (L.take k) r = s ∧ 0 ≤ s ∧ s ≤ 720 * (k : Int)) (h23 : ¬ ((k : Int) < (nL : Int))) : s = if VsOK L ∧ (1 ≤ r ∧ r ≤ 999) then minsN L r else 0 := by
  first | (rw [if_neg (by intro hh; simp_all)]; done) | (rw [if_neg (by intro hh; rcases ‹_ ∨ _› with h | h; exact h hh.1; exact h hh.2)]; done) | (have hh := ‹_ ∧ minsN _ _ = _ ∧ _›; rw [if_pos ⟨‹VsOK L›, by omega⟩, ← hh.2.1, List.take_of_length_le (by omega)])
theorem z_c_spec_SeatMinutes_37 (L : List Visit) (nL : Nat) (hbdL : (nL : Int) ≤ 9223372036854775807) (hleL : nL = L.length) (r : Int) (h5 : VsOK L) (hq8 : L.length ≤ 15) (h13 : 1 ≤ r ∧ r ≤ 999) (k : Nat) (s : Int) (hi22 : k ≤ nL ∧ minsN (L.take k) r = s ∧ 0 ≤ s ∧ s ≤ 720 * (k : Int)) (h23 : ¬ ((k : Int) < (nL : Int))) : VsOK L ∧ (1 ≤ r ∧ r ≤ 999) := by
  first | (simp_all; done) | exact ⟨‹VsOK L›, by omega⟩ | (intro hh; simp_all; done)
theorem c_spec_SeatMinutes (w : World) {AL : Option Addr} {nL cL BL : Nat}  (L : List Visit) (hL : SlR w BL encVisit 4 AL nL cL L) (r : Int) : Calls Tryz.prog 23 #[.slice AL nL cL, .int .i64 r] w fun e w' => e = .returned (.tuple (List.toArray [.int .i64 (if VsOK L ∧ (1 ≤ r ∧ r ≤ 999) then minsN L r else 0), .bool (decide (VsOK L ∧ (1 ≤ r ∧ r ≤ 999)))])) ∧ Lo w w' := by
  refine calls_W 43 Tryz.func23 rfl rfl rfl ?_
  have hbdL := hL.bound
  have hleL := hL.len
  have hBbL := hL.bd
  refine W.seq ?_
  refine W.regS (SR.q' (r_as (v := .int .i64 0) rfl) <| SR.q' (r_as (v := .bool false) rfl) <| SR.nil ?_)
  refine W.seq ?_
  refine W.seq ?_
  refine W.regS (SR.q' (r_mv (v := .slice _ _ _) rfl) <| SR.call ent32 (c_spec_l30Good w L ((hL))) rfl ?_)
  rintro e w1 ⟨rfl, hk2⟩
  refine ⟨_, rfl, ?_⟩
  have hz3 := hk2.size
  have hB4 := (Lo.refl w).lo hk2
  refine SR.q' (r_not rfl) <| SR.q' (r_mv (v := .bool _) rfl) <| SR.splitN (fun h5 => ?_) (fun h5 => ?_)
  · refine SR.s' rfl <| SR.s' rfl <| SR.s' rfl <| SR.q' (r_pick true rfl (v := .bool true) rfl) <| SR.nil ?_
    refine W.cond_t rfl ?_
    refine W.seq ?_
    refine W.regS (SR.q' (r_as (v := .int .i64 0) rfl) <| SR.q' (r_as (v := .bool false) rfl) <| SR.nil ?_)
    refine W.ret ?_
    refine ret2 rfl (v := .int .i64 _) (v' := .bool _) rfl rfl ?_
    exact ⟨eR (eT2 (eI (z_c_spec_SeatMinutes_6 L nL hbdL hleL r h5)) (eDF (z_c_spec_SeatMinutes_7 L nL hbdL hleL r h5))), hB4⟩
  · have hq8 := vs_len h5
    refine SR.g' rfl (r_mv (v := .int .i64 _) rfl) <| SR.gcall rfl ent48 (c_spec_l30Reader w1 r) rfl ?_
    rintro e w9 ⟨rfl, hk10⟩
    refine ⟨_, rfl, ?_⟩
    have hz11 := hk10.size
    have hB12 := hB4.lo hk10
    refine SR.g' rfl (r_not rfl) <| SR.q' (r_pick false rfl (v := .bool _) rfl) <| SR.nil ?_
    refine W.cond_n rfl (fun h13 => ?_) (fun h13 => ?_)
    · refine W.seq ?_
      refine W.regS (SR.q' (r_as (v := .int .i64 0) rfl) <| SR.q' (r_as (v := .bool false) rfl) <| SR.nil ?_)
      refine W.ret ?_
      refine ret2 rfl (v := .int .i64 _) (v' := .bool _) rfl rfl ?_
      exact ⟨eR (eT2 (eI (z_c_spec_SeatMinutes_14 L nL hbdL hleL r h5 hq8 h13)) (eDF (z_c_spec_SeatMinutes_15 L nL hbdL hleL r h5 hq8 h13))), hB12⟩
    · refine W.skip ?_
      refine W.seq ?_
      refine W.regS (SR.q' (r_as (v := .int .i64 0) rfl) <| SR.nil ?_)
      refine W.seq ?_
      refine W.seq ?_
      refine W.regS (SR.q' (r_as (v := .int .i64 0) rfl) <| SR.nil ?_)
      refine W.block ?_
      refine W.loop (σ := Nat × Int) (fun g => [(0, .slice AL nL cL), (1, .int .i64 r), (4, .int .i64 0), (5, .bool false), (6, .int .i64 g.2), (7, .int .i64 (g.1 : Int))]) (fun g w' => (Lo w w') ∧ (SlR w' BL encVisit 4 AL nL cL L) ∧ (g.1 ≤ nL ∧ minsN (L.take g.1) r = g.2 ∧ 0 ≤ g.2 ∧ g.2 ≤ 720 * (g.1 : Int))) (fun g => nL - g.1) (0, (0 : Int)) ?_ ?_ ?_
      · exact ⟨rfl, rfl, rfl, rfl, (eI (by first | (first | rfl | omega) | (dsimp only; (first | rfl | omega)))), (eI (by first | (first | rfl | omega) | (dsimp only; (first | rfl | omega)))), trivial⟩
      · exact ⟨hB12, ((hL).lo hk2).lo hk10, (z_c_spec_SeatMinutes_16 L nL hbdL hleL r h5 hq8 h13)⟩
      · rintro ⟨k, s⟩ f17 w18 hP20
        obtain ⟨hB19, hm21, hi22⟩ : (Lo w w18) ∧ (SlR w18 BL encVisit 4 AL nL cL L) ∧ (k ≤ nL ∧ minsN (L.take k) r = s ∧ 0 ≤ s ∧ s ≤ 720 * (k : Int)) := hP20
        refine (?_ : W _ _ _ _ _ (act _ (sets f17 [(0, .slice AL nL cL), (1, .int .i64 r), (4, .int .i64 0), (5, .bool false), (6, .int .i64 s), (7, .int .i64 (k : Int))])) _)
        have hzw18 := hB19.size
        refine W.seq ?_
        refine W.seq ?_
        refine W.regS (SR.q' (r_mv (v := .int .i64 _) rfl) <| SR.q' (r_mv (v := .slice _ _ _) rfl) <| SR.q' (r_len und24 rfl) <| SR.q' (r_lt rfl rfl) <| SR.nil ?_)
        refine W.cond_d rfl (fun h23 => ?_) (fun h23 => ?_)
        · refine W.skip ?_
          refine W.seq ?_
          refine W.block ?_
          refine W.seq ?_
          refine W.regS (SR.q' (r_mv (v := .slice _ _ _) rfl) <| SR.q' (r_mv (v := .int .i64 _) rfl) <| ?_)
          obtain ⟨x24, hx25⟩ := (hm21).get (i := k) (by omega)
          have hq26 := vs_rng h5 hx25
          refine SR.q' (r_ixR tsl24 (hm21) rfl rfl (by omega)) <| SR.q' (r_fa fa45_0 rfl) <| SR.q' (r_ld (v := .int .i64 x24.Reader) sca3 rfl ((hm21).cell hx25 rfl)) <| SR.q' (r_mv (v := .int .i64 _) rfl) <| SR.q' (r_eq rfl rfl) <| SR.nil ?_
          refine W.cond_d rfl (fun h27 => ?_) (fun h27 => ?_)
          · refine W.regD mo (by kernel_rfl) (QR.q' (fun w' hw' => r_mv (v := .int .i64 _) rfl) <| QR.q' (fun w' hw' => r_mv (v := .slice _ _ _) rfl) <| QR.q' (fun w' hw' => r_mv (v := .int .i64 _) rfl) <| QR.q' (fun w' hw' => r_ixR tsl24 (((hm21).lo hw')) rfl rfl (by omega)) <| QR.q' (fun w' hw' => r_fa fa45_3 rfl) <| QR.q' (fun w' hw' => r_ld (v := .int .i64 x24.Until) sca3 rfl ((((hm21).lo hw')).cell hx25 rfl)) <| QR.q' (fun w' hw' => r_add rfl rfl (by omega)) <| QR.q' (fun w' hw' => r_mv (v := .slice _ _ _) rfl) <| QR.q' (fun w' hw' => r_mv (v := .int .i64 _) rfl) <| QR.q' (fun w' hw' => r_ixR tsl24 (((hm21).lo hw')) rfl rfl (by omega)) <| QR.q' (fun w' hw' => r_fa fa45_2 rfl) <| QR.q' (fun w' hw' => r_ld (v := .int .i64 x24.From) sca3 rfl ((((hm21).lo hw')).cell hx25 rfl)) <| QR.q' (fun w' hw' => r_sub rfl rfl (by omega)) <| QR.q' (fun w' hw' => r_as (v := .int .i64 _) rfl) <| QR.nil ?_)
            intro w28 hk29
            have hz30 := hk29.size
            have hB31 := hB19.lo hk29
            refine W.regS (SR.q' (r_mv (v := .int .i64 _) rfl) <| SR.q' (r_add rfl rfl (by omega)) <| SR.q' (r_as (v := .int .i64 _) rfl) <| SR.nil ?_)
            refine ⟨(k + 1, (s + x24.Until) - x24.From), _, rfl, ⟨rfl, rfl, rfl, rfl, rfl, (eI (by first | (first | rfl | omega) | (dsimp only; (first | rfl | omega)))), trivial⟩, ⟨hB31, (hm21).lo hk29, ?_⟩, ?_⟩
            · exact (z_c_spec_SeatMinutes_32 L nL hbdL hleL r h5 hq8 h13 k s hi22 h23 x24 hx25 hq26 h27)
            · exact (z_c_spec_SeatMinutes_33 L nL hbdL hleL r h5 hq8 h13 k s hi22 h23 x24 hx25 hq26 h27)
          · refine W.skip ?_
            refine W.regS (SR.q' (r_mv (v := .int .i64 _) rfl) <| SR.q' (r_add rfl rfl (by omega)) <| SR.q' (r_as (v := .int .i64 _) rfl) <| SR.nil ?_)
            refine ⟨(k + 1, s), _, rfl, ⟨rfl, rfl, rfl, rfl, rfl, (eI (by first | (first | rfl | omega) | (dsimp only; (first | rfl | omega)))), trivial⟩, ⟨hB19, hm21, ?_⟩, ?_⟩
            · exact (z_c_spec_SeatMinutes_34 L nL hbdL hleL r h5 hq8 h13 k s hi22 h23 x24 hx25 hq26 h27)
            · exact (z_c_spec_SeatMinutes_35 L nL hbdL hleL r h5 hq8 h13 k s hi22 h23 x24 hx25 hq26 h27)
        · refine W.exit (xin_here ?_)
          refine W.seq ?_
          refine W.regS (SR.q' (r_mv (v := .int .i64 _) rfl) <| SR.q' (r_as (v := .int .i64 _) rfl) <| SR.q' (r_as (v := .bool true) rfl) <| SR.nil ?_)
          refine W.ret ?_
          refine ret2 rfl (v := .int .i64 _) (v' := .bool _) rfl rfl ?_
          exact ⟨eR (eT2 (eI (z_c_spec_SeatMinutes_36 L nL hbdL hleL r h5 hq8 h13 k s hi22 h23)) (eDT (z_c_spec_SeatMinutes_37 L nL hbdL hleL r h5 hq8 h13 k s hi22 h23))), hB19⟩

theorem z_c_impl_LongestGap_6 (L : List Visit) (nL : Nat) (hbdL : (nL : Int) ≤ 9223372036854775807) (hleL : nL = L.length) (s : Int) (h5 : ¬ (VsOK L)) : 0 = (gapF L s).1 := by
  first | (rw [gap_no1 (by first | exact no_and ‹_ ∨ _› | exact (fun h => ‹¬ VsOK _› h.1) | exact (fun h => ‹¬ (_ ∧ _)› h.2))]; done) | (rw [gap_in ⟨‹VsOK L›, by omega⟩ (k := k) (by first | omega | (simp only [List.length_append, List.length_cons, List.length_nil] at *; omega))]; done) | (rw [gap_inS ⟨‹VsOK L›, by omega⟩ (k := k) (by omega) ‹_›]; done) | (rw [gap_inL ⟨‹VsOK L›, by omega⟩ (k := k) (by omega) ‹_›]; done)
theorem z_c_impl_LongestGap_7 (L : List Visit) (nL : Nat) (hbdL : (nL : Int) ≤ 9223372036854775807) (hleL : nL = L.length) (s : Int) (h5 : ¬ (VsOK L)) : 0 = (gapF L s).2 := by
  first | (rw [gap_no1 (by first | exact no_and ‹_ ∨ _› | exact (fun h => ‹¬ VsOK _› h.1) | exact (fun h => ‹¬ (_ ∧ _)› h.2))]; done) | (rw [gap_in ⟨‹VsOK L›, by omega⟩ (k := k) (by first | omega | (simp only [List.length_append, List.length_cons, List.length_nil] at *; omega))]; done) | (rw [gap_inS ⟨‹VsOK L›, by omega⟩ (k := k) (by omega) ‹_›]; done) | (rw [gap_inL ⟨‹VsOK L›, by omega⟩ (k := k) (by omega) ‹_›]; done)
theorem z_c_impl_LongestGap_8 (L : List Visit) (nL : Nat) (hbdL : (nL : Int) ≤ 9223372036854775807) (hleL : nL = L.length) (s : Int) (h5 : ¬ (VsOK L)) : ¬ (VsOK L ∧ (1 ≤ s ∧ s ≤ 6)) := by
  first | exact ⟨‹VsOK L›, by omega⟩ | exact no_and ‹_ ∨ _› | exact (fun h => ‹¬ VsOK _› h.1) | exact (fun h => ‹¬ (_ ∧ _)› h.2)
theorem z_c_impl_LongestGap_15 (L : List Visit) (nL : Nat) (hbdL : (nL : Int) ≤ 9223372036854775807) (hleL : nL = L.length) (s : Int) (h5 : VsOK L) (hq9 : L.length ≤ 15) (h14 : ¬ (1 ≤ s ∧ s ≤ 6)) : 0 = (gapF L s).1 := by
  first | (rw [gap_no1 (by first | exact no_and ‹_ ∨ _› | exact (fun h => ‹¬ VsOK _› h.1) | exact (fun h => ‹¬ (_ ∧ _)› h.2))]; done) | (rw [gap_in ⟨‹VsOK L›, by omega⟩ (k := k) (by first | omega | (simp only [List.length_append, List.length_cons, List.length_nil] at *; omega))]; done) | (rw [gap_inS ⟨‹VsOK L›, by omega⟩ (k := k) (by omega) ‹_›]; done) | (rw [gap_inL ⟨‹VsOK L›, by omega⟩ (k := k) (by omega) ‹_›]; done)
theorem z_c_impl_LongestGap_16 (L : List Visit) (nL : Nat) (hbdL : (nL : Int) ≤ 9223372036854775807) (hleL : nL = L.length) (s : Int) (h5 : VsOK L) (hq9 : L.length ≤ 15) (h14 : ¬ (1 ≤ s ∧ s ≤ 6)) : 0 = (gapF L s).2 := by
  first | (rw [gap_no1 (by first | exact no_and ‹_ ∨ _› | exact (fun h => ‹¬ VsOK _› h.1) | exact (fun h => ‹¬ (_ ∧ _)› h.2))]; done) | (rw [gap_in ⟨‹VsOK L›, by omega⟩ (k := k) (by first | omega | (simp only [List.length_append, List.length_cons, List.length_nil] at *; omega))]; done) | (rw [gap_inS ⟨‹VsOK L›, by omega⟩ (k := k) (by omega) ‹_›]; done) | (rw [gap_inL ⟨‹VsOK L›, by omega⟩ (k := k) (by omega) ‹_›]; done)
theorem z_c_impl_LongestGap_17 (L : List Visit) (nL : Nat) (hbdL : (nL : Int) ≤ 9223372036854775807) (hleL : nL = L.length) (s : Int) (h5 : VsOK L) (hq9 : L.length ≤ 15) (h14 : ¬ (1 ≤ s ∧ s ≤ 6)) : ¬ (VsOK L ∧ (1 ≤ s ∧ s ≤ 6)) := by
  first | exact ⟨‹VsOK L›, by omega⟩ | exact no_and ‹_ ∨ _› | exact (fun h => ‹¬ VsOK _› h.1) | exact (fun h => ‹¬ (_ ∧ _)› h.2)
theorem z_c_impl_LongestGap_44 (L : List Visit) (nL : Nat) (hbdL : (nL : Int) ≤ 9223372036854775807) (hleL : nL = L.length) (s : Int) (h5 : VsOK L) (hq9 : L.length ≤ 15) (h14 : 1 ≤ s ∧ s ≤ 6) (n21 : Nat) (hl26 : n21 = (L).length) (hl27 : (n21 : Int) ≤ 9223372036854775807) : 0 ≤ L.length + 1 := by
  omega
theorem z_c_impl_LongestGap_72 (L : List Visit) (nL : Nat) (hbdL : (nL : Int) ≤ 9223372036854775807) (hleL : nL = L.length) (s : Int) (h5 : VsOK L) (hq9 : L.length ≤ 15) (h14 : 1 ≤ s ∧ s ≤ 6) (n21 : Nat) (hl26 : n21 = (L).length) (hl27 : (n21 : Int) ≤ 9223372036854775807) (k : Nat) (hi50 : k ≤ L.length + 1) (hq51 : (0 ≤ (gapTo (L ++ ([(⟨0, s, 1200, 0⟩ : Visit)] : List Visit)) s k).1 ∧ (gapTo (L ++ ([(⟨0, s, 1200, 0⟩ : Visit)] : List Visit)) s k).1 ≤ 1200) ∧ (0 ≤ (gapTo (L ++ ([(⟨0, s, 1200, 0⟩ : Visit)] : List Visit)) s k).2.1 ∧ (gapTo (L ++ ([(⟨0, s, 1200, 0⟩ : Visit)] : List Visit)) s k).2.1 ≤ 1200) ∧ (0 ≤ (gapTo (L ++ ([(⟨0, s, 1200, 0⟩ : Visit)] : List Visit)) s k).2.2 ∧ (gapTo (L ++ ([(⟨0, s, 1200, 0⟩ : Visit)] : List Visit)) s k).2.2 ≤ 1200)) (h52 : (k : Int) < ((n21 + 1 : Nat) : Int)) (x53 : Visit) (hx54 : (L ++ ([(⟨0, s, 1200, 0⟩ : Visit)] : List Visit))[k]? = some x53) (hq55 : (0 ≤ x53.From ∧ x53.From ≤ 1200) ∧ (0 ≤ x53.Until ∧ x53.Until ≤ 1200)) (h71 : ¬ (x53.Seat = s)) : k + 1 ≤ L.length + 1 := by
  first | omega | (simp only [List.length_append, List.length_cons, List.length_nil] at *; omega)
theorem z_c_impl_LongestGap_73 (L : List Visit) (nL : Nat) (hbdL : (nL : Int) ≤ 9223372036854775807) (hleL : nL = L.length) (s : Int) (h5 : VsOK L) (hq9 : L.length ≤ 15) (h14 : 1 ≤ s ∧ s ≤ 6) (n21 : Nat) (hl26 : n21 = (L).length) (hl27 : (n21 : Int) ≤ 9223372036854775807) (k : Nat) (hi50 : k ≤ L.length + 1) (hq51 : (0 ≤ (gapTo (L ++ ([(⟨0, s, 1200, 0⟩ : Visit)] : List Visit)) s k).1 ∧ (gapTo (L ++ ([(⟨0, s, 1200, 0⟩ : Visit)] : List Visit)) s k).1 ≤ 1200) ∧ (0 ≤ (gapTo (L ++ ([(⟨0, s, 1200, 0⟩ : Visit)] : List Visit)) s k).2.1 ∧ (gapTo (L ++ ([(⟨0, s, 1200, 0⟩ : Visit)] : List Visit)) s k).2.1 ≤ 1200) ∧ (0 ≤ (gapTo (L ++ ([(⟨0, s, 1200, 0⟩ : Visit)] : List Visit)) s k).2.2 ∧ (gapTo (L ++ ([(⟨0, s, 1200, 0⟩ : Visit)] : List Visit)) s k).2.2 ≤ 1200)) (h52 : (k : Int) < ((n21 + 1 : Nat) : Int)) (x53 : Visit) (hx54 : (L ++ ([(⟨0, s, 1200, 0⟩ : Visit)] : List Visit))[k]? = some x53) (hq55 : (0 ≤ x53.From ∧ x53.From ≤ 1200) ∧ (0 ≤ x53.Until ∧ x53.Until ≤ 1200)) (h71 : ¬ (x53.Seat = s)) : L.length + 1 - (k + 1) < L.length + 1 - k := by
  omega
theorem z_c_impl_LongestGap_79 (L : List Visit) (nL : Nat) (hbdL : (nL : Int) ≤ 9223372036854775807) (hleL : nL = L.length) (s : Int) (h5 : VsOK L) (hq9 : L.length ≤ 15) (h14 : 1 ≤ s ∧ s ≤ 6) (n21 : Nat) (hl26 : n21 = (L).length) (hl27 : (n21 : Int) ≤ 9223372036854775807) (k : Nat) (hi50 : k ≤ L.length + 1) (hq51 : (0 ≤ (gapTo (L ++ ([(⟨0, s, 1200, 0⟩ : Visit)] : List Visit)) s k).1 ∧ (gapTo (L ++ ([(⟨0, s, 1200, 0⟩ : Visit)] : List Visit)) s k).1 ≤ 1200) ∧ (0 ≤ (gapTo (L ++ ([(⟨0, s, 1200, 0⟩ : Visit)] : List Visit)) s k).2.1 ∧ (gapTo (L ++ ([(⟨0, s, 1200, 0⟩ : Visit)] : List Visit)) s k).2.1 ≤ 1200) ∧ (0 ≤ (gapTo (L ++ ([(⟨0, s, 1200, 0⟩ : Visit)] : List Visit)) s k).2.2 ∧ (gapTo (L ++ ([(⟨0, s, 1200, 0⟩ : Visit)] : List Visit)) s k).2.2 ≤ 1200)) (h52 : (k : Int) < ((n21 + 1 : Nat) : Int)) (x53 : Visit) (hx54 : (L ++ ([(⟨0, s, 1200, 0⟩ : Visit)] : List Visit))[k]? = some x53) (hq55 : (0 ≤ x53.From ∧ x53.From ≤ 1200) ∧ (0 ≤ x53.Until ∧ x53.Until ≤ 1200)) (h71 : x53.Seat = s) (h74 : ((gapTo (L ++ ([(⟨0, s, 1200, 0⟩ : Visit)] : List Visit)) s k).2.1) < (x53.From - ((gapTo (L ++ ([(⟨0, s, 1200, 0⟩ : Visit)] : List Visit)) s k).2.2))) : k + 1 ≤ L.length + 1 := by
  first | omega | (simp only [List.length_append, List.length_cons, List.length_nil] at *; omega)
theorem z_c_impl_LongestGap_80 (L : List Visit) (nL : Nat) (hbdL : (nL : Int) ≤ 9223372036854775807) (hleL : nL = L.length) (s : Int) (h5 : VsOK L) (hq9 : L.length ≤ 15) (h14 : 1 ≤ s ∧ s ≤ 6) (n21 : Nat) (hl26 : n21 = (L).length) (hl27 : (n21 : Int) ≤ 9223372036854775807) (k : Nat) (hi50 : k ≤ L.length + 1) (hq51 : (0 ≤ (gapTo (L ++ ([(⟨0, s, 1200, 0⟩ : Visit)] : List Visit)) s k).1 ∧ (gapTo (L ++ ([(⟨0, s, 1200, 0⟩ : Visit)] : List Visit)) s k).1 ≤ 1200) ∧ (0 ≤ (gapTo (L ++ ([(⟨0, s, 1200, 0⟩ : Visit)] : List Visit)) s k).2.1 ∧ (gapTo (L ++ ([(⟨0, s, 1200, 0⟩ : Visit)] : List Visit)) s k).2.1 ≤ 1200) ∧ (0 ≤ (gapTo (L ++ ([(⟨0, s, 1200, 0⟩ : Visit)] : List Visit)) s k).2.2 ∧ (gapTo (L ++ ([(⟨0, s, 1200, 0⟩ : Visit)] : List Visit)) s k).2.2 ≤ 1200)) (h52 : (k : Int) < ((n21 + 1 : Nat) : Int)) (x53 : Visit) (hx54 : (L ++ ([(⟨0, s, 1200, 0⟩ : Visit)] : List Visit))[k]? = some x53) (hq55 : (0 ≤ x53.From ∧ x53.From ≤ 1200) ∧ (0 ≤ x53.Until ∧ x53.Until ≤ 1200)) (h71 : x53.Seat = s) (h74 : ((gapTo (L ++ ([(⟨0, s, 1200, 0⟩ : Visit)] : List Visit)) s k).2.1) < (x53.From - ((gapTo (L ++ ([(⟨0, s, 1200, 0⟩ : Visit)] : List Visit)) s k).2.2))) : L.length + 1 - (k + 1) < L.length + 1 - k := by
  omega
theorem z_c_impl_LongestGap_81 (L : List Visit) (nL : Nat) (hbdL : (nL : Int) ≤ 9223372036854775807) (hleL : nL = L.length) (s : Int) (h5 : VsOK L) (hq9 : L.length ≤ 15) (h14 : 1 ≤ s ∧ s ≤ 6) (n21 : Nat) (hl26 : n21 = (L).length) (hl27 : (n21 : Int) ≤ 9223372036854775807) (k : Nat) (hi50 : k ≤ L.length + 1) (hq51 : (0 ≤ (gapTo (L ++ ([(⟨0, s, 1200, 0⟩ : Visit)] : List Visit)) s k).1 ∧ (gapTo (L ++ ([(⟨0, s, 1200, 0⟩ : Visit)] : List Visit)) s k).1 ≤ 1200) ∧ (0 ≤ (gapTo (L ++ ([(⟨0, s, 1200, 0⟩ : Visit)] : List Visit)) s k).2.1 ∧ (gapTo (L ++ ([(⟨0, s, 1200, 0⟩ : Visit)] : List Visit)) s k).2.1 ≤ 1200) ∧ (0 ≤ (gapTo (L ++ ([(⟨0, s, 1200, 0⟩ : Visit)] : List Visit)) s k).2.2 ∧ (gapTo (L ++ ([(⟨0, s, 1200, 0⟩ : Visit)] : List Visit)) s k).2.2 ≤ 1200)) (h52 : (k : Int) < ((n21 + 1 : Nat) : Int)) (x53 : Visit) (hx54 : (L ++ ([(⟨0, s, 1200, 0⟩ : Visit)] : List Visit))[k]? = some x53) (hq55 : (0 ≤ x53.From ∧ x53.From ≤ 1200) ∧ (0 ≤ x53.Until ∧ x53.Until ≤ 1200)) (h71 : x53.Seat = s) (h74 : ¬ (((gapTo (L ++ ([(⟨0, s, 1200, 0⟩ : Visit)] : List Visit)) s k).2.1) < (x53.From - ((gapTo (L ++ ([(⟨0, s, 1200, 0⟩ : Visit)] : List Visit)) s k).2.2)))) : k + 1 ≤ L.length + 1 := by
  first | omega | (simp only [List.length_append, List.length_cons, List.length_nil] at *; omega)
theorem z_c_impl_LongestGap_82 (L : List Visit) (nL : Nat) (hbdL : (nL : Int) ≤ 9223372036854775807) (hleL : nL = L.length) (s : Int) (h5 : VsOK L) (hq9 : L.length ≤ 15) (h14 : 1 ≤ s ∧ s ≤ 6) (n21 : Nat) (hl26 : n21 = (L).length) (hl27 : (n21 : Int) ≤ 9223372036854775807) (k : Nat) (hi50 : k ≤ L.length + 1) (hq51 : (0 ≤ (gapTo (L ++ ([(⟨0, s, 1200, 0⟩ : Visit)] : List Visit)) s k).1 ∧ (gapTo (L ++ ([(⟨0, s, 1200, 0⟩ : Visit)] : List Visit)) s k).1 ≤ 1200) ∧ (0 ≤ (gapTo (L ++ ([(⟨0, s, 1200, 0⟩ : Visit)] : List Visit)) s k).2.1 ∧ (gapTo (L ++ ([(⟨0, s, 1200, 0⟩ : Visit)] : List Visit)) s k).2.1 ≤ 1200) ∧ (0 ≤ (gapTo (L ++ ([(⟨0, s, 1200, 0⟩ : Visit)] : List Visit)) s k).2.2 ∧ (gapTo (L ++ ([(⟨0, s, 1200, 0⟩ : Visit)] : List Visit)) s k).2.2 ≤ 1200)) (h52 : (k : Int) < ((n21 + 1 : Nat) : Int)) (x53 : Visit) (hx54 : (L ++ ([(⟨0, s, 1200, 0⟩ : Visit)] : List Visit))[k]? = some x53) (hq55 : (0 ≤ x53.From ∧ x53.From ≤ 1200) ∧ (0 ≤ x53.Until ∧ x53.Until ≤ 1200)) (h71 : x53.Seat = s) (h74 : ¬ (((gapTo (L ++ ([(⟨0, s, 1200, 0⟩ : Visit)] : List Visit)) s k).2.1) < (x53.From - ((gapTo (L ++ ([(⟨0, s, 1200, 0⟩ : Visit)] : List Visit)) s k).2.2)))) : L.length + 1 - (k + 1) < L.length + 1 - k := by
  omega
theorem z_c_impl_LongestGap_83 (L : List Visit) (nL : Nat) (hbdL : (nL : Int) ≤ 9223372036854775807) (hleL : nL = L.length) (s : Int) (h5 : VsOK L) (hq9 : L.length ≤ 15) (h14 : 1 ≤ s ∧ s ≤ 6) (n21 : Nat) (hl26 : n21 = (L).length) (hl27 : (n21 : Int) ≤ 9223372036854775807) (k : Nat) (hi50 : k ≤ L.length + 1) (hq51 : (0 ≤ (gapTo (L ++ ([(⟨0, s, 1200, 0⟩ : Visit)] : List Visit)) s k).1 ∧ (gapTo (L ++ ([(⟨0, s, 1200, 0⟩ : Visit)] : List Visit)) s k).1 ≤ 1200) ∧ (0 ≤ (gapTo (L ++ ([(⟨0, s, 1200, 0⟩ : Visit)] : List Visit)) s k).2.1 ∧ (gapTo (L ++ ([(⟨0, s, 1200, 0⟩ : Visit)] : List Visit)) s k).2.1 ≤ 1200) ∧ (0 ≤ (gapTo (L ++ ([(⟨0, s, 1200, 0⟩ : Visit)] : List Visit)) s k).2.2 ∧ (gapTo (L ++ ([(⟨0, s, 1200, 0⟩ : Visit)] : List Visit)) s k).2.2 ≤ 1200)) (h52 : ¬ ((k : Int) < ((n21 + 1 : Nat) : Int))) : (gapTo (L ++ ([(⟨0, s, 1200, 0⟩ : Visit)] : List Visit)) s k).1 = (gapF L s).1 := by
  first | (rw [gap_no1 (by first | exact no_and ‹_ ∨ _› | exact (fun h => ‹¬ VsOK _› h.1) | exact (fun h => ‹¬ (_ ∧ _)› h.2))]; done) | (rw [gap_in ⟨‹VsOK L›, by omega⟩ (k := k) (by first | omega | (simp only [List.length_append, List.length_cons, List.length_nil] at *; omega))]; done) | (rw [gap_inS ⟨‹VsOK L›, by omega⟩ (k := k) (by omega) ‹_›]; done) | (rw [gap_inL ⟨‹VsOK L›, by omega⟩ (k := k) (by omega) ‹_›]; done)
theorem z_c_impl_LongestGap_84 (L : List Visit) (nL : Nat) (hbdL : (nL : Int) ≤ 9223372036854775807) (hleL : nL = L.length) (s : Int) (h5 : VsOK L) (hq9 : L.length ≤ 15) (h14 : 1 ≤ s ∧ s ≤ 6) (n21 : Nat) (hl26 : n21 = (L).length) (hl27 : (n21 : Int) ≤ 9223372036854775807) (k : Nat) (hi50 : k ≤ L.length + 1) (hq51 : (0 ≤ (gapTo (L ++ ([(⟨0, s, 1200, 0⟩ : Visit)] : List Visit)) s k).1 ∧ (gapTo (L ++ ([(⟨0, s, 1200, 0⟩ : Visit)] : List Visit)) s k).1 ≤ 1200) ∧ (0 ≤ (gapTo (L ++ ([(⟨0, s, 1200, 0⟩ : Visit)] : List Visit)) s k).2.1 ∧ (gapTo (L ++ ([(⟨0, s, 1200, 0⟩ : Visit)] : List Visit)) s k).2.1 ≤ 1200) ∧ (0 ≤ (gapTo (L ++ ([(⟨0, s, 1200, 0⟩ : Visit)] : List Visit)) s k).2.2 ∧ (gapTo (L ++ ([(⟨0, s, 1200, 0⟩ : Visit)] : List Visit)) s k).2.2 ≤ 1200)) (h52 : ¬ ((k : Int) < ((n21 + 1 : Nat) : Int))) : (gapTo (L ++ ([(⟨0, s, 1200, 0⟩ : Visit)] : List Visit)) s k).2.1 = (gapF L s).2 := by
  first | (rw [gap_no1 (by first | exact no_and ‹_ ∨ _› | exact (fun h => ‹¬ VsOK _› h.1) | exact (fun h => ‹¬ (_ ∧ _)› h.2))]; done) | (rw [gap_in ⟨‹VsOK L›, by omega⟩ (k := k) (by first | omega | (simp only [List.length_append, List.length_cons, List.length_nil] at *; omega))]; done) | (rw [gap_inS ⟨‹VsOK L›, by omega⟩ (k := k) (by omega) ‹_›]; done) | (rw [gap_inL ⟨‹VsOK L›, by omega⟩ (k := k) (by omega) ‹_›]; done)
theorem z_c_impl_LongestGap_85 (L : List Visit) (nL : Nat) (hbdL : (nL : Int) ≤ 9223372036854775807) (hleL : nL = L.length) (s : Int) (h5 : VsOK L) (hq9 : L.length ≤ 15) (h14 : 1 ≤ s ∧ s ≤ 6) (n21 : Nat) (hl26 : n21 = (L).length) (hl27 : (n21 : Int) ≤ 9223372036854775807) (k : Nat) (hi50 : k ≤ L.length + 1) (hq51 : (0 ≤ (gapTo (L ++ ([(⟨0, s, 1200, 0⟩ : Visit)] : List Visit)) s k).1 ∧ (gapTo (L ++ ([(⟨0, s, 1200, 0⟩ : Visit)] : List Visit)) s k).1 ≤ 1200) ∧ (0 ≤ (gapTo (L ++ ([(⟨0, s, 1200, 0⟩ : Visit)] : List Visit)) s k).2.1 ∧ (gapTo (L ++ ([(⟨0, s, 1200, 0⟩ : Visit)] : List Visit)) s k).2.1 ≤ 1200) ∧ (0 ≤ (gapTo (L ++ ([(⟨0, s, 1200, 0⟩ : Visit)] : List Visit)) s k).2.2 ∧ (gapTo (L ++ ([(⟨0, s, 1200, 0⟩ : Visit)] : List Visit)) s k).2.2 ≤ 1200)) (h52 : ¬ ((k : Int) < ((n21 + 1 : Nat) : Int))) : VsOK L ∧ (1 ≤ s ∧ s ≤ 6) := by
  first | exact ⟨‹VsOK L›, by omega⟩ | exact no_and ‹_ ∨ _› | exact (fun h => ‹¬ VsOK _› h.1) | exact (fun h => ‹¬ (_ ∧ _)› h.2)
theorem c_impl_LongestGap (w : World) {AL : Option Addr} {nL cL BL : Nat}  (L : List Visit) (hL : SlR w BL encVisit 4 AL nL cL L) (s : Int) : Calls Tryz.prog 12 #[.slice AL nL cL, .int .i64 s] w fun e w' => e = .returned (.tuple (List.toArray [.int .i64 ((gapF L s).1), .int .i64 ((gapF L s).2), .bool (decide (VsOK L ∧ (1 ≤ s ∧ s ≤ 6)))])) ∧ Lo w w' := by
  refine calls_W 51 Tryz.func12 rfl rfl rfl ?_
  have hbdL := hL.bound
  have hleL := hL.len
  have hBbL := hL.bd
  refine W.seq ?_
  refine W.regS (SR.q' (r_as (v := .int .i64 0) rfl) <| SR.q' (r_as (v := .int .i64 0) rfl) <| SR.q' (r_as (v := .bool false) rfl) <| SR.nil ?_)
  refine W.seq ?_
  refine W.seq ?_
  refine W.regS (SR.q' (r_mv (v := .slice _ _ _) rfl) <| SR.call ent29 (c_impl_AreVisits w L ((hL))) rfl ?_)
  rintro e w1 ⟨rfl, hk2⟩
  refine ⟨_, rfl, ?_⟩
  have hz3 := hk2.size
  have hB4 := (Lo.refl w).lo hk2
  refine SR.q' (r_not rfl) <| SR.q' (r_mv (v := .bool _) rfl) <| SR.splitN (fun h5 => ?_) (fun h5 => ?_)
  · refine SR.s' rfl <| SR.s' rfl <| SR.s' rfl <| SR.q' (r_pick true rfl (v := .bool true) rfl) <| SR.nil ?_
    refine W.cond_t rfl ?_
    refine W.seq ?_
    refine W.regS (SR.q' (r_as (v := .int .i64 0) rfl) <| SR.q' (r_as (v := .int .i64 0) rfl) <| SR.q' (r_as (v := .bool false) rfl) <| SR.nil ?_)
    refine W.ret ?_
    refine ret3 rfl (v := .int .i64 _) (v' := .int .i64 _) (v'' := .bool _) rfl rfl rfl ?_
    exact ⟨eR (eT3 (eI (z_c_impl_LongestGap_6 L nL hbdL hleL s h5)) (eI (z_c_impl_LongestGap_7 L nL hbdL hleL s h5)) (eDF (z_c_impl_LongestGap_8 L nL hbdL hleL s h5))), hB4⟩
  · have hq9 := vs_len h5
    refine SR.g' rfl (r_mv (v := .int .i64 _) rfl) <| SR.gcall rfl ent38 (c_impl_isSeat w1 s) rfl ?_
    rintro e w10 ⟨rfl, hk11⟩
    refine ⟨_, rfl, ?_⟩
    have hz12 := hk11.size
    have hB13 := hB4.lo hk11
    refine SR.g' rfl (r_not rfl) <| SR.q' (r_pick false rfl (v := .bool _) rfl) <| SR.nil ?_
    refine W.cond_n rfl (fun h14 => ?_) (fun h14 => ?_)
    · refine W.seq ?_
      refine W.regS (SR.q' (r_as (v := .int .i64 0) rfl) <| SR.q' (r_as (v := .int .i64 0) rfl) <| SR.q' (r_as (v := .bool false) rfl) <| SR.nil ?_)
      refine W.ret ?_
      refine ret3 rfl (v := .int .i64 _) (v' := .int .i64 _) (v'' := .bool _) rfl rfl rfl ?_
      exact ⟨eR (eT3 (eI (z_c_impl_LongestGap_15 L nL hbdL hleL s h5 hq9 h14)) (eI (z_c_impl_LongestGap_16 L nL hbdL hleL s h5 hq9 h14)) (eDF (z_c_impl_LongestGap_17 L nL hbdL hleL s h5 hq9 h14))), hB13⟩
    · refine W.skip ?_
      refine W.seq ?_
      refine W.regS (SR.q' (r_as (v := .int .i64 480) rfl) <| SR.q' (r_as (v := .int .i64 0) rfl) <| SR.q' (r_as (v := .int .i64 480) rfl) <| SR.nil ?_)
      refine W.seq ?_
      refine W.seq ?_
      refine W.regS (SR.q' (r_mv (v := .slice _ _ _) rfl) <| SR.call ent39 (c_slices_Clone___impl_Visit_impl_Visit_ w10 L ((((hL).lo hk2).lo hk11)) (by omega)) rfl ?_)
      rintro e w18 ⟨A20, n21, c22, rfl, hO23, hk19⟩
      refine ⟨_, rfl, ?_⟩
      have hz24 := hk19.size
      have hB25 := hB13.lo hk19
      have hl26 := hO23.len
      have hl27 := hO23.rd.bound
      refine SR.q' (r_mv (v := .int .i64 _) rfl) <| SR.q' (r_build (vs := [(1, .int .i64 s), (2, .int .i64 1200)]) rfl (bld45_1_2 _ _)) <| SR.lit (vs := [.agg (List.toArray [.int .i64 0, .int .i64 s, .int .i64 1200, .int .i64 0])]) (L := ([(⟨0, s, 1200, 0⟩ : Visit)] : List Visit)) (enc := encVisit) tel24 (fun _ => rfl) rfl rfl rfl (by decide) ?_
      intro g28 w29 hg30 hk31 hO32
      have hz33 := hk31.size
      have hB34 := hB25.lo hk31
      have hd35 : ¬ A20 = some ⟨g28, 0, none⟩ := fun e' => by have := (hO23).base_le e'; omega
      refine SR.app tel24 rfl rfl ((hO23).lo hk31) ((hO32).rd) (fun _ => rfl) (by omega) (by omega) ?_
      intro A36 c37 w38 hk39 hO40 hN41
      have hz42 := hk39.size
      have hB43 := hB34.step hk39 (fun i_ hi_ e' => by have := (((hO23).lo hk31)).base_le e'; first | omega | (exfalso; omega) | exact e' | exact .inl e' | exact .inr e')
      refine SR.q' (r_len und24 rfl) <| SR.q' (r_mv (v := .int .i64 0) rfl) <| SR.nil ?_
      refine W.block ?_
      refine W.loop (σ := Nat) (fun g => [(1, .int .i64 s), (4, .int .i64 0), (5, .int .i64 0), (6, .bool false), (7, .int .i64 ((gapTo (L ++ ([(⟨0, s, 1200, 0⟩ : Visit)] : List Visit)) s g).1)), (8, .int .i64 ((gapTo (L ++ ([(⟨0, s, 1200, 0⟩ : Visit)] : List Visit)) s g).2.1)), (9, .int .i64 ((gapTo (L ++ ([(⟨0, s, 1200, 0⟩ : Visit)] : List Visit)) s g).2.2)), (25, .slice A36 (n21 + 1) c37), (26, .int .i64 ((n21 + 1 : Nat) : Int)), (27, .int .i64 (g : Int))]) (fun g w' => (Lo w w') ∧ (SlO w' w10.heap.size encVisit 4 45 A36 (n21 + 1) c37 (L ++ ([(⟨0, s, 1200, 0⟩ : Visit)] : List Visit))) ∧ (g ≤ L.length + 1)) (fun g => L.length + 1 - g) 0 ?_ ?_ ?_
      · exact ⟨rfl, rfl, rfl, rfl, (eI (by first | (first | rfl | omega | (rw [gap_no ‹_[k]? = some _› ‹_›]; first | done | rfl) | (rw [gap_yes ‹_[k]? = some _› ‹_› ‹_›]; first | done | rfl) | (rw [gap_low ‹_[k]? = some _› ‹_› ‹_›]; first | done | rfl)) | (dsimp only; (first | rfl | omega | (rw [gap_no ‹_[k]? = some _› ‹_›]; first | done | rfl) | (rw [gap_yes ‹_[k]? = some _› ‹_› ‹_›]; first | done | rfl) | (rw [gap_low ‹_[k]? = some _› ‹_› ‹_›]; first | done | rfl))))), (eI (by first | (first | rfl | omega | (rw [gap_no ‹_[k]? = some _› ‹_›]; first | done | rfl) | (rw [gap_yes ‹_[k]? = some _› ‹_› ‹_›]; first | done | rfl) | (rw [gap_low ‹_[k]? = some _› ‹_› ‹_›]; first | done | rfl)) | (dsimp only; (first | rfl | omega | (rw [gap_no ‹_[k]? = some _› ‹_›]; first | done | rfl) | (rw [gap_yes ‹_[k]? = some _› ‹_› ‹_›]; first | done | rfl) | (rw [gap_low ‹_[k]? = some _› ‹_› ‹_›]; first | done | rfl))))), (eI (by first | (first | rfl | omega | (rw [gap_no ‹_[k]? = some _› ‹_›]; first | done | rfl) | (rw [gap_yes ‹_[k]? = some _› ‹_› ‹_›]; first | done | rfl) | (rw [gap_low ‹_[k]? = some _› ‹_› ‹_›]; first | done | rfl)) | (dsimp only; (first | rfl | omega | (rw [gap_no ‹_[k]? = some _› ‹_›]; first | done | rfl) | (rw [gap_yes ‹_[k]? = some _› ‹_› ‹_›]; first | done | rfl) | (rw [gap_low ‹_[k]? = some _› ‹_› ‹_›]; first | done | rfl))))), rfl, rfl, (eI (by first | (first | rfl | omega | (rw [gap_no ‹_[k]? = some _› ‹_›]; first | done | rfl) | (rw [gap_yes ‹_[k]? = some _› ‹_› ‹_›]; first | done | rfl) | (rw [gap_low ‹_[k]? = some _› ‹_› ‹_›]; first | done | rfl)) | (dsimp only; (first | rfl | omega | (rw [gap_no ‹_[k]? = some _› ‹_›]; first | done | rfl) | (rw [gap_yes ‹_[k]? = some _› ‹_› ‹_›]; first | done | rfl) | (rw [gap_low ‹_[k]? = some _› ‹_› ‹_›]; first | done | rfl))))), trivial⟩
      · exact ⟨hB43, hO40, (z_c_impl_LongestGap_44 L nL hbdL hleL s h5 hq9 h14 n21 hl26 hl27)⟩
      · rintro k f45 w46 hP48
        obtain ⟨hB47, hm49, hi50⟩ : (Lo w w46) ∧ (SlO w46 w10.heap.size encVisit 4 45 A36 (n21 + 1) c37 (L ++ ([(⟨0, s, 1200, 0⟩ : Visit)] : List Visit))) ∧ (k ≤ L.length + 1) := hP48
        refine (?_ : W _ _ _ _ _ (act _ (sets f45 [(1, .int .i64 s), (4, .int .i64 0), (5, .int .i64 0), (6, .bool false), (7, .int .i64 ((gapTo (L ++ ([(⟨0, s, 1200, 0⟩ : Visit)] : List Visit)) s k).1)), (8, .int .i64 ((gapTo (L ++ ([(⟨0, s, 1200, 0⟩ : Visit)] : List Visit)) s k).2.1)), (9, .int .i64 ((gapTo (L ++ ([(⟨0, s, 1200, 0⟩ : Visit)] : List Visit)) s k).2.2)), (25, .slice A36 (n21 + 1) c37), (26, .int .i64 ((n21 + 1 : Nat) : Int)), (27, .int .i64 (k : Int))])) _)
        have hzw46 := hB47.size
        have hq51 : (0 ≤ (gapTo (L ++ ([(⟨0, s, 1200, 0⟩ : Visit)] : List Visit)) s k).1 ∧ (gapTo (L ++ ([(⟨0, s, 1200, 0⟩ : Visit)] : List Visit)) s k).1 ≤ 1200) ∧ (0 ≤ (gapTo (L ++ ([(⟨0, s, 1200, 0⟩ : Visit)] : List Visit)) s k).2.1 ∧ (gapTo (L ++ ([(⟨0, s, 1200, 0⟩ : Visit)] : List Visit)) s k).2.1 ≤ 1200) ∧ (0 ≤ (gapTo (L ++ ([(⟨0, s, 1200, 0⟩ : Visit)] : List Visit)) s k).2.2 ∧ (gapTo (L ++ ([(⟨0, s, 1200, 0⟩ : Visit)] : List Visit)) s k).2.2 ≤ 1200) := gap_rng (VsD.sent ‹VsOK L› s) s k
        refine W.seq ?_
        refine W.regS (SR.q' (r_lt rfl rfl) <| SR.nil ?_)
        refine W.seq ?_
        refine W.cond_d rfl (fun h52 => ?_) (fun h52 => ?_)
        · refine W.skip ?_
          refine W.seq ?_
          refine W.block ?_
          refine W.seq ?_
          obtain ⟨x53, hx54⟩ := ((hm49).rd).get (i := k) (by omega)
          have hq55 := VsD.sent ‹VsOK L› s _ _ hx54
          refine W.regS (SR.q' (r_ixR tsl24 ((hm49).rd) rfl rfl (by omega)) <| SR.q' (r_lda (l := encVisit x53) agg45 rfl (fun _ _ hu => ((hm49).rd).cell hx54 hu) (((hm49).rd).esz _)) <| SR.alloc (l := [.int .i64 0, .int .i64 0, .int .i64 0, .int .i64 0]) tz45 rfl ?_)
          intro g56 w57 hg58 hk59 hs60 hb61
          have hz62 := hk59.size
          have hB63 := hB47.lo hk59
          have hd64 : ¬ A36 = some ⟨g56, 0, none⟩ := fun e' => by have := (hm49).base_le e'; omega
          refine SR.store (o := 0) (vs := [.int .i64 x53.Reader, .int .i64 x53.Seat, .int .i64 x53.From, .int .i64 x53.Until]) agg45.2 rfl rfl rfl rfl (hb61) (Nat.le_of_ble_eq_true rfl) rfl ?_
          intro w65 hk66 hs67 hb68
          have hz69 := hk66.size
          have hB70 := hB63.new hk66 (by omega)
          refine SR.nil ?_
          refine W.seq ?_
          refine W.seq ?_
          refine W.regS (SR.q' (r_fa fa45_1 rfl) <| SR.q' (r_ld (v := .int .i64 x53.Seat) sca3 rfl ((hb68).cell rfl)) <| SR.q' (r_mv (v := .int .i64 _) rfl) <| SR.q' (r_ne rfl rfl) <| SR.nil ?_)
          refine W.cond_n rfl (fun h71 => ?_) (fun h71 => ?_)
          · refine W.exit (xin_here ?_)
            refine W.regS (SR.q' (r_add rfl rfl (by omega)) <| SR.q' (r_mv (v := .int .i64 _) rfl) <| SR.nil ?_)
            refine ⟨k + 1, _, rfl, ⟨rfl, rfl, rfl, rfl, (eI (by first | (first | rfl | omega | (rw [gap_no ‹_[k]? = some _› ‹_›]; first | done | rfl) | (rw [gap_yes ‹_[k]? = some _› ‹_› ‹_›]; first | done | rfl) | (rw [gap_low ‹_[k]? = some _› ‹_› ‹_›]; first | done | rfl)) | (dsimp only; (first | rfl | omega | (rw [gap_no ‹_[k]? = some _› ‹_›]; first | done | rfl) | (rw [gap_yes ‹_[k]? = some _› ‹_› ‹_›]; first | done | rfl) | (rw [gap_low ‹_[k]? = some _› ‹_› ‹_›]; first | done | rfl))))), (eI (by first | (first | rfl | omega | (rw [gap_no ‹_[k]? = some _› ‹_›]; first | done | rfl) | (rw [gap_yes ‹_[k]? = some _› ‹_› ‹_›]; first | done | rfl) | (rw [gap_low ‹_[k]? = some _› ‹_› ‹_›]; first | done | rfl)) | (dsimp only; (first | rfl | omega | (rw [gap_no ‹_[k]? = some _› ‹_›]; first | done | rfl) | (rw [gap_yes ‹_[k]? = some _› ‹_› ‹_›]; first | done | rfl) | (rw [gap_low ‹_[k]? = some _› ‹_› ‹_›]; first | done | rfl))))), (eI (by first | (first | rfl | omega | (rw [gap_no ‹_[k]? = some _› ‹_›]; first | done | rfl) | (rw [gap_yes ‹_[k]? = some _› ‹_› ‹_›]; first | done | rfl) | (rw [gap_low ‹_[k]? = some _› ‹_› ‹_›]; first | done | rfl)) | (dsimp only; (first | rfl | omega | (rw [gap_no ‹_[k]? = some _› ‹_›]; first | done | rfl) | (rw [gap_yes ‹_[k]? = some _› ‹_› ‹_›]; first | done | rfl) | (rw [gap_low ‹_[k]? = some _› ‹_› ‹_›]; first | done | rfl))))), rfl, rfl, (eI (by first | (first | rfl | omega | (rw [gap_no ‹_[k]? = some _› ‹_›]; first | done | rfl) | (rw [gap_yes ‹_[k]? = some _› ‹_› ‹_›]; first | done | rfl) | (rw [gap_low ‹_[k]? = some _› ‹_› ‹_›]; first | done | rfl)) | (dsimp only; (first | rfl | omega | (rw [gap_no ‹_[k]? = some _› ‹_›]; first | done | rfl) | (rw [gap_yes ‹_[k]? = some _› ‹_› ‹_›]; first | done | rfl) | (rw [gap_low ‹_[k]? = some _› ‹_› ‹_›]; first | done | rfl))))), trivial⟩, ⟨hB70, ((hm49).lo hk59).kd hk66 hd64, ?_⟩, ?_⟩
            · exact (z_c_impl_LongestGap_72 L nL hbdL hleL s h5 hq9 h14 n21 hl26 hl27 k hi50 hq51 h52 x53 hx54 hq55 h71)
            · exact (z_c_impl_LongestGap_73 L nL hbdL hleL s h5 hq9 h14 n21 hl26 hl27 k hi50 hq51 h52 x53 hx54 hq55 h71)
          · refine W.skip ?_
            refine W.seq ?_
            refine W.seq ?_
            refine W.regS (SR.q' (r_fa fa45_2 rfl) <| SR.q' (r_ld (v := .int .i64 x53.From) sca3 rfl ((hb68).cell rfl)) <| SR.q' (r_mv (v := .int .i64 _) rfl) <| SR.q' (r_sub rfl rfl (by omega)) <| SR.q' (r_mv (v := .int .i64 _) rfl) <| SR.q' (r_gt rfl rfl) <| SR.nil ?_)
            refine W.cond_d rfl (fun h74 => ?_) (fun h74 => ?_)
            · refine W.regD mo (by kernel_rfl) (QR.q' (fun w' hw' => r_mv (v := .int .i64 _) rfl) <| QR.q' (fun w' hw' => r_fa fa45_2 rfl) <| QR.q' (fun w' hw' => r_ld (v := .int .i64 x53.From) sca3 rfl (((hb68).lo hw').cell rfl)) <| QR.q' (fun w' hw' => r_mv (v := .int .i64 _) rfl) <| QR.q' (fun w' hw' => r_sub rfl rfl (by omega)) <| QR.q' (fun w' hw' => r_as (v := .int .i64 _) rfl) <| QR.q' (fun w' hw' => r_as (v := .int .i64 _) rfl) <| QR.nil ?_)
              intro w75 hk76
              have hz77 := hk76.size
              have hB78 := hB70.lo hk76
              refine W.regS (SR.q' (r_fa fa45_3 rfl) <| SR.q' (r_ld (v := .int .i64 x53.Until) sca3 rfl (((hb68).lo hk76).cell rfl)) <| SR.q' (r_as (v := .int .i64 _) rfl) <| SR.nil ?_)
              refine W.regS (SR.q' (r_add rfl rfl (by omega)) <| SR.q' (r_mv (v := .int .i64 _) rfl) <| SR.nil ?_)
              refine ⟨k + 1, _, rfl, ⟨rfl, rfl, rfl, rfl, (eI (by first | (first | rfl | omega | (rw [gap_no ‹_[k]? = some _› ‹_›]; first | done | rfl) | (rw [gap_yes ‹_[k]? = some _› ‹_› ‹_›]; first | done | rfl) | (rw [gap_low ‹_[k]? = some _› ‹_› ‹_›]; first | done | rfl)) | (dsimp only; (first | rfl | omega | (rw [gap_no ‹_[k]? = some _› ‹_›]; first | done | rfl) | (rw [gap_yes ‹_[k]? = some _› ‹_› ‹_›]; first | done | rfl) | (rw [gap_low ‹_[k]? = some _› ‹_› ‹_›]; first | done | rfl))))), (eI (by first | (first | rfl | omega | (rw [gap_no ‹_[k]? = some _› ‹_›]; first | done | rfl) | (rw [gap_yes ‹_[k]? = some _› ‹_› ‹_›]; first | done | rfl) | (rw [gap_low ‹_[k]? = some _› ‹_› ‹_›]; first | done | rfl)) | (dsimp only; (first | rfl | omega | (rw [gap_no ‹_[k]? = some _› ‹_›]; first | done | rfl) | (rw [gap_yes ‹_[k]? = some _› ‹_› ‹_›]; first | done | rfl) | (rw [gap_low ‹_[k]? = some _› ‹_› ‹_›]; first | done | rfl))))), (eI (by first | (first | rfl | omega | (rw [gap_no ‹_[k]? = some _› ‹_›]; first | done | rfl) | (rw [gap_yes ‹_[k]? = some _› ‹_› ‹_›]; first | done | rfl) | (rw [gap_low ‹_[k]? = some _› ‹_› ‹_›]; first | done | rfl)) | (dsimp only; (first | rfl | omega | (rw [gap_no ‹_[k]? = some _› ‹_›]; first | done | rfl) | (rw [gap_yes ‹_[k]? = some _› ‹_› ‹_›]; first | done | rfl) | (rw [gap_low ‹_[k]? = some _› ‹_› ‹_›]; first | done | rfl))))), rfl, rfl, (eI (by first | (first | rfl | omega | (rw [gap_no ‹_[k]? = some _› ‹_›]; first | done | rfl) | (rw [gap_yes ‹_[k]? = some _› ‹_› ‹_›]; first | done | rfl) | (rw [gap_low ‹_[k]? = some _› ‹_› ‹_›]; first | done | rfl)) | (dsimp only; (first | rfl | omega | (rw [gap_no ‹_[k]? = some _› ‹_›]; first | done | rfl) | (rw [gap_yes ‹_[k]? = some _› ‹_› ‹_›]; first | done | rfl) | (rw [gap_low ‹_[k]? = some _› ‹_› ‹_›]; first | done | rfl))))), trivial⟩, ⟨hB78, (((hm49).lo hk59).kd hk66 hd64).lo hk76, ?_⟩, ?_⟩
              · exact (z_c_impl_LongestGap_79 L nL hbdL hleL s h5 hq9 h14 n21 hl26 hl27 k hi50 hq51 h52 x53 hx54 hq55 h71 h74)
              · exact (z_c_impl_LongestGap_80 L nL hbdL hleL s h5 hq9 h14 n21 hl26 hl27 k hi50 hq51 h52 x53 hx54 hq55 h71 h74)
            · refine W.skip ?_
              refine W.regS (SR.q' (r_fa fa45_3 rfl) <| SR.q' (r_ld (v := .int .i64 x53.Until) sca3 rfl ((hb68).cell rfl)) <| SR.q' (r_as (v := .int .i64 _) rfl) <| SR.nil ?_)
              refine W.regS (SR.q' (r_add rfl rfl (by omega)) <| SR.q' (r_mv (v := .int .i64 _) rfl) <| SR.nil ?_)
              refine ⟨k + 1, _, rfl, ⟨rfl, rfl, rfl, rfl, (eI (by first | (first | rfl | omega | (rw [gap_no ‹_[k]? = some _› ‹_›]; first | done | rfl) | (rw [gap_yes ‹_[k]? = some _› ‹_› ‹_›]; first | done | rfl) | (rw [gap_low ‹_[k]? = some _› ‹_› ‹_›]; first | done | rfl)) | (dsimp only; (first | rfl | omega | (rw [gap_no ‹_[k]? = some _› ‹_›]; first | done | rfl) | (rw [gap_yes ‹_[k]? = some _› ‹_› ‹_›]; first | done | rfl) | (rw [gap_low ‹_[k]? = some _› ‹_› ‹_›]; first | done | rfl))))), (eI (by first | (first | rfl | omega | (rw [gap_no ‹_[k]? = some _› ‹_›]; first | done | rfl) | (rw [gap_yes ‹_[k]? = some _› ‹_› ‹_›]; first | done | rfl) | (rw [gap_low ‹_[k]? = some _› ‹_› ‹_›]; first | done | rfl)) | (dsimp only; (first | rfl | omega | (rw [gap_no ‹_[k]? = some _› ‹_›]; first | done | rfl) | (rw [gap_yes ‹_[k]? = some _› ‹_› ‹_›]; first | done | rfl) | (rw [gap_low ‹_[k]? = some _› ‹_› ‹_›]; first | done | rfl))))), (eI (by first | (first | rfl | omega | (rw [gap_no ‹_[k]? = some _› ‹_›]; first | done | rfl) | (rw [gap_yes ‹_[k]? = some _› ‹_› ‹_›]; first | done | rfl) | (rw [gap_low ‹_[k]? = some _› ‹_› ‹_›]; first | done | rfl)) | (dsimp only; (first | rfl | omega | (rw [gap_no ‹_[k]? = some _› ‹_›]; first | done | rfl) | (rw [gap_yes ‹_[k]? = some _› ‹_› ‹_›]; first | done | rfl) | (rw [gap_low ‹_[k]? = some _› ‹_› ‹_›]; first | done | rfl))))), rfl, rfl, (eI (by first | (first | rfl | omega | (rw [gap_no ‹_[k]? = some _› ‹_›]; first | done | rfl) | (rw [gap_yes ‹_[k]? = some _› ‹_› ‹_›]; first | done | rfl) | (rw [gap_low ‹_[k]? = some _› ‹_› ‹_›]; first | done | rfl)) | (dsimp only; (first | rfl | omega | (rw [gap_no ‹_[k]? = some _› ‹_›]; first | done | rfl) | (rw [gap_yes ‹_[k]? = some _› ‹_› ‹_›]; first | done | rfl) | (rw [gap_low ‹_[k]? = some _› ‹_› ‹_›]; first | done | rfl))))), trivial⟩, ⟨hB70, ((hm49).lo hk59).kd hk66 hd64, ?_⟩, ?_⟩
              · exact (z_c_impl_LongestGap_81 L nL hbdL hleL s h5 hq9 h14 n21 hl26 hl27 k hi50 hq51 h52 x53 hx54 hq55 h71 h74)
              · exact (z_c_impl_LongestGap_82 L nL hbdL hleL s h5 hq9 h14 n21 hl26 hl27 k hi50 hq51 h52 x53 hx54 hq55 h71 h74)
        · refine W.exit (xin_here ?_)
          refine W.seq ?_
          refine W.regS (SR.q' (r_mv (v := .int .i64 _) rfl) <| SR.q' (r_mv (v := .int .i64 _) rfl) <| SR.q' (r_as (v := .int .i64 _) rfl) <| SR.q' (r_as (v := .int .i64 _) rfl) <| SR.q' (r_as (v := .bool true) rfl) <| SR.nil ?_)
          refine W.ret ?_
          refine ret3 rfl (v := .int .i64 _) (v' := .int .i64 _) (v'' := .bool _) rfl rfl rfl ?_
          exact ⟨eR (eT3 (eI (z_c_impl_LongestGap_83 L nL hbdL hleL s h5 hq9 h14 n21 hl26 hl27 k hi50 hq51 h52)) (eI (z_c_impl_LongestGap_84 L nL hbdL hleL s h5 hq9 h14 n21 hl26 hl27 k hi50 hq51 h52)) (eDT (z_c_impl_LongestGap_85 L nL hbdL hleL s h5 hq9 h14 n21 hl26 hl27 k hi50 hq51 h52))), hB47⟩

theorem z_c_spec_LongestGap_6 (L : List Visit) (nL : Nat) (hbdL : (nL : Int) ≤ 9223372036854775807) (hleL : nL = L.length) (s : Int) (h5 : ¬ (VsOK L)) : 0 = (gapF L s).1 := by
  first | (rw [gap_no1 (by first | exact no_and ‹_ ∨ _› | exact (fun h => ‹¬ VsOK _› h.1) | exact (fun h => ‹¬ (_ ∧ _)› h.2))]; done) | (rw [gap_in ⟨‹VsOK L›, by omega⟩ (k := k) (by first | omega | (simp only [List.length_append, List.length_cons, List.length_nil] at *; omega))]; done) | (rw [gap_inS ⟨‹VsOK L›, by omega⟩ (k := k) (by omega) ‹_›]; done) | (rw [gap_inL ⟨‹VsOK L›, by omega⟩ (k := k) (by omega) ‹_›]; done)
theorem z_c_spec_LongestGap_7 (L : List Visit) (nL : Nat) (hbdL : (nL : Int) ≤ 9223372036854775807) (hleL : nL = L.length) (s : Int) (h5 : ¬ (VsOK L)) : 0 = (gapF L s).2 := by
  first | (rw [gap_no1 (by first | exact no_and ‹_ ∨ _› | exact (fun h => ‹¬ VsOK _› h.1) | exact (fun h => ‹¬ (_ ∧ _)› h.2))]; done) | (rw [gap_in ⟨‹VsOK L›, by omega⟩ (k := k) (by first | omega | (simp only [List.length_append, List.length_cons, List.length_nil] at *; omega))]; done) | (rw [gap_inS ⟨‹VsOK L›, by omega⟩ (k := k) (by omega) ‹_›]; done) | (rw [gap_inL ⟨‹VsOK L›, by omega⟩ (k := k) (by omega) ‹_›]; done)
theorem z_c_spec_LongestGap_8 (L : List Visit) (nL : Nat) (hbdL : (nL : Int) ≤ 9223372036854775807) (hleL : nL = L.length) (s : Int) (h5 : ¬ (VsOK L)) : ¬ (VsOK L ∧ (1 ≤ s ∧ s ≤ 6)) := by
  first | exact ⟨‹VsOK L›, by omega⟩ | exact no_and ‹_ ∨ _› | exact (fun h => ‹¬ VsOK _› h.1) | exact (fun h => ‹¬ (_ ∧ _)› h.2)
theorem z_c_spec_LongestGap_15 (L : List Visit) (nL : Nat) (hbdL : (nL : Int) ≤ 9223372036854775807) (hleL : nL = L.length) (s : Int) (h5 : VsOK L) (hq9 : L.length ≤ 15) (h14 : ¬ (1 ≤ s ∧ s ≤ 6)) : 0 = (gapF L s).1 := by
  first | (rw [gap_no1 (by first | exact no_and ‹_ ∨ _› | exact (fun h => ‹¬ VsOK _› h.1) | exact (fun h => ‹¬ (_ ∧ _)› h.2))]; done) | (rw [gap_in ⟨‹VsOK L›, by omega⟩ (k := k) (by first | omega | (simp only [List.length_append, List.length_cons, List.length_nil] at *; omega))]; done) | (rw [gap_inS ⟨‹VsOK L›, by omega⟩ (k := k) (by omega) ‹_›]; done) | (rw [gap_inL ⟨‹VsOK L›, by omega⟩ (k := k) (by omega) ‹_›]; done)
theorem z_c_spec_LongestGap_16 (L : List Visit) (nL : Nat) (hbdL : (nL : Int) ≤ 9223372036854775807) (hleL : nL = L.length) (s : Int) (h5 : VsOK L) (hq9 : L.length ≤ 15) (h14 : ¬ (1 ≤ s ∧ s ≤ 6)) : 0 = (gapF L s).2 := by
  first | (rw [gap_no1 (by first | exact no_and ‹_ ∨ _› | exact (fun h => ‹¬ VsOK _› h.1) | exact (fun h => ‹¬ (_ ∧ _)› h.2))]; done) | (rw [gap_in ⟨‹VsOK L›, by omega⟩ (k := k) (by first | omega | (simp only [List.length_append, List.length_cons, List.length_nil] at *; omega))]; done) | (rw [gap_inS ⟨‹VsOK L›, by omega⟩ (k := k) (by omega) ‹_›]; done) | (rw [gap_inL ⟨‹VsOK L›, by omega⟩ (k := k) (by omega) ‹_›]; done)
theorem z_c_spec_LongestGap_17 (L : List Visit) (nL : Nat) (hbdL : (nL : Int) ≤ 9223372036854775807) (hleL : nL = L.length) (s : Int) (h5 : VsOK L) (hq9 : L.length ≤ 15) (h14 : ¬ (1 ≤ s ∧ s ≤ 6)) : ¬ (VsOK L ∧ (1 ≤ s ∧ s ≤ 6)) := by
  first | exact ⟨‹VsOK L›, by omega⟩ | exact no_and ‹_ ∨ _› | exact (fun h => ‹¬ VsOK _› h.1) | exact (fun h => ‹¬ (_ ∧ _)› h.2)
theorem z_c_spec_LongestGap_18 (L : List Visit) (nL : Nat) (hbdL : (nL : Int) ≤ 9223372036854775807) (hleL : nL = L.length) (s : Int) (h5 : VsOK L) (hq9 : L.length ≤ 15) (h14 : 1 ≤ s ∧ s ≤ 6) : 0 ≤ L.length := by
  omega
theorem z_c_spec_LongestGap_31 (L : List Visit) (nL : Nat) (hbdL : (nL : Int) ≤ 9223372036854775807) (hleL : nL = L.length) (s : Int) (h5 : VsOK L) (hq9 : L.length ≤ 15) (h14 : 1 ≤ s ∧ s ≤ 6) (k : Nat) (hi24 : k ≤ L.length) (hq25 : (0 ≤ (gapTo L s k).1 ∧ (gapTo L s k).1 ≤ 1200) ∧ (0 ≤ (gapTo L s k).2.1 ∧ (gapTo L s k).2.1 ≤ 1200) ∧ (0 ≤ (gapTo L s k).2.2 ∧ (gapTo L s k).2.2 ≤ 1200)) (h26 : (k : Int) < (nL : Int)) (x27 : Visit) (hx28 : L[k]? = some x27) (hq29 : ((1 : Int) ≤ x27.Reader ∧ x27.Reader ≤ 999) ∧ ((1 : Int) ≤ x27.Seat ∧ x27.Seat ≤ 6) ∧ ((480 : Int) ≤ x27.From ∧ x27.From ≤ 1200) ∧ ((480 : Int) ≤ x27.Until ∧ x27.Until ≤ 1200) ∧ x27.From < x27.Until) (h30 : ¬ (x27.Seat = s)) : k + 1 ≤ L.length := by
  first | omega | (simp only [List.length_append, List.length_cons, List.length_nil] at *; omega)
theorem z_c_spec_LongestGap_32 (L : List Visit) (nL : Nat) (hbdL : (nL : Int) ≤ 9223372036854775807) (hleL : nL = L.length) (s : Int) (h5 : VsOK L) (hq9 : L.length ≤ 15) (h14 : 1 ≤ s ∧ s ≤ 6) (k : Nat) (hi24 : k ≤ L.length) (hq25 : (0 ≤ (gapTo L s k).1 ∧ (gapTo L s k).1 ≤ 1200) ∧ (0 ≤ (gapTo L s k).2.1 ∧ (gapTo L s k).2.1 ≤ 1200) ∧ (0 ≤ (gapTo L s k).2.2 ∧ (gapTo L s k).2.2 ≤ 1200)) (h26 : (k : Int) < (nL : Int)) (x27 : Visit) (hx28 : L[k]? = some x27) (hq29 : ((1 : Int) ≤ x27.Reader ∧ x27.Reader ≤ 999) ∧ ((1 : Int) ≤ x27.Seat ∧ x27.Seat ≤ 6) ∧ ((480 : Int) ≤ x27.From ∧ x27.From ≤ 1200) ∧ ((480 : Int) ≤ x27.Until ∧ x27.Until ≤ 1200) ∧ x27.From < x27.Until) (h30 : ¬ (x27.Seat = s)) : L.length - (k + 1) < L.length - k := by
  omega
theorem z_c_spec_LongestGap_34 (L : List Visit) (nL : Nat) (hbdL : (nL : Int) ≤ 9223372036854775807) (hleL : nL = L.length) (s : Int) (h5 : VsOK L) (hq9 : L.length ≤ 15) (h14 : 1 ≤ s ∧ s ≤ 6) (k : Nat) (hi24 : k ≤ L.length) (hq25 : (0 ≤ (gapTo L s k).1 ∧ (gapTo L s k).1 ≤ 1200) ∧ (0 ≤ (gapTo L s k).2.1 ∧ (gapTo L s k).2.1 ≤ 1200) ∧ (0 ≤ (gapTo L s k).2.2 ∧ (gapTo L s k).2.2 ≤ 1200)) (h26 : (k : Int) < (nL : Int)) (x27 : Visit) (hx28 : L[k]? = some x27) (hq29 : ((1 : Int) ≤ x27.Reader ∧ x27.Reader ≤ 999) ∧ ((1 : Int) ≤ x27.Seat ∧ x27.Seat ≤ 6) ∧ ((480 : Int) ≤ x27.From ∧ x27.From ≤ 1200) ∧ ((480 : Int) ≤ x27.Until ∧ x27.Until ≤ 1200) ∧ x27.From < x27.Until) (h30 : x27.Seat = s) (h33 : ((gapTo L s k).2.1) < (x27.From - ((gapTo L s k).2.2))) : k + 1 ≤ L.length := by
  first | omega | (simp only [List.length_append, List.length_cons, List.length_nil] at *; omega)
theorem z_c_spec_LongestGap_35 (L : List Visit) (nL : Nat) (hbdL : (nL : Int) ≤ 9223372036854775807) (hleL : nL = L.length) (s : Int) (h5 : VsOK L) (hq9 : L.length ≤ 15) (h14 : 1 ≤ s ∧ s ≤ 6) (k : Nat) (hi24 : k ≤ L.length) (hq25 : (0 ≤ (gapTo L s k).1 ∧ (gapTo L s k).1 ≤ 1200) ∧ (0 ≤ (gapTo L s k).2.1 ∧ (gapTo L s k).2.1 ≤ 1200) ∧ (0 ≤ (gapTo L s k).2.2 ∧ (gapTo L s k).2.2 ≤ 1200)) (h26 : (k : Int) < (nL : Int)) (x27 : Visit) (hx28 : L[k]? = some x27) (hq29 : ((1 : Int) ≤ x27.Reader ∧ x27.Reader ≤ 999) ∧ ((1 : Int) ≤ x27.Seat ∧ x27.Seat ≤ 6) ∧ ((480 : Int) ≤ x27.From ∧ x27.From ≤ 1200) ∧ ((480 : Int) ≤ x27.Until ∧ x27.Until ≤ 1200) ∧ x27.From < x27.Until) (h30 : x27.Seat = s) (h33 : ((gapTo L s k).2.1) < (x27.From - ((gapTo L s k).2.2))) : L.length - (k + 1) < L.length - k := by
  omega
theorem z_c_spec_LongestGap_36 (L : List Visit) (nL : Nat) (hbdL : (nL : Int) ≤ 9223372036854775807) (hleL : nL = L.length) (s : Int) (h5 : VsOK L) (hq9 : L.length ≤ 15) (h14 : 1 ≤ s ∧ s ≤ 6) (k : Nat) (hi24 : k ≤ L.length) (hq25 : (0 ≤ (gapTo L s k).1 ∧ (gapTo L s k).1 ≤ 1200) ∧ (0 ≤ (gapTo L s k).2.1 ∧ (gapTo L s k).2.1 ≤ 1200) ∧ (0 ≤ (gapTo L s k).2.2 ∧ (gapTo L s k).2.2 ≤ 1200)) (h26 : (k : Int) < (nL : Int)) (x27 : Visit) (hx28 : L[k]? = some x27) (hq29 : ((1 : Int) ≤ x27.Reader ∧ x27.Reader ≤ 999) ∧ ((1 : Int) ≤ x27.Seat ∧ x27.Seat ≤ 6) ∧ ((480 : Int) ≤ x27.From ∧ x27.From ≤ 1200) ∧ ((480 : Int) ≤ x27.Until ∧ x27.Until ≤ 1200) ∧ x27.From < x27.Until) (h30 : x27.Seat = s) (h33 : ¬ (((gapTo L s k).2.1) < (x27.From - ((gapTo L s k).2.2)))) : k + 1 ≤ L.length := by
  first | omega | (simp only [List.length_append, List.length_cons, List.length_nil] at *; omega)
theorem z_c_spec_LongestGap_37 (L : List Visit) (nL : Nat) (hbdL : (nL : Int) ≤ 9223372036854775807) (hleL : nL = L.length) (s : Int) (h5 : VsOK L) (hq9 : L.length ≤ 15) (h14 : 1 ≤ s ∧ s ≤ 6) (k : Nat) (hi24 : k ≤ L.length) (hq25 : (0 ≤ (gapTo L s k).1 ∧ (gapTo L s k).1 ≤ 1200) ∧ (0 ≤ (gapTo L s k).2.1 ∧ (gapTo L s k).2.1 ≤ 1200) ∧ (0 ≤ (gapTo L s k).2.2 ∧ (gapTo L s k).2.2 ≤ 1200)) (h26 : (k : Int) < (nL : Int)) (x27 : Visit) (hx28 : L[k]? = some x27) (hq29 : ((1 : Int) ≤ x27.Reader ∧ x27.Reader ≤ 999) ∧ ((1 : Int) ≤ x27.Seat ∧ x27.Seat ≤ 6) ∧ ((480 : Int) ≤ x27.From ∧ x27.From ≤ 1200) ∧ ((480 : Int) ≤ x27.Until ∧ x27.Until ≤ 1200) ∧ x27.From < x27.Until) (h30 : x27.Seat = s) (h33 : ¬ (((gapTo L s k).2.1) < (x27.From - ((gapTo L s k).2.2)))) : L.length - (k + 1) < L.length - k := by
  omega
theorem z_c_spec_LongestGap_39 (L : List Visit) (nL : Nat) (hbdL : (nL : Int) ≤ 9223372036854775807) (hleL : nL = L.length) (s : Int) (h5 : VsOK L) (hq9 : L.length ≤ 15) (h14 : 1 ≤ s ∧ s ≤ 6) (k : Nat) (hi24 : k ≤ L.length) (hq25 : (0 ≤ (gapTo L s k).1 ∧ (gapTo L s k).1 ≤ 1200) ∧ (0 ≤ (gapTo L s k).2.1 ∧ (gapTo L s k).2.1 ≤ 1200) ∧ (0 ≤ (gapTo L s k).2.2 ∧ (gapTo L s k).2.2 ≤ 1200)) (h26 : ¬ ((k : Int) < (nL : Int))) (h38 : ((gapTo L s k).2.1) < (1200 - ((gapTo L s k).2.2))) : (gapTo L s k).2.2 = (gapF L s).1 := by
  first | (rw [gap_no1 (by first | exact no_and ‹_ ∨ _› | exact (fun h => ‹¬ VsOK _› h.1) | exact (fun h => ‹¬ (_ ∧ _)› h.2))]; done) | (rw [gap_in ⟨‹VsOK L›, by omega⟩ (k := k) (by first | omega | (simp only [List.length_append, List.length_cons, List.length_nil] at *; omega))]; done) | (rw [gap_inS ⟨‹VsOK L›, by omega⟩ (k := k) (by omega) ‹_›]; done) | (rw [gap_inL ⟨‹VsOK L›, by omega⟩ (k := k) (by omega) ‹_›]; done)
theorem z_c_spec_LongestGap_40 (L : List Visit) (nL : Nat) (hbdL : (nL : Int) ≤ 9223372036854775807) (hleL : nL = L.length) (s : Int) (h5 : VsOK L) (hq9 : L.length ≤ 15) (h14 : 1 ≤ s ∧ s ≤ 6) (k : Nat) (hi24 : k ≤ L.length) (hq25 : (0 ≤ (gapTo L s k).1 ∧ (gapTo L s k).1 ≤ 1200) ∧ (0 ≤ (gapTo L s k).2.1 ∧ (gapTo L s k).2.1 ≤ 1200) ∧ (0 ≤ (gapTo L s k).2.2 ∧ (gapTo L s k).2.2 ≤ 1200)) (h26 : ¬ ((k : Int) < (nL : Int))) (h38 : ((gapTo L s k).2.1) < (1200 - ((gapTo L s k).2.2))) : 1200 - ((gapTo L s k).2.2) = (gapF L s).2 := by
  first | (rw [gap_no1 (by first | exact no_and ‹_ ∨ _› | exact (fun h => ‹¬ VsOK _› h.1) | exact (fun h => ‹¬ (_ ∧ _)› h.2))]; done) | (rw [gap_in ⟨‹VsOK L›, by omega⟩ (k := k) (by first | omega | (simp only [List.length_append, List.length_cons, List.length_nil] at *; omega))]; done) | (rw [gap_inS ⟨‹VsOK L›, by omega⟩ (k := k) (by omega) ‹_›]; done) | (rw [gap_inL ⟨‹VsOK L›, by omega⟩ (k := k) (by omega) ‹_›]; done)
theorem z_c_spec_LongestGap_41 (L : List Visit) (nL : Nat) (hbdL : (nL : Int) ≤ 9223372036854775807) (hleL : nL = L.length) (s : Int) (h5 : VsOK L) (hq9 : L.length ≤ 15) (h14 : 1 ≤ s ∧ s ≤ 6) (k : Nat) (hi24 : k ≤ L.length) (hq25 : (0 ≤ (gapTo L s k).1 ∧ (gapTo L s k).1 ≤ 1200) ∧ (0 ≤ (gapTo L s k).2.1 ∧ (gapTo L s k).2.1 ≤ 1200) ∧ (0 ≤ (gapTo L s k).2.2 ∧ (gapTo L s k).2.2 ≤ 1200)) (h26 : ¬ ((k : Int) < (nL : Int))) (h38 : ((gapTo L s k).2.1) < (1200 - ((gapTo L s k).2.2))) : VsOK L ∧ (1 ≤ s ∧ s ≤ 6) := by
  first | exact ⟨‹VsOK L›, by omega⟩ | exact no_and ‹_ ∨ _› | exact (fun h => ‹¬ VsOK _› h.1) | exact (fun h => ‹¬ (_ ∧ _)› h.2)
theorem z_c_spec_LongestGap_42 (L : List Visit) (nL : Nat) (hbdL : (nL : Int) ≤ 9223372036854775807) (hleL : nL = L.length) (s : Int) (h5 : VsOK L) (hq9 : L.length ≤ 15) (h14 : 1 ≤ s ∧ s ≤ 6) (k : Nat) (hi24 : k ≤ L.length) (hq25 : (0 ≤ (gapTo L s k).1 ∧ (gapTo L s k).1 ≤ 1200) ∧ (0 ≤ (gapTo L s k).2.1 ∧ (gapTo L s k).2.1 ≤ 1200) ∧ (0 ≤ (gapTo L s k).2.2 ∧ (gapTo L s k).2.2 ≤ 1200)) (h26 : ¬ ((k : Int) < (nL : Int))) (h38 : ¬ (((gapTo L s k).2.1) < (1200 - ((gapTo L s k).2.2)))) : (gapTo L s k).1 = (gapF L s).1 := by
  first | (rw [gap_no1 (by first | exact no_and ‹_ ∨ _› | exact (fun h => ‹¬ VsOK _› h.1) | exact (fun h => ‹¬ (_ ∧ _)› h.2))]; done) | (rw [gap_in ⟨‹VsOK L›, by omega⟩ (k := k) (by first | omega | (simp only [List.length_append, List.length_cons, List.length_nil] at *; omega))]; done) | (rw [gap_inS ⟨‹VsOK L›, by omega⟩ (k := k) (by omega) ‹_›]; done) | (rw [gap_inL ⟨‹VsOK L›, by omega⟩ (k := k) (by omega) ‹_›]; done)
theorem z_c_spec_LongestGap_43 (L : List Visit) (nL : Nat) (hbdL : (nL : Int) ≤ 9223372036854775807) (hleL : nL = L.length) (s : Int) (h5 : VsOK L) (hq9 : L.length ≤ 15) (h14 : 1 ≤ s ∧ s ≤ 6) (k : Nat) (hi24 : k ≤ L.length) (hq25 : (0 ≤ (gapTo L s k).1 ∧ (gapTo L s k).1 ≤ 1200) ∧ (0 ≤ (gapTo L s k).2.1 ∧ (gapTo L s k).2.1 ≤ 1200) ∧ (0 ≤ (gapTo L s k).2.2 ∧ (gapTo L s k).2.2 ≤ 1200)) (h26 : ¬ ((k : Int) < (nL : Int))) (h38 : ¬ (((gapTo L s k).2.1) < (1200 - ((gapTo L s k).2.2)))) : (gapTo L s k).2.1 = (gapF L s).2 := by
  first | (rw [gap_no1 (by first | exact no_and ‹_ ∨ _› | exact (fun h => ‹¬ VsOK _› h.1) | exact (fun h => ‹¬ (_ ∧ _)› h.2))]; done) | (rw [gap_in ⟨‹VsOK L›, by omega⟩ (k := k) (by first | omega | (simp only [List.length_append, List.length_cons, List.length_nil] at *; omega))]; done) | (rw [gap_inS ⟨‹VsOK L›, by omega⟩ (k := k) (by omega) ‹_›]; done) | (rw [gap_inL ⟨‹VsOK L›, by omega⟩ (k := k) (by omega) ‹_›]; done)
theorem z_c_spec_LongestGap_44 (L : List Visit) (nL : Nat) (hbdL : (nL : Int) ≤ 9223372036854775807) (hleL : nL = L.length) (s : Int) (h5 : VsOK L) (hq9 : L.length ≤ 15) (h14 : 1 ≤ s ∧ s ≤ 6) (k : Nat) (hi24 : k ≤ L.length) (hq25 : (0 ≤ (gapTo L s k).1 ∧ (gapTo L s k).1 ≤ 1200) ∧ (0 ≤ (gapTo L s k).2.1 ∧ (gapTo L s k).2.1 ≤ 1200) ∧ (0 ≤ (gapTo L s k).2.2 ∧ (gapTo L s k).2.2 ≤ 1200)) (h26 : ¬ ((k : Int) < (nL : Int))) (h38 : ¬ (((gapTo L s k).2.1) < (1200 - ((gapTo L s k).2.2)))) : VsOK L ∧ (1 ≤ s ∧ s ≤ 6) := by
  first | exact ⟨‹VsOK L›, by omega⟩ | exact no_and ‹_ ∨ _› | exact (fun h => ‹¬ VsOK _› h.1) | exact (fun h => ‹¬ (_ ∧ _)› h.2)
theorem c_spec_LongestGap (w : World) {AL : Option Addr} {nL cL BL : Nat}  (L : List Visit) (hL : SlR w BL encVisit 4 AL nL cL L) (s : Int) : Calls Tryz.prog 13 #[.slice AL nL cL, .int .i64 s] w fun e w' => e = .returned (.tuple (List.toArray [.int .i64 ((gapF L s).1), .int .i64 ((gapF L s).2), .bool (decide (VsOK L ∧ (1 ≤ s ∧ s ≤ 6)))])) ∧ Lo w w' := by
  refine calls_W 60 Tryz.func13 rfl rfl rfl ?_
  have hbdL := hL.bound
  have hleL := hL.len
  have hBbL := hL.bd
  refine W.seq ?_
  refine W.regS (SR.q' (r_as (v := .int .i64 0) rfl) <| SR.q' (r_as (v := .int .i64 0) rfl) <| SR.q' (r_as (v := .bool false) rfl) <| SR.nil ?_)
  refine W.seq ?_
  refine W.seq ?_
  refine W.regS (SR.q' (r_mv (v := .slice _ _ _) rfl) <| SR.call ent32 (c_spec_l30Good w L ((hL))) rfl ?_)
  rintro e w1 ⟨rfl, hk2⟩
  refine ⟨_, rfl, ?_⟩
  have hz3 := hk2.size
  have hB4 := (Lo.refl w).lo hk2
  refine SR.q' (r_not rfl) <| SR.q' (r_mv (v := .bool _) rfl) <| SR.splitN (fun h5 => ?_) (fun h5 => ?_)
  · refine SR.s' rfl <| SR.s' rfl <| SR.s' rfl <| SR.q' (r_pick true rfl (v := .bool true) rfl) <| SR.nil ?_
    refine W.cond_t rfl ?_
    refine W.seq ?_
    refine W.regS (SR.q' (r_as (v := .int .i64 0) rfl) <| SR.q' (r_as (v := .int .i64 0) rfl) <| SR.q' (r_as (v := .bool false) rfl) <| SR.nil ?_)
    refine W.ret ?_
    refine ret3 rfl (v := .int .i64 _) (v' := .int .i64 _) (v'' := .bool _) rfl rfl rfl ?_
    exact ⟨eR (eT3 (eI (z_c_spec_LongestGap_6 L nL hbdL hleL s h5)) (eI (z_c_spec_LongestGap_7 L nL hbdL hleL s h5)) (eDF (z_c_spec_LongestGap_8 L nL hbdL hleL s h5))), hB4⟩
  · have hq9 := vs_len h5
    refine SR.g' rfl (r_mv (v := .int .i64 _) rfl) <| SR.gcall rfl ent40 (c_spec_l30Seat w1 s) rfl ?_
    rintro e w10 ⟨rfl, hk11⟩
    refine ⟨_, rfl, ?_⟩
    have hz12 := hk11.size
    have hB13 := hB4.lo hk11
    refine SR.g' rfl (r_not rfl) <| SR.q' (r_pick false rfl (v := .bool _) rfl) <| SR.nil ?_
    refine W.cond_n rfl (fun h14 => ?_) (fun h14 => ?_)
    · refine W.seq ?_
      refine W.regS (SR.q' (r_as (v := .int .i64 0) rfl) <| SR.q' (r_as (v := .int .i64 0) rfl) <| SR.q' (r_as (v := .bool false) rfl) <| SR.nil ?_)
      refine W.ret ?_
      refine ret3 rfl (v := .int .i64 _) (v' := .int .i64 _) (v'' := .bool _) rfl rfl rfl ?_
      exact ⟨eR (eT3 (eI (z_c_spec_LongestGap_15 L nL hbdL hleL s h5 hq9 h14)) (eI (z_c_spec_LongestGap_16 L nL hbdL hleL s h5 hq9 h14)) (eDF (z_c_spec_LongestGap_17 L nL hbdL hleL s h5 hq9 h14))), hB13⟩
    · refine W.skip ?_
      refine W.seq ?_
      refine W.regS (SR.q' (r_as (v := .int .i64 480) rfl) <| SR.q' (r_as (v := .int .i64 0) rfl) <| SR.q' (r_as (v := .int .i64 480) rfl) <| SR.nil ?_)
      refine W.seq ?_
      refine W.seq ?_
      refine W.regS (SR.q' (r_as (v := .int .i64 0) rfl) <| SR.nil ?_)
      refine W.block ?_
      refine W.loop (σ := Nat) (fun g => [(0, .slice AL nL cL), (1, .int .i64 s), (4, .int .i64 0), (5, .int .i64 0), (6, .bool false), (7, .int .i64 ((gapTo L s g).1)), (8, .int .i64 ((gapTo L s g).2.1)), (9, .int .i64 ((gapTo L s g).2.2)), (10, .int .i64 (g : Int))]) (fun g w' => (Lo w w') ∧ (SlR w' BL encVisit 4 AL nL cL L) ∧ (g ≤ L.length)) (fun g => L.length - g) 0 ?_ ?_ ?_
      · exact ⟨rfl, rfl, rfl, rfl, rfl, (eI (by first | (first | rfl | omega | (rw [gap_no ‹_[k]? = some _› ‹_›]; first | done | rfl) | (rw [gap_yes ‹_[k]? = some _› ‹_› ‹_›]; first | done | rfl) | (rw [gap_low ‹_[k]? = some _› ‹_› ‹_›]; first | done | rfl)) | (dsimp only; (first | rfl | omega | (rw [gap_no ‹_[k]? = some _› ‹_›]; first | done | rfl) | (rw [gap_yes ‹_[k]? = some _› ‹_› ‹_›]; first | done | rfl) | (rw [gap_low ‹_[k]? = some _› ‹_› ‹_›]; first | done | rfl))))), (eI (by first | (first | rfl | omega | (rw [gap_no ‹_[k]? = some _› ‹_›]; first | done | rfl) | (rw [gap_yes ‹_[k]? = some _› ‹_› ‹_›]; first | done | rfl) | (rw [gap_low ‹_[k]? = some _› ‹_› ‹_›]; first | done | rfl)) | (dsimp only; (first | rfl | omega | (rw [gap_no ‹_[k]? = some _› ‹_›]; first | done | rfl) | (rw [gap_yes ‹_[k]? = some _› ‹_› ‹_›]; first | done | rfl) | (rw [gap_low ‹_[k]? = some _› ‹_› ‹_›]; first | done | rfl))))), (eI (by first | (first | rfl | omega | (rw [gap_no ‹_[k]? = some _› ‹_›]; first | done | rfl) | (rw [gap_yes ‹_[k]? = some _› ‹_› ‹_›]; first | done | rfl) | (rw [gap_low ‹_[k]? = some _› ‹_› ‹_›]; first | done | rfl)) | (dsimp only; (first | rfl | omega | (rw [gap_no ‹_[k]? = some _› ‹_›]; first | done | rfl) | (rw [gap_yes ‹_[k]? = some _› ‹_› ‹_›]; first | done | rfl) | (rw [gap_low ‹_[k]? = some _› ‹_› ‹_›]; first | done | rfl))))), (eI (by first | (first | rfl | omega | (rw [gap_no ‹_[k]? = some _› ‹_›]; first | done | rfl) | (rw [gap_yes ‹_[k]? = some _› ‹_› ‹_›]; first | done | rfl) | (rw [gap_low ‹_[k]? = some _› ‹_› ‹_›]; first | done | rfl)) | (dsimp only; (first | rfl | omega | (rw [gap_no ‹_[k]? = some _› ‹_›]; first | done | rfl) | (rw [gap_yes ‹_[k]? = some _› ‹_› ‹_›]; first | done | rfl) | (rw [gap_low ‹_[k]? = some _› ‹_› ‹_›]; first | done | rfl))))), trivial⟩
      · exact ⟨hB13, ((hL).lo hk2).lo hk11, (z_c_spec_LongestGap_18 L nL hbdL hleL s h5 hq9 h14)⟩
      · rintro k f19 w20 hP22
        obtain ⟨hB21, hm23, hi24⟩ : (Lo w w20) ∧ (SlR w20 BL encVisit 4 AL nL cL L) ∧ (k ≤ L.length) := hP22
        refine (?_ : W _ _ _ _ _ (act _ (sets f19 [(0, .slice AL nL cL), (1, .int .i64 s), (4, .int .i64 0), (5, .int .i64 0), (6, .bool false), (7, .int .i64 ((gapTo L s k).1)), (8, .int .i64 ((gapTo L s k).2.1)), (9, .int .i64 ((gapTo L s k).2.2)), (10, .int .i64 (k : Int))])) _)
        have hzw20 := hB21.size
        have hq25 : (0 ≤ (gapTo L s k).1 ∧ (gapTo L s k).1 ≤ 1200) ∧ (0 ≤ (gapTo L s k).2.1 ∧ (gapTo L s k).2.1 ≤ 1200) ∧ (0 ≤ (gapTo L s k).2.2 ∧ (gapTo L s k).2.2 ≤ 1200) := gap_rng (VsD.of ‹VsOK L›) s k
        refine W.seq ?_
        refine W.seq ?_
        refine W.regS (SR.q' (r_mv (v := .int .i64 _) rfl) <| SR.q' (r_mv (v := .slice _ _ _) rfl) <| SR.q' (r_len und24 rfl) <| SR.q' (r_lt rfl rfl) <| SR.nil ?_)
        refine W.cond_d rfl (fun h26 => ?_) (fun h26 => ?_)
        · refine W.skip ?_
          refine W.seq ?_
          refine W.block ?_
          refine W.seq ?_
          refine W.seq ?_
          refine W.regS (SR.q' (r_mv (v := .slice _ _ _) rfl) <| SR.q' (r_mv (v := .int .i64 _) rfl) <| ?_)
          obtain ⟨x27, hx28⟩ := (hm23).get (i := k) (by omega)
          have hq29 := vs_rng h5 hx28
          refine SR.q' (r_ixR tsl24 (hm23) rfl rfl (by omega)) <| SR.q' (r_fa fa45_1 rfl) <| SR.q' (r_ld (v := .int .i64 x27.Seat) sca3 rfl ((hm23).cell hx28 rfl)) <| SR.q' (r_mv (v := .int .i64 _) rfl) <| SR.q' (r_ne rfl rfl) <| SR.nil ?_
          refine W.cond_n rfl (fun h30 => ?_) (fun h30 => ?_)
          · refine W.exit (xin_here ?_)
            refine W.regS (SR.q' (r_mv (v := .int .i64 _) rfl) <| SR.q' (r_add rfl rfl (by omega)) <| SR.q' (r_as (v := .int .i64 _) rfl) <| SR.nil ?_)
            refine ⟨k + 1, _, rfl, ⟨rfl, rfl, rfl, rfl, rfl, (eI (by first | (first | rfl | omega | (rw [gap_no ‹_[k]? = some _› ‹_›]; first | done | rfl) | (rw [gap_yes ‹_[k]? = some _› ‹_› ‹_›]; first | done | rfl) | (rw [gap_low ‹_[k]? = some _› ‹_› ‹_›]; first | done | rfl)) | (dsimp only; (first | rfl | omega | (rw [gap_no ‹_[k]? = some _› ‹_›]; first | done | rfl) | (rw [gap_yes ‹_[k]? = some _› ‹_› ‹_›]; first | done | rfl) | (rw [gap_low ‹_[k]? = some _› ‹_› ‹_›]; first | done | rfl))))), (eI (by first | (first | rfl | omega | (rw [gap_no ‹_[k]? = some _› ‹_›]; first | done | rfl) | (rw [gap_yes ‹_[k]? = some _› ‹_› ‹_›]; first | done | rfl) | (rw [gap_low ‹_[k]? = some _› ‹_› ‹_›]; first | done | rfl)) | (dsimp only; (first | rfl | omega | (rw [gap_no ‹_[k]? = some _› ‹_›]; first | done | rfl) | (rw [gap_yes ‹_[k]? = some _› ‹_› ‹_›]; first | done | rfl) | (rw [gap_low ‹_[k]? = some _› ‹_› ‹_›]; first | done | rfl))))), (eI (by first | (first | rfl | omega | (rw [gap_no ‹_[k]? = some _› ‹_›]; first | done | rfl) | (rw [gap_yes ‹_[k]? = some _› ‹_› ‹_›]; first | done | rfl) | (rw [gap_low ‹_[k]? = some _› ‹_› ‹_›]; first | done | rfl)) | (dsimp only; (first | rfl | omega | (rw [gap_no ‹_[k]? = some _› ‹_›]; first | done | rfl) | (rw [gap_yes ‹_[k]? = some _› ‹_› ‹_›]; first | done | rfl) | (rw [gap_low ‹_[k]? = some _› ‹_› ‹_›]; first | done | rfl))))), (eI (by first | (first | rfl | omega | (rw [gap_no ‹_[k]? = some _› ‹_›]; first | done | rfl) | (rw [gap_yes ‹_[k]? = some _› ‹_› ‹_›]; first | done | rfl) | (rw [gap_low ‹_[k]? = some _› ‹_› ‹_›]; first | done | rfl)) | (dsimp only; (first | rfl | omega | (rw [gap_no ‹_[k]? = some _› ‹_›]; first | done | rfl) | (rw [gap_yes ‹_[k]? = some _› ‹_› ‹_›]; first | done | rfl) | (rw [gap_low ‹_[k]? = some _› ‹_› ‹_›]; first | done | rfl))))), trivial⟩, ⟨hB21, hm23, ?_⟩, ?_⟩
            · exact (z_c_spec_LongestGap_31 L nL hbdL hleL s h5 hq9 h14 k hi24 hq25 h26 x27 hx28 hq29 h30)
            · exact (z_c_spec_LongestGap_32 L nL hbdL hleL s h5 hq9 h14 k hi24 hq25 h26 x27 hx28 hq29 h30)
          · refine W.skip ?_
            refine W.seq ?_
            refine W.seq ?_
            refine W.regS (SR.q' (r_mv (v := .slice _ _ _) rfl) <| SR.q' (r_mv (v := .int .i64 _) rfl) <| SR.q' (r_ixR tsl24 (hm23) rfl rfl (by omega)) <| SR.q' (r_fa fa45_2 rfl) <| SR.q' (r_ld (v := .int .i64 x27.From) sca3 rfl ((hm23).cell hx28 rfl)) <| SR.q' (r_mv (v := .int .i64 _) rfl) <| SR.q' (r_sub rfl rfl (by omega)) <| SR.q' (r_as (v := .int .i64 _) rfl) <| SR.nil ?_)
            refine W.seq ?_
            refine W.regS (SR.q' (r_mv (v := .int .i64 _) rfl) <| SR.q' (r_mv (v := .int .i64 _) rfl) <| SR.q' (r_gt rfl rfl) <| SR.nil ?_)
            refine W.cond_d rfl (fun h33 => ?_) (fun h33 => ?_)
            · refine W.seq ?_
              refine W.regS (SR.q' (r_mv (v := .int .i64 _) rfl) <| SR.q' (r_as (v := .int .i64 _) rfl) <| SR.nil ?_)
              refine W.regS (SR.q' (r_mv (v := .int .i64 _) rfl) <| SR.q' (r_as (v := .int .i64 _) rfl) <| SR.nil ?_)
              refine W.regS (SR.q' (r_mv (v := .slice _ _ _) rfl) <| SR.q' (r_mv (v := .int .i64 _) rfl) <| SR.q' (r_ixR tsl24 (hm23) rfl rfl (by omega)) <| SR.q' (r_fa fa45_3 rfl) <| SR.q' (r_ld (v := .int .i64 x27.Until) sca3 rfl ((hm23).cell hx28 rfl)) <| SR.q' (r_as (v := .int .i64 _) rfl) <| SR.nil ?_)
              refine W.regS (SR.q' (r_mv (v := .int .i64 _) rfl) <| SR.q' (r_add rfl rfl (by omega)) <| SR.q' (r_as (v := .int .i64 _) rfl) <| SR.nil ?_)
              refine ⟨k + 1, _, rfl, ⟨rfl, rfl, rfl, rfl, rfl, (eI (by first | (first | rfl | omega | (rw [gap_no ‹_[k]? = some _› ‹_›]; first | done | rfl) | (rw [gap_yes ‹_[k]? = some _› ‹_› ‹_›]; first | done | rfl) | (rw [gap_low ‹_[k]? = some _› ‹_› ‹_›]; first | done | rfl)) | (dsimp only; (first | rfl | omega | (rw [gap_no ‹_[k]? = some _› ‹_›]; first | done | rfl) | (rw [gap_yes ‹_[k]? = some _› ‹_› ‹_›]; first | done | rfl) | (rw [gap_low ‹_[k]? = some _› ‹_› ‹_›]; first | done | rfl))))), (eI (by first | (first | rfl | omega | (rw [gap_no ‹_[k]? = some _› ‹_›]; first | done | rfl) | (rw [gap_yes ‹_[k]? = some _› ‹_› ‹_›]; first | done | rfl) | (rw [gap_low ‹_[k]? = some _› ‹_› ‹_›]; first | done | rfl)) | (dsimp only; (first | rfl | omega | (rw [gap_no ‹_[k]? = some _› ‹_›]; first | done | rfl) | (rw [gap_yes ‹_[k]? = some _› ‹_› ‹_›]; first | done | rfl) | (rw [gap_low ‹_[k]? = some _› ‹_› ‹_›]; first | done | rfl))))), (eI (by first | (first | rfl | omega | (rw [gap_no ‹_[k]? = some _› ‹_›]; first | done | rfl) | (rw [gap_yes ‹_[k]? = some _› ‹_› ‹_›]; first | done | rfl) | (rw [gap_low ‹_[k]? = some _› ‹_› ‹_›]; first | done | rfl)) | (dsimp only; (first | rfl | omega | (rw [gap_no ‹_[k]? = some _› ‹_›]; first | done | rfl) | (rw [gap_yes ‹_[k]? = some _› ‹_› ‹_›]; first | done | rfl) | (rw [gap_low ‹_[k]? = some _› ‹_› ‹_›]; first | done | rfl))))), (eI (by first | (first | rfl | omega | (rw [gap_no ‹_[k]? = some _› ‹_›]; first | done | rfl) | (rw [gap_yes ‹_[k]? = some _› ‹_› ‹_›]; first | done | rfl) | (rw [gap_low ‹_[k]? = some _› ‹_› ‹_›]; first | done | rfl)) | (dsimp only; (first | rfl | omega | (rw [gap_no ‹_[k]? = some _› ‹_›]; first | done | rfl) | (rw [gap_yes ‹_[k]? = some _› ‹_› ‹_›]; first | done | rfl) | (rw [gap_low ‹_[k]? = some _› ‹_› ‹_›]; first | done | rfl))))), trivial⟩, ⟨hB21, hm23, ?_⟩, ?_⟩
              · exact (z_c_spec_LongestGap_34 L nL hbdL hleL s h5 hq9 h14 k hi24 hq25 h26 x27 hx28 hq29 h30 h33)
              · exact (z_c_spec_LongestGap_35 L nL hbdL hleL s h5 hq9 h14 k hi24 hq25 h26 x27 hx28 hq29 h30 h33)
            · refine W.skip ?_
              refine W.regS (SR.q' (r_mv (v := .slice _ _ _) rfl) <| SR.q' (r_mv (v := .int .i64 _) rfl) <| SR.q' (r_ixR tsl24 (hm23) rfl rfl (by omega)) <| SR.q' (r_fa fa45_3 rfl) <| SR.q' (r_ld (v := .int .i64 x27.Until) sca3 rfl ((hm23).cell hx28 rfl)) <| SR.q' (r_as (v := .int .i64 _) rfl) <| SR.nil ?_)
              refine W.regS (SR.q' (r_mv (v := .int .i64 _) rfl) <| SR.q' (r_add rfl rfl (by omega)) <| SR.q' (r_as (v := .int .i64 _) rfl) <| SR.nil ?_)
              refine ⟨k + 1, _, rfl, ⟨rfl, rfl, rfl, rfl, rfl, (eI (by first | (first | rfl | omega | (rw [gap_no ‹_[k]? = some _› ‹_›]; first | done | rfl) | (rw [gap_yes ‹_[k]? = some _› ‹_› ‹_›]; first | done | rfl) | (rw [gap_low ‹_[k]? = some _› ‹_› ‹_›]; first | done | rfl)) | (dsimp only; (first | rfl | omega | (rw [gap_no ‹_[k]? = some _› ‹_›]; first | done | rfl) | (rw [gap_yes ‹_[k]? = some _› ‹_› ‹_›]; first | done | rfl) | (rw [gap_low ‹_[k]? = some _› ‹_› ‹_›]; first | done | rfl))))), (eI (by first | (first | rfl | omega | (rw [gap_no ‹_[k]? = some _› ‹_›]; first | done | rfl) | (rw [gap_yes ‹_[k]? = some _› ‹_› ‹_›]; first | done | rfl) | (rw [gap_low ‹_[k]? = some _› ‹_› ‹_›]; first | done | rfl)) | (dsimp only; (first | rfl | omega | (rw [gap_no ‹_[k]? = some _› ‹_›]; first | done | rfl) | (rw [gap_yes ‹_[k]? = some _› ‹_› ‹_›]; first | done | rfl) | (rw [gap_low ‹_[k]? = some _› ‹_› ‹_›]; first | done | rfl))))), (eI (by first | (first | rfl | omega | (rw [gap_no ‹_[k]? = some _› ‹_›]; first | done | rfl) | (rw [gap_yes ‹_[k]? = some _› ‹_› ‹_›]; first | done | rfl) | (rw [gap_low ‹_[k]? = some _› ‹_› ‹_›]; first | done | rfl)) | (dsimp only; (first | rfl | omega | (rw [gap_no ‹_[k]? = some _› ‹_›]; first | done | rfl) | (rw [gap_yes ‹_[k]? = some _› ‹_› ‹_›]; first | done | rfl) | (rw [gap_low ‹_[k]? = some _› ‹_› ‹_›]; first | done | rfl))))), (eI (by first | (first | rfl | omega | (rw [gap_no ‹_[k]? = some _› ‹_›]; first | done | rfl) | (rw [gap_yes ‹_[k]? = some _› ‹_› ‹_›]; first | done | rfl) | (rw [gap_low ‹_[k]? = some _› ‹_› ‹_›]; first | done | rfl)) | (dsimp only; (first | rfl | omega | (rw [gap_no ‹_[k]? = some _› ‹_›]; first | done | rfl) | (rw [gap_yes ‹_[k]? = some _› ‹_› ‹_›]; first | done | rfl) | (rw [gap_low ‹_[k]? = some _› ‹_› ‹_›]; first | done | rfl))))), trivial⟩, ⟨hB21, hm23, ?_⟩, ?_⟩
              · exact (z_c_spec_LongestGap_36 L nL hbdL hleL s h5 hq9 h14 k hi24 hq25 h26 x27 hx28 hq29 h30 h33)
              · exact (z_c_spec_LongestGap_37 L nL hbdL hleL s h5 hq9 h14 k hi24 hq25 h26 x27 hx28 hq29 h30 h33)
        · refine W.exit (xin_here ?_)
          refine W.seq ?_
          refine W.seq ?_
          refine W.regS (SR.q' (r_mv (v := .int .i64 _) rfl) <| SR.q' (r_sub rfl rfl (by omega)) <| SR.q' (r_as (v := .int .i64 _) rfl) <| SR.nil ?_)
          refine W.seq ?_
          refine W.regS (SR.q' (r_mv (v := .int .i64 _) rfl) <| SR.q' (r_mv (v := .int .i64 _) rfl) <| SR.q' (r_gt rfl rfl) <| SR.nil ?_)
          refine W.cond_d rfl (fun h38 => ?_) (fun h38 => ?_)
          · refine W.seq ?_
            refine W.regS (SR.q' (r_mv (v := .int .i64 _) rfl) <| SR.q' (r_as (v := .int .i64 _) rfl) <| SR.nil ?_)
            refine W.regS (SR.q' (r_mv (v := .int .i64 _) rfl) <| SR.q' (r_as (v := .int .i64 _) rfl) <| SR.nil ?_)
            refine W.seq ?_
            refine W.regS (SR.q' (r_mv (v := .int .i64 _) rfl) <| SR.q' (r_mv (v := .int .i64 _) rfl) <| SR.q' (r_as (v := .int .i64 _) rfl) <| SR.q' (r_as (v := .int .i64 _) rfl) <| SR.q' (r_as (v := .bool true) rfl) <| SR.nil ?_)
            refine W.ret ?_
            refine ret3 rfl (v := .int .i64 _) (v' := .int .i64 _) (v'' := .bool _) rfl rfl rfl ?_
            exact ⟨eR (eT3 (eI (z_c_spec_LongestGap_39 L nL hbdL hleL s h5 hq9 h14 k hi24 hq25 h26 h38)) (eI (z_c_spec_LongestGap_40 L nL hbdL hleL s h5 hq9 h14 k hi24 hq25 h26 h38)) (eDT (z_c_spec_LongestGap_41 L nL hbdL hleL s h5 hq9 h14 k hi24 hq25 h26 h38))), hB21⟩
          · refine W.skip ?_
            refine W.seq ?_
            refine W.regS (SR.q' (r_mv (v := .int .i64 _) rfl) <| SR.q' (r_mv (v := .int .i64 _) rfl) <| SR.q' (r_as (v := .int .i64 _) rfl) <| SR.q' (r_as (v := .int .i64 _) rfl) <| SR.q' (r_as (v := .bool true) rfl) <| SR.nil ?_)
            refine W.ret ?_
            refine ret3 rfl (v := .int .i64 _) (v' := .int .i64 _) (v'' := .bool _) rfl rfl rfl ?_
            exact ⟨eR (eT3 (eI (z_c_spec_LongestGap_42 L nL hbdL hleL s h5 hq9 h14 k hi24 hq25 h26 h38)) (eI (z_c_spec_LongestGap_43 L nL hbdL hleL s h5 hq9 h14 k hi24 hq25 h26 h38)) (eDT (z_c_spec_LongestGap_44 L nL hbdL hleL s h5 hq9 h14 k hi24 hq25 h26 h38))), hB21⟩
end Go.Proofs.YthgbcadgnihdiaaGreatDoor
