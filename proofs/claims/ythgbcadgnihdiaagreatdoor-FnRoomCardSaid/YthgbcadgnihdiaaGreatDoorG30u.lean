/- Walks, printed by a program of this claim's author. -/
import Derived.Test.YthgbcadgnihdiaaGreatDoorChecked
import Derived.Test.YthgbcadgnihdiaaGreatDoorRa
import Derived.Test.YthgbcadgnihdiaaGreatDoorFu
import Derived.Test.YthgbcadgnihdiaaGreatDoorFo
import Derived.Test.YthgbcadgnihdiaaGreatDoorFp
import Derived.Test.YthgbcadgnihdiaaGreatDoorFt
import Derived.Test.YthgbcadgnihdiaaGreatDoorRs
import Derived.Test.YthgbcadgnihdiaaGreatDoorG30t
namespace Go.Proofs.YthgbcadgnihdiaaGreatDoor
open Go Go.RowKit Fw
set_option maxRecDepth 10000
set_option linter.unusedVariables false
theorem ent31 : Ent Tryz.prog 31 := ent_of Tryz.func31 (by decide +kernel) rfl
theorem ent35 : Ent Tryz.prog 35 := ent_of Tryz.func35 (by decide +kernel) rfl
theorem ent64 : Ent Tryz.prog 64 := ent_of Tryz.func64 (by decide +kernel) rfl

theorem z_c_impl_seatedAt_2 (L : List Visit) (nL : Nat) (hbdL : (nL : Int) ≤ 9223372036854775807) (hleL : nL = L.length) (m : Int) (hp0 : VsOK L) : 0 ≤ nL := by
  omega
theorem z_c_impl_seatedAt_3 (L : List Visit) (nL : Nat) (hbdL : (nL : Int) ≤ 9223372036854775807) (hleL : nL = L.length) (m : Int) (hp0 : VsOK L) : ([] : List Int) = rdrs L m 0 := by
  simp [rdrs]
theorem z_c_impl_seatedAt_56 (L : List Visit) (nL : Nat) (hbdL : (nL : Int) ≤ 9223372036854775807) (hleL : nL = L.length) (m : Int) (hp0 : VsOK L) (k : Nat) (n1 : Nat) (c1 : Nat) (hi10 : k ≤ nL) (hl11 : n1 = (rdrs L m k).length) (hq13 : (rdrs L m k).length ≤ 6) (h14 : (k : Int) < (nL : Int)) (hx16 : L[k]? = some (gt L k)) (hq17 : ((1 : Int) ≤ (gt L k).Reader ∧ (gt L k).Reader ≤ 999) ∧ ((1 : Int) ≤ (gt L k).Seat ∧ (gt L k).Seat ≤ 6) ∧ ((480 : Int) ≤ (gt L k).From ∧ (gt L k).From ≤ 1200) ∧ ((480 : Int) ≤ (gt L k).Until ∧ (gt L k).Until ≤ 1200) ∧ (gt L k).From < (gt L k).Until) (h37 : (gt L k).From ≤ m ∧ m ≤ IntKind.i64.wrap ((gt L k).Until - 1)) : (rdrs L m k) ++ ([(gt L k).Reader] : List Int) = rdrs L m (k + 1) := by
  subst hleL
  first | exact rdrs_yes (by omega) (by rw [inV_w hp0 (by omega)]; exact decide_eq_true ‹_ ∧ _›) | exact rdrs_no (by omega) (by rw [inV_w hp0 (by omega)]; exact decide_eq_false ‹¬ (_ ∧ _)›)
theorem z_c_impl_seatedAt_57 (L : List Visit) (nL : Nat) (hbdL : (nL : Int) ≤ 9223372036854775807) (hleL : nL = L.length) (m : Int) (hp0 : VsOK L) (k : Nat) (n1 : Nat) (c1 : Nat) (hi10 : k ≤ nL) (hl11 : n1 = (rdrs L m k).length) (hq13 : (rdrs L m k).length ≤ 6) (h14 : (k : Int) < (nL : Int)) (hx16 : L[k]? = some (gt L k)) (hq17 : ((1 : Int) ≤ (gt L k).Reader ∧ (gt L k).Reader ≤ 999) ∧ ((1 : Int) ≤ (gt L k).Seat ∧ (gt L k).Seat ≤ 6) ∧ ((480 : Int) ≤ (gt L k).From ∧ (gt L k).From ≤ 1200) ∧ ((480 : Int) ≤ (gt L k).Until ∧ (gt L k).Until ≤ 1200) ∧ (gt L k).From < (gt L k).Until) (h37 : (gt L k).From ≤ m ∧ m ≤ IntKind.i64.wrap ((gt L k).Until - 1)) : k + 1 ≤ nL := by
  omega
theorem z_c_impl_seatedAt_58 (L : List Visit) (nL : Nat) (hbdL : (nL : Int) ≤ 9223372036854775807) (hleL : nL = L.length) (m : Int) (hp0 : VsOK L) (k : Nat) (n1 : Nat) (c1 : Nat) (hi10 : k ≤ nL) (hl11 : n1 = (rdrs L m k).length) (hq13 : (rdrs L m k).length ≤ 6) (h14 : (k : Int) < (nL : Int)) (hx16 : L[k]? = some (gt L k)) (hq17 : ((1 : Int) ≤ (gt L k).Reader ∧ (gt L k).Reader ≤ 999) ∧ ((1 : Int) ≤ (gt L k).Seat ∧ (gt L k).Seat ≤ 6) ∧ ((480 : Int) ≤ (gt L k).From ∧ (gt L k).From ≤ 1200) ∧ ((480 : Int) ≤ (gt L k).Until ∧ (gt L k).Until ≤ 1200) ∧ (gt L k).From < (gt L k).Until) (h37 : (gt L k).From ≤ m ∧ m ≤ IntKind.i64.wrap ((gt L k).Until - 1)) : nL - (k + 1) < nL - k := by
  omega
theorem z_c_impl_seatedAt_59 (L : List Visit) (nL : Nat) (hbdL : (nL : Int) ≤ 9223372036854775807) (hleL : nL = L.length) (m : Int) (hp0 : VsOK L) (k : Nat) (n1 : Nat) (c1 : Nat) (hi10 : k ≤ nL) (hl11 : n1 = (rdrs L m k).length) (hq13 : (rdrs L m k).length ≤ 6) (h14 : (k : Int) < (nL : Int)) (hx16 : L[k]? = some (gt L k)) (hq17 : ((1 : Int) ≤ (gt L k).Reader ∧ (gt L k).Reader ≤ 999) ∧ ((1 : Int) ≤ (gt L k).Seat ∧ (gt L k).Seat ≤ 6) ∧ ((480 : Int) ≤ (gt L k).From ∧ (gt L k).From ≤ 1200) ∧ ((480 : Int) ≤ (gt L k).Until ∧ (gt L k).Until ≤ 1200) ∧ (gt L k).From < (gt L k).Until) (h37 : ¬ ((gt L k).From ≤ m ∧ m ≤ IntKind.i64.wrap ((gt L k).Until - 1))) : rdrs L m k = rdrs L m (k + 1) := by
  subst hleL
  first | exact rdrs_yes (by omega) (by rw [inV_w hp0 (by omega)]; exact decide_eq_true ‹_ ∧ _›) | exact rdrs_no (by omega) (by rw [inV_w hp0 (by omega)]; exact decide_eq_false ‹¬ (_ ∧ _)›)
theorem z_c_impl_seatedAt_60 (L : List Visit) (nL : Nat) (hbdL : (nL : Int) ≤ 9223372036854775807) (hleL : nL = L.length) (m : Int) (hp0 : VsOK L) (k : Nat) (n1 : Nat) (c1 : Nat) (hi10 : k ≤ nL) (hl11 : n1 = (rdrs L m k).length) (hq13 : (rdrs L m k).length ≤ 6) (h14 : (k : Int) < (nL : Int)) (hx16 : L[k]? = some (gt L k)) (hq17 : ((1 : Int) ≤ (gt L k).Reader ∧ (gt L k).Reader ≤ 999) ∧ ((1 : Int) ≤ (gt L k).Seat ∧ (gt L k).Seat ≤ 6) ∧ ((480 : Int) ≤ (gt L k).From ∧ (gt L k).From ≤ 1200) ∧ ((480 : Int) ≤ (gt L k).Until ∧ (gt L k).Until ≤ 1200) ∧ (gt L k).From < (gt L k).Until) (h37 : ¬ ((gt L k).From ≤ m ∧ m ≤ IntKind.i64.wrap ((gt L k).Until - 1))) : k + 1 ≤ nL := by
  omega
theorem z_c_impl_seatedAt_61 (L : List Visit) (nL : Nat) (hbdL : (nL : Int) ≤ 9223372036854775807) (hleL : nL = L.length) (m : Int) (hp0 : VsOK L) (k : Nat) (n1 : Nat) (c1 : Nat) (hi10 : k ≤ nL) (hl11 : n1 = (rdrs L m k).length) (hq13 : (rdrs L m k).length ≤ 6) (h14 : (k : Int) < (nL : Int)) (hx16 : L[k]? = some (gt L k)) (hq17 : ((1 : Int) ≤ (gt L k).Reader ∧ (gt L k).Reader ≤ 999) ∧ ((1 : Int) ≤ (gt L k).Seat ∧ (gt L k).Seat ≤ 6) ∧ ((480 : Int) ≤ (gt L k).From ∧ (gt L k).From ≤ 1200) ∧ ((480 : Int) ≤ (gt L k).Until ∧ (gt L k).Until ≤ 1200) ∧ (gt L k).From < (gt L k).Until) (h37 : ¬ ((gt L k).From ≤ m ∧ m ≤ IntKind.i64.wrap ((gt L k).Until - 1))) : nL - (k + 1) < nL - k := by
  omega
theorem z_c_impl_seatedAt_67 (L : List Visit) (nL : Nat) (hbdL : (nL : Int) ≤ 9223372036854775807) (hleL : nL = L.length) (m : Int) (hp0 : VsOK L) (k : Nat) (n1 : Nat) (c1 : Nat) (hi10 : k ≤ nL) (hl11 : n1 = (rdrs L m k).length) (hq13 : (rdrs L m k).length ≤ 6) (h14 : ¬ ((k : Int) < (nL : Int))) : sortI (rdrs L m k) = seatsAt L m := by
  subst hleL
  unfold seatsAt; rw [rdrs_end (by omega)]
theorem c_impl_seatedAt (w : World) {AL : Option Addr} {nL cL BL : Nat}  (L : List Visit) (hL : SlR w BL encVisit 4 AL nL cL L) (m : Int) (hp0 : VsOK L) : Calls Tryz.prog 31 #[.slice AL nL cL, .int .i64 m] w fun e w' => ∃ (A1' : Option Addr) (n1' c1' : Nat), e = .returned (.slice A1' n1' c1') ∧ SlO w' w.heap.size encI 1 3 A1' n1' c1' (seatsAt L m) ∧ Lo w w' := by
  refine calls_W 26 Tryz.func31 rfl rfl rfl ?_
  have hbdL := hL.bound
  have hleL := hL.len
  have hBbL := hL.bd
  refine W.seq ?_
  refine W.regS (SR.q' (r_as (v := .slice none 0 0) rfl) <| SR.nil ?_)
  refine W.seq ?_
  refine W.regS (SR.q' (r_as (v := .slice none 0 0) rfl) <| SR.nil ?_)
  refine W.seq ?_
  refine W.seq ?_
  refine W.regS (SR.q' (r_mv (v := .slice _ _ _) rfl) <| SR.q' (r_len und24 rfl) <| SR.q' (r_mv (v := .int .i64 0) rfl) <| SR.nil ?_)
  refine W.block ?_
  refine W.loop (σ := Nat × (Option Addr) × Nat × Nat) (fun g => [(1, .int .i64 m), (4, .slice none 0 0), (5, .slice g.2.1 g.2.2.1 g.2.2.2), (8, .slice AL nL cL), (9, .int .i64 (nL : Int)), (10, .int .i64 (g.1 : Int))]) (fun g w' => (Lo w w') ∧ (SlR w' BL encVisit 4 AL nL cL L) ∧ (SlO w' w.heap.size encI 1 3 g.2.1 g.2.2.1 g.2.2.2 (rdrs L m g.1)) ∧ (g.1 ≤ nL)) (fun g => nL - g.1) (0, (none : Option Addr), 0, 0) ?_ ?_ ?_
  · exact ⟨rfl, rfl, rfl, rfl, rfl, rfl, trivial⟩
  · exact ⟨(Lo.refl w), hL, (SlO.eqv (SlO.nil (base := w.heap.size) (e := 3) (enc := encI) (fun _ => rfl) (Nat.le_refl _)) (z_c_impl_seatedAt_3 L nL hbdL hleL m hp0)), (z_c_impl_seatedAt_2 L nL hbdL hleL m hp0)⟩
  · rintro ⟨k, A1, n1, c1⟩ f4 w5 hP7
    obtain ⟨hB6, hm8, hO9, hi10⟩ : (Lo w w5) ∧ (SlR w5 BL encVisit 4 AL nL cL L) ∧ (SlO w5 w.heap.size encI 1 3 A1 n1 c1 (rdrs L m k)) ∧ (k ≤ nL) := hP7
    refine (?_ : W _ _ _ _ _ (act _ (sets f4 [(1, .int .i64 m), (4, .slice none 0 0), (5, .slice A1 n1 c1), (8, .slice AL nL cL), (9, .int .i64 (nL : Int)), (10, .int .i64 (k : Int))])) _)
    have hzw5 := hB6.size
    have hl11 := hO9.len
    have hl12 := hO9.rd.bound
    have hq13 : (rdrs L m k).length ≤ 6 := rdrs_six hp0 (by omega)
    refine W.seq ?_
    refine W.regS (SR.q' (r_lt rfl rfl) <| SR.nil ?_)
    refine W.seq ?_
    refine W.cond_d rfl (fun h14 => ?_) (fun h14 => ?_)
    · refine W.skip ?_
      refine W.seq ?_
      refine W.block ?_
      refine W.seq ?_
      have hx16 := (hm8).elem (i := k) (by omega)
      have hq17 := vs_rng hp0 hx16
      refine W.regS (SR.q' (r_ixR tsl24 (hm8) rfl rfl (by omega)) <| SR.q' (r_lda (l := encVisit (gt L k)) agg45 rfl (fun _ _ hu => (hm8).cell hx16 hu) ((hm8).esz _)) <| SR.alloc (l := [.int .i64 0, .int .i64 0, .int .i64 0, .int .i64 0]) tz45 rfl ?_)
      intro g18 w19 hg20 hk21 hs22 hb23
      have hz24 := hk21.size
      have hB25 := hB6.lo hk21
      have hd26 : ¬ A1 = some ⟨g18, 0, none⟩ := fun e' => by have := (hO9).base_le e'; omega
      refine SR.store (o := 0) (vs := [.int .i64 ((gt L k).Reader), .int .i64 ((gt L k).Seat), .int .i64 ((gt L k).From), .int .i64 ((gt L k).Until)]) agg45.2 rfl rfl rfl rfl (hb23) (Nat.le_of_ble_eq_true rfl) rfl ?_
      intro w27 hk28 hs29 hb30
      have hz31 := hk28.size
      have hB32 := hB25.new hk28 (by omega)
      refine SR.nil ?_
      refine W.seq ?_
      refine W.regS (SR.q' (r_lda (l := [.int .i64 ((gt L k).Reader), .int .i64 ((gt L k).Seat), .int .i64 ((gt L k).From), .int .i64 ((gt L k).Until)]) agg45 rfl (fun _ _ hu => (hb30).cell hu) rfl) <| SR.q' (r_mv (v := .int .i64 _) rfl) <| SR.call ent63 (c__impl_Visit__isIn w27 (gt L k) m) rfl ?_)
      rintro e w33 ⟨rfl, hk34⟩
      refine ⟨_, rfl, ?_⟩
      have hz35 := hk34.size
      have hB36 := hB32.lo hk34
      refine SR.nil ?_
      refine W.cond_d rfl (fun h37 => ?_) (fun h37 => ?_)
      · refine W.regS (SR.q' (r_mv (v := .slice _ _ _) rfl) <| SR.q' (r_fa fa45_0 rfl) <| SR.q' (r_ld (v := .int .i64 ((gt L k).Reader)) sca3 rfl (((hb30).lo hk34).cell rfl)) <| SR.lit (vs := [.int .i64 ((gt L k).Reader)]) (L := ([(gt L k).Reader] : List Int)) (enc := encI) tel27 (fun _ => rfl) rfl rfl rfl (by decide) ?_)
        intro g38 w39 hg40 hk41 hO42
        have hz43 := hk41.size
        have hB44 := hB36.lo hk41
        have hd45 : ¬ A1 = some ⟨g38, 0, none⟩ := fun e' => by have := ((((hO9).lo hk21).kd hk28 hd26).lo hk34).base_le e'; omega
        refine SR.app tel27 rfl rfl (((((hO9).lo hk21).kd hk28 hd26).lo hk34).lo hk41) ((hO42).rd) (fun _ => rfl) (by omega) (by omega) ?_
        intro A46 c47 w48 hk49 hO50 hN51
        have hz52 := hk49.size
        have hB53 := hB44.step hk49 (fun i_ hi_ e' => by have := ((((((hO9).lo hk21).kd hk28 hd26).lo hk34).lo hk41)).base_le e'; first | omega | (exfalso; omega) | exact e' | exact .inl e' | exact .inr e')
        have hd54 : ¬ A46 = some ⟨g18, 0, none⟩ := fun e' => (hN51 g18 e').elim (fun h => hd26 (h.trans e')) (fun h => by have := (((hb30).lo hk34).lo hk41).lt; omega)
        refine SR.q' (r_as (v := .slice _ _ _) rfl) <| SR.nil ?_
        refine W.regS (SR.q' (r_add rfl rfl (by omega)) <| SR.q' (r_mv (v := .int .i64 _) rfl) <| SR.nil ?_)
        refine ⟨(k + 1, A46, n1 + 1, c47), _, rfl, ⟨rfl, rfl, rfl, rfl, rfl, rfl, trivial⟩, ⟨hB53, (((((hm8).lo hk21).kn hk28 (by omega)).lo hk34).lo hk41).kp hk49 (fun b_ hb e' => by have := ((((((hO9).lo hk21).kd hk28 hd26).lo hk34).lo hk41)).base_le e'; omega), (SlO.eqv (hO50) (z_c_impl_seatedAt_56 L nL hbdL hleL m hp0 k n1 c1 hi10 hl11 hq13 h14 hx16 hq17 h37)), ?_⟩, ?_⟩
        · exact (z_c_impl_seatedAt_57 L nL hbdL hleL m hp0 k n1 c1 hi10 hl11 hq13 h14 hx16 hq17 h37)
        · exact (z_c_impl_seatedAt_58 L nL hbdL hleL m hp0 k n1 c1 hi10 hl11 hq13 h14 hx16 hq17 h37)
      · refine W.skip ?_
        refine W.regS (SR.q' (r_add rfl rfl (by omega)) <| SR.q' (r_mv (v := .int .i64 _) rfl) <| SR.nil ?_)
        refine ⟨(k + 1, A1, n1, c1), _, rfl, ⟨rfl, rfl, rfl, rfl, rfl, rfl, trivial⟩, ⟨hB36, (((hm8).lo hk21).kn hk28 (by omega)).lo hk34, (SlO.eqv ((((hO9).lo hk21).kd hk28 hd26).lo hk34) (z_c_impl_seatedAt_59 L nL hbdL hleL m hp0 k n1 c1 hi10 hl11 hq13 h14 hx16 hq17 h37)), ?_⟩, ?_⟩
        · exact (z_c_impl_seatedAt_60 L nL hbdL hleL m hp0 k n1 c1 hi10 hl11 hq13 h14 hx16 hq17 h37)
        · exact (z_c_impl_seatedAt_61 L nL hbdL hleL m hp0 k n1 c1 hi10 hl11 hq13 h14 hx16 hq17 h37)
    · refine W.exit (xin_here ?_)
      refine W.seq ?_
      refine W.regS (SR.q' (r_mv (v := .slice _ _ _) rfl) <| SR.call ent64 (c_slices_Sort___int_int_ w5 (rdrs L m k) (hO9) (by omega)) rfl ?_)
      rintro e w62 ⟨rfl, hO64, hk63⟩
      refine ⟨_, rfl, ?_⟩
      have hz65 := hk63.size
      have hB66 := hB6.step hk63 (fun i_ hi_ e' => by have := ((hO9)).base_le e'; first | omega | (exfalso; omega) | exact e' | exact .inl e' | exact .inr e')
      refine SR.nil ?_
      refine W.seq ?_
      refine W.regS (SR.q' (r_mv (v := .slice _ _ _) rfl) <| SR.q' (r_as (v := .slice _ _ _) rfl) <| SR.nil ?_)
      refine W.ret ?_
      refine ret1 rfl (v := .slice _ _ _) rfl ?_
      exact ⟨A1, n1, c1, eR rfl, (SlO.eqv ((hO64).down (by omega)) (z_c_impl_seatedAt_67 L nL hbdL hleL m hp0 k n1 c1 hi10 hl11 hq13 h14)), hB66⟩

theorem z_c_impl_SeatedAt_18 (L : List Visit) (nL : Nat) (hbdL : (nL : Int) ≤ 9223372036854775807) (hleL : nL = L.length) (m : Int) (h17 : (¬ (VsOK L)) ∨ (¬ (480 ≤ m ∧ m ≤ 1200))) : ([] : List Int) = satL L m := by
  unfold satL; first | (rw [if_neg (no_and ‹_ ∨ _›)]) | rw [if_pos ⟨‹_›, by omega⟩]
theorem z_c_impl_SeatedAt_19 (L : List Visit) (nL : Nat) (hbdL : (nL : Int) ≤ 9223372036854775807) (hleL : nL = L.length) (m : Int) (h17 : (¬ (VsOK L)) ∨ (¬ (480 ≤ m ∧ m ≤ 1200))) : ¬ (VsOK L ∧ 480 ≤ m ∧ m ≤ 1200) := by
  first | exact ⟨‹_›, by omega⟩ | exact no_and ‹_ ∨ _›
theorem z_c_impl_SeatedAt_35 (L : List Visit) (nL : Nat) (hbdL : (nL : Int) ≤ 9223372036854775807) (hleL : nL = L.length) (m : Int) (h17 : ¬ ((¬ (VsOK L)) ∨ (¬ (480 ≤ m ∧ m ≤ 1200)))) (hq20 : VsOK L) (hq21 : 480 ≤ m ∧ m ≤ 1200) (hq22 : L.length ≤ 15) (n26 : Nat) (hl31 : n26 = (seatsAt L m).length) (hl32 : (n26 : Int) ≤ 9223372036854775807) (hq33 : (seatsAt L m).length ≤ 6) (hq34 : (seatsAt L m).length ≤ 6) : seatsAt L m = satL L m := by
  unfold satL; first | (rw [if_neg (no_and ‹_ ∨ _›)]) | rw [if_pos ⟨‹_›, by omega⟩]
theorem z_c_impl_SeatedAt_36 (L : List Visit) (nL : Nat) (hbdL : (nL : Int) ≤ 9223372036854775807) (hleL : nL = L.length) (m : Int) (h17 : ¬ ((¬ (VsOK L)) ∨ (¬ (480 ≤ m ∧ m ≤ 1200)))) (hq20 : VsOK L) (hq21 : 480 ≤ m ∧ m ≤ 1200) (hq22 : L.length ≤ 15) (n26 : Nat) (hl31 : n26 = (seatsAt L m).length) (hl32 : (n26 : Int) ≤ 9223372036854775807) (hq33 : (seatsAt L m).length ≤ 6) (hq34 : (seatsAt L m).length ≤ 6) : VsOK L ∧ 480 ≤ m ∧ m ≤ 1200 := by
  first | exact ⟨‹_›, by omega⟩ | exact no_and ‹_ ∨ _›
theorem c_impl_SeatedAt (w : World) {AL : Option Addr} {nL cL BL : Nat}  (L : List Visit) (hL : SlR w BL encVisit 4 AL nL cL L) (m : Int) : Calls Tryz.prog 6 #[.slice AL nL cL, .int .i64 m] w fun e w' => ∃ (A1' : Option Addr) (n1' c1' : Nat), e = .returned (.tuple (List.toArray [.slice A1' n1' c1', .bool (decide (VsOK L ∧ 480 ≤ m ∧ m ≤ 1200))])) ∧ SlO w' w.heap.size encI 1 3 A1' n1' c1' (satL L m) ∧ Lo w w' := by
  refine calls_W 17 Tryz.func6 rfl rfl rfl ?_
  have hbdL := hL.bound
  have hleL := hL.len
  have hBbL := hL.bd
  refine W.seq ?_
  refine W.regS (SR.q' (r_as (v := .slice none 0 0) rfl) <| SR.q' (r_as (v := .bool false) rfl) <| SR.nil ?_)
  refine W.seq ?_
  refine W.seq ?_
  refine W.regJS (fun f' w' => At f' [(0, .slice AL nL cL), (1, .int .i64 m), (4, .slice none 0 0), (5, .bool false), (13, .bool (decide ((¬ (VsOK L)) ∨ (¬ (480 ≤ m ∧ m ≤ 1200)))))] ∧ Lo w w') ?_ ?_
  · refine SR.q' (r_mv (v := .slice _ _ _) rfl) <| SR.call ent29 (c_impl_AreVisits w L ((hL))) rfl ?_
    rintro e w1 ⟨rfl, hk2⟩
    refine ⟨_, rfl, ?_⟩
    have hz3 := hk2.size
    have hB4 := (Lo.refl w).lo hk2
    refine SR.q' (r_not rfl) <| SR.q' (r_mv (v := .bool _) rfl) <| SR.splitN (fun h5 => ?_) (fun h5 => ?_)
    · refine SR.s' rfl <| SR.s' rfl <| SR.s' rfl <| SR.q' (r_pick true rfl (v := .bool true) rfl) <| SR.nil ?_
      exact ⟨_, rfl, ⟨⟨rfl, rfl, rfl, rfl, (eDT ((jmf h5).1 trivial)), trivial⟩, (hk2)⟩⟩
    · have hq6 := vs_len h5
      refine SR.g' rfl (r_mv (v := .int .i64 _) rfl) <| SR.gcall rfl ent30 (c_impl_isMinute w1 m) rfl ?_
      rintro e w7 ⟨rfl, hk8⟩
      refine ⟨_, rfl, ?_⟩
      have hz9 := hk8.size
      have hB10 := hB4.lo hk8
      refine SR.g' rfl (r_not rfl) <| SR.q' (r_pick false rfl (v := .bool _) rfl) <| SR.nil ?_
      exact ⟨_, rfl, ⟨⟨rfl, rfl, rfl, rfl, (eND (jmt h5)), trivial⟩, ((hk2).trans hk8)⟩⟩
  rintro f11 w12 ⟨hat13, hk14⟩
  rw [← sets_of_at hat13]
  have hz15 := hk14.size
  have hB16 := (Lo.refl w).lo hk14
  refine W.cond_d rfl (fun h17 => ?_) (fun h17 => ?_)
  · refine W.seq ?_
    refine W.regS (SR.q' (r_as (v := .slice none 0 0) rfl) <| SR.q' (r_as (v := .bool false) rfl) <| SR.nil ?_)
    refine W.ret ?_
    refine ret2 rfl (v := .slice none 0 0) (v' := .bool _) rfl rfl ?_
    exact ⟨none, 0, 0, eR (eT2 rfl (eDF (z_c_impl_SeatedAt_19 L nL hbdL hleL m h17))), (SlO.eqv (SlO.nil (e := 3) (enc := encI) (fun _ => rfl) (by omega)) (z_c_impl_SeatedAt_18 L nL hbdL hleL m h17)), hB16⟩
  · have hq20 : VsOK L := (Classical.not_not.1 (not_or.1 h17).1)
    have hq21 : 480 ≤ m ∧ m ≤ 1200 := (Classical.not_not.1 (not_or.1 h17).2)
    have hq22 := vs_len hq20
    refine W.skip ?_
    refine W.seq ?_
    refine W.regS (SR.q' (r_mv (v := .slice _ _ _) rfl) <| SR.q' (r_mv (v := .int .i64 _) rfl) <| SR.call ent31 (c_impl_seatedAt w12 L (((hL).lo hk14)) m (by assumption)) rfl ?_)
    rintro e w23 ⟨A25, n26, c27, rfl, hO28, hk24⟩
    refine ⟨_, rfl, ?_⟩
    have hz29 := hk24.size
    have hB30 := hB16.lo hk24
    have hl31 := hO28.len
    have hl32 := hO28.rd.bound
    have hq33 := seats_len ‹VsOK L› m
    have hq34 : (seatsAt L m).length ≤ 6 := seats_len ‹VsOK L› m
    refine SR.q' (r_as (v := .slice _ _ _) rfl) <| SR.q' (r_as (v := .bool true) rfl) <| SR.nil ?_
    refine W.ret ?_
    refine ret2 rfl (v := .slice _ _ _) (v' := .bool _) rfl rfl ?_
    exact ⟨A25, n26, c27, eR (eT2 rfl (eDT (z_c_impl_SeatedAt_36 L nL hbdL hleL m h17 hq20 hq21 hq22 n26 hl31 hl32 hq33 hq34))), (SlO.eqv ((hO28).down (by omega)) (z_c_impl_SeatedAt_35 L nL hbdL hleL m h17 hq20 hq21 hq22 n26 hl31 hl32 hq33 hq34)), hB30⟩

theorem z_c_spec_l1Put_1 (L : List Int) (cL : Nat) (nL : Nat) (hbdL : (nL : Int) ≤ 9223372036854775807) (hleL : nL = L.length) (n : Int) (hp0 : (nL : Int) ≤ 1000) : 0 ≤ nL ∧ LtI L n 0 := by
  exact ⟨Nat.zero_le _, LtI.zero⟩
theorem z_c_spec_l1Put_20 (L : List Int) (cL : Nat) (nL : Nat) (hbdL : (nL : Int) ≤ 9223372036854775807) (hleL : nL = L.length) (n : Int) (hp0 : (nL : Int) ≤ 1000) (k : Nat) (hi7 : k ≤ nL ∧ LtI L n k) (h17 : ((k : Int) < (nL : Int)) ∧ ((gt L k) < n)) (hq18 : (k : Int) < (nL : Int)) (hq19 : (gt L k) < n) : k + 1 ≤ nL ∧ LtI L n (k + 1) := by
  have hh := ‹_ ∧ LtI L n _›
  exact ⟨by omega, LtI.next hh.2 (by omega)⟩
theorem z_c_spec_l1Put_21 (L : List Int) (cL : Nat) (nL : Nat) (hbdL : (nL : Int) ≤ 9223372036854775807) (hleL : nL = L.length) (n : Int) (hp0 : (nL : Int) ≤ 1000) (k : Nat) (hi7 : k ≤ nL ∧ LtI L n k) (h17 : ((k : Int) < (nL : Int)) ∧ ((gt L k) < n)) (hq18 : (k : Int) < (nL : Int)) (hq19 : (gt L k) < n) : nL - (k + 1) < nL - k := by
  omega
theorem z_c_spec_l1Put_34 (L : List Int) (cL : Nat) (nL : Nat) (hbdL : (nL : Int) ≤ 9223372036854775807) (hleL : nL = L.length) (n : Int) (hp0 : (nL : Int) ≤ 1000) (k : Nat) (hi7 : k ≤ nL ∧ LtI L n k) (h17 : ¬ (((k : Int) < (nL : Int)) ∧ ((gt L k) < n))) (h31 : ((k : Int) < (nL : Int)) ∧ ((gt L k) = n)) (hq32 : (k : Int) < (nL : Int)) (hq33 : (gt L k) = n) : L = putI L n := by
  subst hleL
  have hh := ‹_ ∧ LtI L n _›
  first | exact put_same hh.2 (by omega) ‹_› | exact put_any hh.2 (by omega)
theorem z_c_spec_l1Put_207 (L : List Int) (cL : Nat) (nL : Nat) (hbdL : (nL : Int) ≤ 9223372036854775807) (hleL : nL = L.length) (n : Int) (hp0 : (nL : Int) ≤ 1000) (k : Nat) (hi7 : k ≤ nL ∧ LtI L n k) (h17 : ¬ (((k : Int) < (nL : Int)) ∧ ((gt L k) < n))) (h31 : ¬ (((k : Int) < (nL : Int)) ∧ ((gt L k) = n))) : ((L.take k) ++ ([n] : List Int)) ++ (L.drop k) = putI L n := by
  subst hleL
  have hh := ‹_ ∧ LtI L n _›
  first | exact put_same hh.2 (by omega) ‹_› | exact put_any hh.2 (by omega)
theorem c_spec_l1Put (w : World) {AL : Option Addr} {nL cL BL : Nat}  (L : List Int) (hL : SlO w BL encI 1 3 AL nL cL L) (n : Int) (hp0 : (nL : Int) ≤ 1000) : Calls Tryz.prog 35 #[.slice AL nL cL, .int .i64 n] w fun e w' => ∃ (A1' : Option Addr) (n1' c1' : Nat), e = .returned (.slice A1' n1' c1') ∧ SlO w' BL encI 1 3 A1' n1' c1' (putI L n) ∧ (∀ b_, A1' = some ⟨b_, 0, none⟩ → (AL = some ⟨b_, 0, none⟩) ∨ w.heap.size ≤ b_) ∧ Kp (fun b_ => AL = some ⟨b_, 0, none⟩) w w' := by
  refine calls_W 45 Tryz.func35 rfl rfl rfl ?_
  have hcpL := hL.rd.cap
  have hbbL := hL.rd.bd
  have hbdL := hL.rd.bound
  have hleL := hL.len
  have hBbL := hL.bd
  refine W.seq ?_
  refine W.regS (SR.q' (r_as (v := .slice none 0 0) rfl) <| SR.nil ?_)
  refine W.seq ?_
  refine W.regS (SR.q' (r_as (v := .int .i64 0) rfl) <| SR.nil ?_)
  refine W.seq ?_
  refine W.block ?_
  refine W.loop (σ := Nat) (fun g => [(0, .slice AL nL cL), (1, .int .i64 n), (4, .slice none 0 0), (5, .int .i64 (g : Int))]) (fun g w' => (Kp (fun b_ => AL = some ⟨b_, 0, none⟩) w w') ∧ (SlO w' BL encI 1 3 AL nL cL L) ∧ (g ≤ nL ∧ LtI L n g)) (fun g => nL - g) 0 ?_ ?_ ?_
  · exact ⟨rfl, rfl, rfl, rfl, trivial⟩
  · exact ⟨(Kp.refl w : Kp (fun b_ => AL = some ⟨b_, 0, none⟩) w w), hL, (z_c_spec_l1Put_1 L cL nL hbdL hleL n hp0)⟩
  · rintro k f2 w3 hP5
    obtain ⟨hB4, hm6, hi7⟩ : (Kp (fun b_ => AL = some ⟨b_, 0, none⟩) w w3) ∧ (SlO w3 BL encI 1 3 AL nL cL L) ∧ (k ≤ nL ∧ LtI L n k) := hP5
    refine (?_ : W _ _ _ _ _ (act _ (sets f2 [(0, .slice AL nL cL), (1, .int .i64 n), (4, .slice none 0 0), (5, .int .i64 (k : Int))])) _)
    have hzw3 := hB4.size
    refine W.seq ?_
    refine W.seq ?_
    refine W.regJS (fun f' w' => At f' [(0, .slice AL nL cL), (1, .int .i64 n), (4, .slice none 0 0), (5, .int .i64 (k : Int)), (17, .bool (decide (((k : Int) < (nL : Int)) ∧ ((gt L k) < n))))] ∧ Lo w3 w') ?_ ?_
    · refine SR.q' (r_mv (v := .int .i64 _) rfl) <| SR.q' (r_mv (v := .slice _ _ _) rfl) <| SR.q' (r_len und27 rfl) <| SR.q' (r_lt rfl rfl) <| SR.q' (r_mv (v := .bool _) rfl) <| SR.splitD (fun h8 => ?_) (fun h8 => ?_)
      · refine SR.g' rfl (r_mv (v := .slice _ _ _) rfl) <| SR.g' rfl (r_mv (v := .int .i64 _) rfl) <| ?_
        have hx10 := ((hm6).rd).elem (i := k) (by omega)
        refine SR.g' rfl (r_ixR tsl27 ((hm6).rd) rfl rfl (by omega)) <| SR.g' rfl (r_ld (v := .int .i64 (gt L k)) sca3 rfl (((hm6).rd).cell0 hx10 rfl)) <| SR.g' rfl (r_mv (v := .int .i64 _) rfl) <| SR.g' rfl (r_lt rfl rfl) <| SR.q' (r_pick true rfl (v := .bool _) rfl) <| SR.nil ?_
        exact ⟨_, rfl, ⟨⟨rfl, rfl, rfl, rfl, (eDD (jat h8)), trivial⟩, (Lo.refl _)⟩⟩
      · refine SR.s' rfl <| SR.s' rfl <| SR.s' rfl <| SR.s' rfl <| SR.s' rfl <| SR.s' rfl <| SR.q' (r_pick false rfl (v := .bool false) rfl) <| SR.nil ?_
        exact ⟨_, rfl, ⟨⟨rfl, rfl, rfl, rfl, (eDF (jaf h8).2), trivial⟩, (Lo.refl _)⟩⟩
    rintro f11 w12 ⟨hat13, hk14⟩
    rw [← sets_of_at hat13]
    have hz15 := hk14.size
    have hB16 := hB4.lo hk14
    refine W.cond_d rfl (fun h17 => ?_) (fun h17 => ?_)
    · have hq18 : (k : Int) < (nL : Int) := h17.1
      have hq19 : (gt L k) < n := h17.2
      refine W.skip ?_
      refine W.block ?_
      refine W.regS (SR.q' (r_mv (v := .int .i64 _) rfl) <| SR.q' (r_add rfl rfl (by omega)) <| SR.q' (r_as (v := .int .i64 _) rfl) <| SR.nil ?_)
      refine ⟨k + 1, _, rfl, ⟨rfl, rfl, rfl, rfl, trivial⟩, ⟨hB16, (hm6).lo hk14, ?_⟩, ?_⟩
      · exact (z_c_spec_l1Put_20 L cL nL hbdL hleL n hp0 k hi7 h17 hq18 hq19)
      · exact (z_c_spec_l1Put_21 L cL nL hbdL hleL n hp0 k hi7 h17 hq18 hq19)
    · refine W.exit (xin_here ?_)
      refine W.seq ?_
      refine W.seq ?_
      refine W.regJS (fun f' w' => At f' [(0, .slice AL nL cL), (1, .int .i64 n), (4, .slice none 0 0), (5, .int .i64 (k : Int)), (31, .bool (decide (((k : Int) < (nL : Int)) ∧ ((gt L k) = n))))] ∧ Lo w12 w') ?_ ?_
      · refine SR.q' (r_mv (v := .int .i64 _) rfl) <| SR.q' (r_mv (v := .slice _ _ _) rfl) <| SR.q' (r_len und27 rfl) <| SR.q' (r_lt rfl rfl) <| SR.q' (r_mv (v := .bool _) rfl) <| SR.splitD (fun h22 => ?_) (fun h22 => ?_)
        · refine SR.g' rfl (r_mv (v := .slice _ _ _) rfl) <| SR.g' rfl (r_mv (v := .int .i64 _) rfl) <| ?_
          have hx24 := (((hm6).lo hk14).rd).elem (i := k) (by omega)
          refine SR.g' rfl (r_ixR tsl27 (((hm6).lo hk14).rd) rfl rfl (by omega)) <| SR.g' rfl (r_ld (v := .int .i64 (gt L k)) sca3 rfl ((((hm6).lo hk14).rd).cell0 hx24 rfl)) <| SR.g' rfl (r_mv (v := .int .i64 _) rfl) <| SR.g' rfl (r_eq rfl rfl) <| SR.q' (r_pick true rfl (v := .bool _) rfl) <| SR.nil ?_
          exact ⟨_, rfl, ⟨⟨rfl, rfl, rfl, rfl, (eDD (jat h22)), trivial⟩, (Lo.refl _)⟩⟩
        · refine SR.s' rfl <| SR.s' rfl <| SR.s' rfl <| SR.s' rfl <| SR.s' rfl <| SR.s' rfl <| SR.q' (r_pick false rfl (v := .bool false) rfl) <| SR.nil ?_
          exact ⟨_, rfl, ⟨⟨rfl, rfl, rfl, rfl, (eDF (jaf h22).2), trivial⟩, (Lo.refl _)⟩⟩
      rintro f25 w26 ⟨hat27, hk28⟩
      rw [← sets_of_at hat27]
      have hz29 := hk28.size
      have hB30 := hB16.lo hk28
      refine W.cond_d rfl (fun h31 => ?_) (fun h31 => ?_)
      · have hq32 : (k : Int) < (nL : Int) := h31.1
        have hq33 : (gt L k) = n := h31.2
        refine W.seq ?_
        refine W.regS (SR.q' (r_mv (v := .slice _ _ _) rfl) <| SR.q' (r_as (v := .slice _ _ _) rfl) <| SR.nil ?_)
        refine W.ret ?_
        refine ret1 rfl (v := .slice _ _ _) rfl ?_
        exact ⟨AL, nL, cL, eR rfl, (SlO.eqv (((hm6).lo hk14).lo hk28) (z_c_spec_l1Put_34 L cL nL hbdL hleL n hp0 k hi7 h17 h31 hq32 hq33)), (fun b_ h_ => .inl (h_)), hB30⟩
      · refine W.skip ?_
        refine W.seq ?_
        refine W.regA (Lo w26) (fun f' w' => ∃ (g39 : Nat), ∃ (A81 : Option Addr), ∃ (c82 : Nat), ∃ (A48 : Option Addr), ∃ (c49 : Nat), ∃ (g59 : Nat), ∃ (A69 : Option Addr), ∃ (c70 : Nat), At f' [(4, .slice A81 (((0 + k) + 1) + (nL - k)) c82)] ∧ (Lo w26 w') ∧ (SlO w' w26.heap.size encI 1 3 A81 (((0 + k) + 1) + (nL - k)) c82 (((L.take k) ++ ([n] : List Int)) ++ (L.drop k))) ∧ (∀ b_, A81 = some ⟨b_, 0, none⟩ → ¬ AL = some ⟨b_, 0, none⟩) ∧ (∀ b_, A81 = some ⟨b_, 0, none⟩ → ¬ AL = some ⟨b_, 0, none⟩)) mo ?_ ?_
        · intro w35 hk36
          have hz37 := hk36.size
          have hB38 := hB30.lo hk36
          refine AH.take 1 rfl (by kernel_rfl) trivial (hk36) (fun w' hw' => r_mv (v := .slice _ _ _) rfl) <| AH.take 2 rfl (by kernel_rfl) trivial (hk36) (fun w' hw' => r_mv (v := .int .i64 _) rfl) <| AH.take 3 rfl (by kernel_rfl) trivial (hk36) (fun w' hw' => r_cuth (h := k) tsl27 rfl rfl rfl (Nat.le_trans (by omega : k ≤ nL) (((hm6).lo hk14).lo hk28).rd.cap)) <| AH.take 5 rfl (by kernel_rfl) trivial (hk36) (fun w' hw' => r_mv (v := .int .i64 _) rfl) <| AH.take 8 rfl (by kernel_rfl) trivial (hk36) (fun w' hw' => r_mv (v := .slice _ _ _) rfl) <| AH.take 9 rfl (by kernel_rfl) trivial (hk36) (fun w' hw' => r_mv (v := .int .i64 _) rfl) <| AH.take 10 rfl (by kernel_rfl) trivial (hk36) (fun w' hw' => r_cutl (l := k) tsl27 rfl rfl rfl (by omega)) <| AH.br [0, 6] (by kernel_rfl) rfl ⟨Br.mk' rfl trivial ?_, Br.mk' rfl trivial ?_, trivial⟩
          · refine SR.lit (vs := []) (L := ([] : List Int)) (enc := encI) tel27 (fun _ => rfl) rfl rfl rfl (by decide) ?_
            intro g39 w40 hg41 hk42 hO43
            have hz44 := hk42.size
            have hB45 := hB38.lo hk42
            have hS46 := (hk36).lo hk42
            have hd47 : ¬ AL = some ⟨g39, 0, none⟩ := fun e' => by have := ((((hm6).lo hk14).lo hk28).lo hk36).base_le e'; omega
            refine SR.nil ⟨hS46, _, rfl, ?_⟩
            refine AH.br [4, 6] (by kernel_rfl) rfl ⟨Br.mk' rfl trivial ?_, Br.mk' rfl trivial ?_, trivial⟩
            · refine SR.app tel27 rfl rfl (hO43) (((((((hm6).lo hk14).lo hk28).head (h := k) (by omega)).lo hk36).lo hk42).rd) (fun _ => rfl) (by omega) (by omega) ?_
              intro A48 c49 w50 hk51 hO52 hN53
              have hz54 := hk51.size
              have hB55 := hB45.step hk51 (fun i_ hi_ e' => by have := ((hO43)).base_le e'; first | omega | (exfalso; omega) | exact e' | exact .inl e' | exact .inr e')
              have hS56 := (hS46).step hk51 (fun i_ hi_ e' => by have := ((hO43)).base_le e'; exfalso; omega)
              rw [List.nil_append] at hO52
              refine SR.nil ⟨hS56, _, rfl, ?_⟩
              refine AH.br [6] (by kernel_rfl) rfl ⟨Br.mk' rfl trivial ?_, trivial⟩
              refine SR.lit (vs := [.int .i64 n]) (L := ([n] : List Int)) (enc := encI) tel27 (fun _ => rfl) rfl rfl rfl (by decide) ?_
              intro g59 w60 hg61 hk62 hO63
              have hz64 := hk62.size
              have hB65 := hB55.lo hk62
              have hS66 := (hS56).lo hk62
              have hd67 : ¬ AL = some ⟨g59, 0, none⟩ := fun e' => by have := ((((((hm6).lo hk14).lo hk28).lo hk36).lo hk42).kp hk51 (fun b_ hb e' => by have h1 := ((hO43)).base_le e'; have h2 := (((((hm6).lo hk14).lo hk28).lo hk36).lo hk42).base_le hb; have h3 := ((((hm6).lo hk14).lo hk28).lo hk36).base_le hb; omega)).base_le e'; omega
              have hd68 : ¬ A48 = some ⟨g59, 0, none⟩ := fun e' => by have := (hO52).base_le e'; omega
              refine SR.nil ⟨hS66, _, rfl, ?_⟩
              refine AH.br [7] (by kernel_rfl) rfl ⟨Br.mk' rfl trivial ?_, trivial⟩
              refine SR.app tel27 rfl rfl ((hO52).lo hk62) ((hO63).rd) (fun _ => rfl) (by omega) (by omega) ?_
              intro A69 c70 w71 hk72 hO73 hN74
              have hz75 := hk72.size
              have hB76 := hB65.step hk72 (fun i_ hi_ e' => by have := (((hO52).lo hk62)).base_le e'; first | omega | (exfalso; omega) | exact e' | exact .inl e' | exact .inr e')
              have hS77 := (hS66).step hk72 (fun i_ hi_ e' => by have := (((hO52).lo hk62)).base_le e'; exfalso; omega)
              refine SR.nil ⟨hS77, _, rfl, ?_⟩
              refine AH.br [11] (by kernel_rfl) rfl ⟨Br.mk' rfl trivial ?_, trivial⟩
              refine SR.app tel27 rfl rfl (hO73) (((((((((hm6).lo hk14).lo hk28).rd.cutl (l := k) (by omega)).lo hk36).lo hk42).kp hk51 (fun b_ hb e' => by have := ((hO43)).base_le e'; omega)).lo hk62).kp hk72 (fun b_ hb e' => by have := (((hO52).lo hk62)).base_le e'; omega)) (fun _ => rfl) (by omega) (by omega) ?_
              intro A81 c82 w83 hk84 hO85 hN86
              have hz87 := hk84.size
              have hB88 := hB76.step hk84 (fun i_ hi_ e' => by have := ((hO73)).base_le e'; first | omega | (exfalso; omega) | exact e' | exact .inl e' | exact .inr e')
              have hS89 := (hS77).step hk84 (fun i_ hi_ e' => by have := ((hO73)).base_le e'; exfalso; omega)
              refine SR.nil ⟨hS89, _, rfl, ?_⟩
              refine AH.take 12 rfl (by kernel_rfl) trivial (hS89) (fun w' hw' => r_as (v := .slice _ _ _) rfl) <| AH.done (by kernel_rfl) ?_
              exact ⟨g39, A81, c82, A48, c49, g59, A69, c70, ⟨rfl, trivial⟩, hS89, ((hO85).down (by omega)), (fun b_ h h' => by have h1 := (hO85).base_le h; have h2 := ((((hm6).lo hk14).lo hk28).lo hk36).base_le h'; omega), (fun b_ h h' => by have h1 := (hO85).base_le h; have h2 := (((((hm6).lo hk14).lo hk28).head (h := k) (by omega)).lo hk36).base_le h'; omega)⟩
            · refine SR.lit (vs := [.int .i64 n]) (L := ([n] : List Int)) (enc := encI) tel27 (fun _ => rfl) rfl rfl rfl (by decide) ?_
              intro g96 w97 hg98 hk99 hO100
              have hz101 := hk99.size
              have hB102 := hB45.lo hk99
              have hS103 := (hS46).lo hk99
              have hd104 : ¬ AL = some ⟨g96, 0, none⟩ := fun e' => by have := (((((hm6).lo hk14).lo hk28).lo hk36).lo hk42).base_le e'; omega
              have hd105 : ¬ (some (⟨g39, 0, none⟩ : Addr)) = some ⟨g96, 0, none⟩ := fun e' => by have := (hO43).base_le e'; omega
              refine SR.nil ⟨hS103, _, rfl, ?_⟩
              refine AH.br [4] (by kernel_rfl) rfl ⟨Br.mk' rfl trivial ?_, trivial⟩
              refine SR.app tel27 rfl rfl ((hO43).lo hk99) ((((((((hm6).lo hk14).lo hk28).head (h := k) (by omega)).lo hk36).lo hk42).lo hk99).rd) (fun _ => rfl) (by omega) (by omega) ?_
              intro A106 c107 w108 hk109 hO110 hN111
              have hz112 := hk109.size
              have hB113 := hB102.step hk109 (fun i_ hi_ e' => by have := (((hO43).lo hk99)).base_le e'; first | omega | (exfalso; omega) | exact e' | exact .inl e' | exact .inr e')
              have hS114 := (hS103).step hk109 (fun i_ hi_ e' => by have := (((hO43).lo hk99)).base_le e'; exfalso; omega)
              rw [List.nil_append] at hO110
              refine SR.nil ⟨hS114, _, rfl, ?_⟩
              refine AH.br [7] (by kernel_rfl) rfl ⟨Br.mk' rfl trivial ?_, trivial⟩
              refine SR.app tel27 rfl rfl (hO110) (((hO100).kp hk109 (fun b_ hb e' => hd105 (hb ▸ e'))).rd) (fun _ => rfl) (by omega) (by omega) ?_
              intro A118 c119 w120 hk121 hO122 hN123
              have hz124 := hk121.size
              have hB125 := hB113.step hk121 (fun i_ hi_ e' => by have := ((hO110)).base_le e'; first | omega | (exfalso; omega) | exact e' | exact .inl e' | exact .inr e')
              have hS126 := (hS114).step hk121 (fun i_ hi_ e' => by have := ((hO110)).base_le e'; exfalso; omega)
              refine SR.nil ⟨hS126, _, rfl, ?_⟩
              refine AH.br [11] (by kernel_rfl) rfl ⟨Br.mk' rfl trivial ?_, trivial⟩
              refine SR.app tel27 rfl rfl (hO122) (((((((((hm6).lo hk14).lo hk28).rd.cutl (l := k) (by omega)).lo hk36).lo hk42).lo hk99).kp hk109 (fun b_ hb e' => by have := (((hO43).lo hk99)).base_le e'; omega)).kp hk121 (fun b_ hb e' => by have := ((hO110)).base_le e'; omega)) (fun _ => rfl) (by omega) (by omega) ?_
              intro A130 c131 w132 hk133 hO134 hN135
              have hz136 := hk133.size
              have hB137 := hB125.step hk133 (fun i_ hi_ e' => by have := ((hO122)).base_le e'; first | omega | (exfalso; omega) | exact e' | exact .inl e' | exact .inr e')
              have hS138 := (hS126).step hk133 (fun i_ hi_ e' => by have := ((hO122)).base_le e'; exfalso; omega)
              refine SR.nil ⟨hS138, _, rfl, ?_⟩
              refine AH.take 12 rfl (by kernel_rfl) trivial (hS138) (fun w' hw' => r_as (v := .slice _ _ _) rfl) <| AH.done (by kernel_rfl) ?_
              exact ⟨g39, A130, c131, A106, c107, g96, A118, c119, ⟨rfl, trivial⟩, hS138, ((hO134).down (by omega)), (fun b_ h h' => by have h1 := (hO134).base_le h; have h2 := ((((hm6).lo hk14).lo hk28).lo hk36).base_le h'; omega), (fun b_ h h' => by have h1 := (hO134).base_le h; have h2 := (((((hm6).lo hk14).lo hk28).head (h := k) (by omega)).lo hk36).base_le h'; omega)⟩
          · refine SR.lit (vs := [.int .i64 n]) (L := ([n] : List Int)) (enc := encI) tel27 (fun _ => rfl) rfl rfl rfl (by decide) ?_
            intro g144 w145 hg146 hk147 hO148
            have hz149 := hk147.size
            have hB150 := hB38.lo hk147
            have hS151 := (hk36).lo hk147
            have hd152 : ¬ AL = some ⟨g144, 0, none⟩ := fun e' => by have := ((((hm6).lo hk14).lo hk28).lo hk36).base_le e'; omega
            refine SR.nil ⟨hS151, _, rfl, ?_⟩
            refine AH.br [0] (by kernel_rfl) rfl ⟨Br.mk' rfl trivial ?_, trivial⟩
            refine SR.lit (vs := []) (L := ([] : List Int)) (enc := encI) tel27 (fun _ => rfl) rfl rfl rfl (by decide) ?_
            intro g153 w154 hg155 hk156 hO157
            have hz158 := hk156.size
            have hB159 := hB150.lo hk156
            have hS160 := (hS151).lo hk156
            have hd161 : ¬ AL = some ⟨g153, 0, none⟩ := fun e' => by have := (((((hm6).lo hk14).lo hk28).lo hk36).lo hk147).base_le e'; omega
            have hd162 : ¬ (some (⟨g144, 0, none⟩ : Addr)) = some ⟨g153, 0, none⟩ := fun e' => by have := (hO148).base_le e'; omega
            refine SR.nil ⟨hS160, _, rfl, ?_⟩
            refine AH.br [4] (by kernel_rfl) rfl ⟨Br.mk' rfl trivial ?_, trivial⟩
            refine SR.app tel27 rfl rfl (hO157) ((((((((hm6).lo hk14).lo hk28).head (h := k) (by omega)).lo hk36).lo hk147).lo hk156).rd) (fun _ => rfl) (by omega) (by omega) ?_
            intro A163 c164 w165 hk166 hO167 hN168
            have hz169 := hk166.size
            have hB170 := hB159.step hk166 (fun i_ hi_ e' => by have := ((hO157)).base_le e'; first | omega | (exfalso; omega) | exact e' | exact .inl e' | exact .inr e')
            have hS171 := (hS160).step hk166 (fun i_ hi_ e' => by have := ((hO157)).base_le e'; exfalso; omega)
            rw [List.nil_append] at hO167
            refine SR.nil ⟨hS171, _, rfl, ?_⟩
            refine AH.br [7] (by kernel_rfl) rfl ⟨Br.mk' rfl trivial ?_, trivial⟩
            refine SR.app tel27 rfl rfl (hO167) ((((hO148).lo hk156).kp hk166 (fun b_ hb e' => by have h1 := ((hO157)).base_le e'; have h2 := ((hO148).lo hk156).base_le hb; have h3 := (hO148).base_le hb; omega)).rd) (fun _ => rfl) (by omega) (by omega) ?_
            intro A175 c176 w177 hk178 hO179 hN180
            have hz181 := hk178.size
            have hB182 := hB170.step hk178 (fun i_ hi_ e' => by have := ((hO167)).base_le e'; first | omega | (exfalso; omega) | exact e' | exact .inl e' | exact .inr e')
            have hS183 := (hS171).step hk178 (fun i_ hi_ e' => by have := ((hO167)).base_le e'; exfalso; omega)
            refine SR.nil ⟨hS183, _, rfl, ?_⟩
            refine AH.br [11] (by kernel_rfl) rfl ⟨Br.mk' rfl trivial ?_, trivial⟩
            refine SR.app tel27 rfl rfl (hO179) (((((((((hm6).lo hk14).lo hk28).rd.cutl (l := k) (by omega)).lo hk36).lo hk147).lo hk156).kp hk166 (fun b_ hb e' => by have := ((hO157)).base_le e'; omega)).kp hk178 (fun b_ hb e' => by have := ((hO167)).base_le e'; omega)) (fun _ => rfl) (by omega) (by omega) ?_
            intro A187 c188 w189 hk190 hO191 hN192
            have hz193 := hk190.size
            have hB194 := hB182.step hk190 (fun i_ hi_ e' => by have := ((hO179)).base_le e'; first | omega | (exfalso; omega) | exact e' | exact .inl e' | exact .inr e')
            have hS195 := (hS183).step hk190 (fun i_ hi_ e' => by have := ((hO179)).base_le e'; exfalso; omega)
            refine SR.nil ⟨hS195, _, rfl, ?_⟩
            refine AH.take 12 rfl (by kernel_rfl) trivial (hS195) (fun w' hw' => r_as (v := .slice _ _ _) rfl) <| AH.done (by kernel_rfl) ?_
            exact ⟨g153, A187, c188, A163, c164, g144, A175, c176, ⟨rfl, trivial⟩, hS195, ((hO191).down (by omega)), (fun b_ h h' => by have h1 := (hO191).base_le h; have h2 := (((((hm6).lo hk14).lo hk28).lo hk36).lo hk147).base_le h'; omega), (fun b_ h h' => by have h1 := (hO191).base_le h; have h2 := ((((((hm6).lo hk14).lo hk28).head (h := k) (by omega)).lo hk36).lo hk147).base_le h'; omega)⟩
        rintro f201 w202 ⟨g39, A81, c82, A48, c49, g59, A69, c70, hat204, hR203, hm93, hd94, hd95⟩
        rw [← sets_of_at hat204]
        have hz205 := hR203.size
        have hB206 := hB30.lo hR203
        refine W.ret ?_
        refine ret1 rfl (v := .slice _ _ _) rfl ?_
        exact ⟨A81, ((0 + k) + 1) + (nL - k), c82, eR rfl, (SlO.eqv ((hm93).down (by omega)) (z_c_spec_l1Put_207 L cL nL hbdL hleL n hp0 k hi7 h17 h31)), (fun b_ h => .inr (by have := (hm93).base_le h; omega)), hB206⟩

theorem z_c_spec_SeatedAt_25 (L : List Visit) (nL : Nat) (hbdL : (nL : Int) ≤ 9223372036854775807) (hleL : nL = L.length) (m : Int) (h24 : (¬ (VsOK L)) ∨ (¬ (480 ≤ m ∧ m ≤ 1200))) : ([] : List Int) = satL L m := by
  unfold satL; first | (rw [if_neg (no_and ‹_ ∨ _›)]) | rw [if_pos ⟨‹_›, by omega⟩] <;> (try (subst hleL; unfold seatsAt; rw [rdrs_end (by omega)]))
theorem z_c_spec_SeatedAt_26 (L : List Visit) (nL : Nat) (hbdL : (nL : Int) ≤ 9223372036854775807) (hleL : nL = L.length) (m : Int) (h24 : (¬ (VsOK L)) ∨ (¬ (480 ≤ m ∧ m ≤ 1200))) : ¬ (VsOK L ∧ 480 ≤ m ∧ m ≤ 1200) := by
  first | exact ⟨‹_›, by omega⟩ | exact no_and ‹_ ∨ _›
theorem z_c_spec_SeatedAt_31 (L : List Visit) (nL : Nat) (hbdL : (nL : Int) ≤ 9223372036854775807) (hleL : nL = L.length) (m : Int) (h24 : ¬ ((¬ (VsOK L)) ∨ (¬ (480 ≤ m ∧ m ≤ 1200)))) (hq27 : VsOK L) (hq28 : 480 ≤ m ∧ m ≤ 1200) (hq29 : L.length ≤ 15) : 0 ≤ nL := by
  omega
theorem z_c_spec_SeatedAt_32 (L : List Visit) (nL : Nat) (hbdL : (nL : Int) ≤ 9223372036854775807) (hleL : nL = L.length) (m : Int) (h24 : ¬ ((¬ (VsOK L)) ∨ (¬ (480 ≤ m ∧ m ≤ 1200)))) (hq27 : VsOK L) (hq28 : 480 ≤ m ∧ m ≤ 1200) (hq29 : L.length ≤ 15) : ([] : List Int) = sortI (rdrs L m 0) := by
  simp [rdrs, sortI]
theorem z_c_spec_SeatedAt_63 (L : List Visit) (nL : Nat) (hbdL : (nL : Int) ≤ 9223372036854775807) (hleL : nL = L.length) (m : Int) (h24 : ¬ ((¬ (VsOK L)) ∨ (¬ (480 ≤ m ∧ m ≤ 1200)))) (hq27 : VsOK L) (hq28 : 480 ≤ m ∧ m ≤ 1200) (hq29 : L.length ≤ 15) (k : Nat) (n30 : Nat) (c30 : Nat) (hi39 : k ≤ nL) (hl40 : n30 = (sortI (rdrs L m k)).length) (hq42 : (sortI (rdrs L m k)).length ≤ 6) (h43 : (k : Int) < (nL : Int)) (hx45 : L[k]? = some (gt L k)) (hq46 : ((1 : Int) ≤ (gt L k).Reader ∧ (gt L k).Reader ≤ 999) ∧ ((1 : Int) ≤ (gt L k).Seat ∧ (gt L k).Seat ≤ 6) ∧ ((480 : Int) ≤ (gt L k).From ∧ (gt L k).From ≤ 1200) ∧ ((480 : Int) ≤ (gt L k).Until ∧ (gt L k).Until ≤ 1200) ∧ (gt L k).From < (gt L k).Until) (h51 : ((gt L k).From) ≤ m ∧ m ≤ (((gt L k).Until) - 1)) (n55 : Nat) (hl61 : n55 = (putI (sortI (rdrs L m k)) ((gt L k).Reader)).length) (hl62 : (n55 : Int) ≤ 9223372036854775807) : putI (sortI (rdrs L m k)) ((gt L k).Reader) = sortI (rdrs L m (k + 1)) := by
  subst hleL
  first | exact seat_put ‹VsOK L› (by omega) (decide_eq_true ‹_ ∧ _›) | rw [rdrs_no (by omega) (decide_eq_false ‹¬ (_ ∧ _)›)]
theorem z_c_spec_SeatedAt_64 (L : List Visit) (nL : Nat) (hbdL : (nL : Int) ≤ 9223372036854775807) (hleL : nL = L.length) (m : Int) (h24 : ¬ ((¬ (VsOK L)) ∨ (¬ (480 ≤ m ∧ m ≤ 1200)))) (hq27 : VsOK L) (hq28 : 480 ≤ m ∧ m ≤ 1200) (hq29 : L.length ≤ 15) (k : Nat) (n30 : Nat) (c30 : Nat) (hi39 : k ≤ nL) (hl40 : n30 = (sortI (rdrs L m k)).length) (hq42 : (sortI (rdrs L m k)).length ≤ 6) (h43 : (k : Int) < (nL : Int)) (hx45 : L[k]? = some (gt L k)) (hq46 : ((1 : Int) ≤ (gt L k).Reader ∧ (gt L k).Reader ≤ 999) ∧ ((1 : Int) ≤ (gt L k).Seat ∧ (gt L k).Seat ≤ 6) ∧ ((480 : Int) ≤ (gt L k).From ∧ (gt L k).From ≤ 1200) ∧ ((480 : Int) ≤ (gt L k).Until ∧ (gt L k).Until ≤ 1200) ∧ (gt L k).From < (gt L k).Until) (h51 : ((gt L k).From) ≤ m ∧ m ≤ (((gt L k).Until) - 1)) (n55 : Nat) (hl61 : n55 = (putI (sortI (rdrs L m k)) ((gt L k).Reader)).length) (hl62 : (n55 : Int) ≤ 9223372036854775807) : k + 1 ≤ nL := by
  omega
theorem z_c_spec_SeatedAt_65 (L : List Visit) (nL : Nat) (hbdL : (nL : Int) ≤ 9223372036854775807) (hleL : nL = L.length) (m : Int) (h24 : ¬ ((¬ (VsOK L)) ∨ (¬ (480 ≤ m ∧ m ≤ 1200)))) (hq27 : VsOK L) (hq28 : 480 ≤ m ∧ m ≤ 1200) (hq29 : L.length ≤ 15) (k : Nat) (n30 : Nat) (c30 : Nat) (hi39 : k ≤ nL) (hl40 : n30 = (sortI (rdrs L m k)).length) (hq42 : (sortI (rdrs L m k)).length ≤ 6) (h43 : (k : Int) < (nL : Int)) (hx45 : L[k]? = some (gt L k)) (hq46 : ((1 : Int) ≤ (gt L k).Reader ∧ (gt L k).Reader ≤ 999) ∧ ((1 : Int) ≤ (gt L k).Seat ∧ (gt L k).Seat ≤ 6) ∧ ((480 : Int) ≤ (gt L k).From ∧ (gt L k).From ≤ 1200) ∧ ((480 : Int) ≤ (gt L k).Until ∧ (gt L k).Until ≤ 1200) ∧ (gt L k).From < (gt L k).Until) (h51 : ((gt L k).From) ≤ m ∧ m ≤ (((gt L k).Until) - 1)) (n55 : Nat) (hl61 : n55 = (putI (sortI (rdrs L m k)) ((gt L k).Reader)).length) (hl62 : (n55 : Int) ≤ 9223372036854775807) : nL - (k + 1) < nL - k := by
  omega
theorem z_c_spec_SeatedAt_66 (L : List Visit) (nL : Nat) (hbdL : (nL : Int) ≤ 9223372036854775807) (hleL : nL = L.length) (m : Int) (h24 : ¬ ((¬ (VsOK L)) ∨ (¬ (480 ≤ m ∧ m ≤ 1200)))) (hq27 : VsOK L) (hq28 : 480 ≤ m ∧ m ≤ 1200) (hq29 : L.length ≤ 15) (k : Nat) (n30 : Nat) (c30 : Nat) (hi39 : k ≤ nL) (hl40 : n30 = (sortI (rdrs L m k)).length) (hq42 : (sortI (rdrs L m k)).length ≤ 6) (h43 : (k : Int) < (nL : Int)) (hx45 : L[k]? = some (gt L k)) (hq46 : ((1 : Int) ≤ (gt L k).Reader ∧ (gt L k).Reader ≤ 999) ∧ ((1 : Int) ≤ (gt L k).Seat ∧ (gt L k).Seat ≤ 6) ∧ ((480 : Int) ≤ (gt L k).From ∧ (gt L k).From ≤ 1200) ∧ ((480 : Int) ≤ (gt L k).Until ∧ (gt L k).Until ≤ 1200) ∧ (gt L k).From < (gt L k).Until) (h51 : ¬ (((gt L k).From) ≤ m ∧ m ≤ (((gt L k).Until) - 1))) : sortI (rdrs L m k) = sortI (rdrs L m (k + 1)) := by
  subst hleL
  first | exact seat_put ‹VsOK L› (by omega) (decide_eq_true ‹_ ∧ _›) | rw [rdrs_no (by omega) (decide_eq_false ‹¬ (_ ∧ _)›)]
theorem z_c_spec_SeatedAt_67 (L : List Visit) (nL : Nat) (hbdL : (nL : Int) ≤ 9223372036854775807) (hleL : nL = L.length) (m : Int) (h24 : ¬ ((¬ (VsOK L)) ∨ (¬ (480 ≤ m ∧ m ≤ 1200)))) (hq27 : VsOK L) (hq28 : 480 ≤ m ∧ m ≤ 1200) (hq29 : L.length ≤ 15) (k : Nat) (n30 : Nat) (c30 : Nat) (hi39 : k ≤ nL) (hl40 : n30 = (sortI (rdrs L m k)).length) (hq42 : (sortI (rdrs L m k)).length ≤ 6) (h43 : (k : Int) < (nL : Int)) (hx45 : L[k]? = some (gt L k)) (hq46 : ((1 : Int) ≤ (gt L k).Reader ∧ (gt L k).Reader ≤ 999) ∧ ((1 : Int) ≤ (gt L k).Seat ∧ (gt L k).Seat ≤ 6) ∧ ((480 : Int) ≤ (gt L k).From ∧ (gt L k).From ≤ 1200) ∧ ((480 : Int) ≤ (gt L k).Until ∧ (gt L k).Until ≤ 1200) ∧ (gt L k).From < (gt L k).Until) (h51 : ¬ (((gt L k).From) ≤ m ∧ m ≤ (((gt L k).Until) - 1))) : k + 1 ≤ nL := by
  omega
theorem z_c_spec_SeatedAt_68 (L : List Visit) (nL : Nat) (hbdL : (nL : Int) ≤ 9223372036854775807) (hleL : nL = L.length) (m : Int) (h24 : ¬ ((¬ (VsOK L)) ∨ (¬ (480 ≤ m ∧ m ≤ 1200)))) (hq27 : VsOK L) (hq28 : 480 ≤ m ∧ m ≤ 1200) (hq29 : L.length ≤ 15) (k : Nat) (n30 : Nat) (c30 : Nat) (hi39 : k ≤ nL) (hl40 : n30 = (sortI (rdrs L m k)).length) (hq42 : (sortI (rdrs L m k)).length ≤ 6) (h43 : (k : Int) < (nL : Int)) (hx45 : L[k]? = some (gt L k)) (hq46 : ((1 : Int) ≤ (gt L k).Reader ∧ (gt L k).Reader ≤ 999) ∧ ((1 : Int) ≤ (gt L k).Seat ∧ (gt L k).Seat ≤ 6) ∧ ((480 : Int) ≤ (gt L k).From ∧ (gt L k).From ≤ 1200) ∧ ((480 : Int) ≤ (gt L k).Until ∧ (gt L k).Until ≤ 1200) ∧ (gt L k).From < (gt L k).Until) (h51 : ¬ (((gt L k).From) ≤ m ∧ m ≤ (((gt L k).Until) - 1))) : nL - (k + 1) < nL - k := by
  omega
theorem z_c_spec_SeatedAt_69 (L : List Visit) (nL : Nat) (hbdL : (nL : Int) ≤ 9223372036854775807) (hleL : nL = L.length) (m : Int) (h24 : ¬ ((¬ (VsOK L)) ∨ (¬ (480 ≤ m ∧ m ≤ 1200)))) (hq27 : VsOK L) (hq28 : 480 ≤ m ∧ m ≤ 1200) (hq29 : L.length ≤ 15) (k : Nat) (n30 : Nat) (c30 : Nat) (hi39 : k ≤ nL) (hl40 : n30 = (sortI (rdrs L m k)).length) (hq42 : (sortI (rdrs L m k)).length ≤ 6) (h43 : ¬ ((k : Int) < (nL : Int))) : sortI (rdrs L m k) = satL L m := by
  unfold satL; first | (rw [if_neg (no_and ‹_ ∨ _›)]) | rw [if_pos ⟨‹_›, by omega⟩] <;> (try (subst hleL; unfold seatsAt; rw [rdrs_end (by omega)]))
theorem z_c_spec_SeatedAt_70 (L : List Visit) (nL : Nat) (hbdL : (nL : Int) ≤ 9223372036854775807) (hleL : nL = L.length) (m : Int) (h24 : ¬ ((¬ (VsOK L)) ∨ (¬ (480 ≤ m ∧ m ≤ 1200)))) (hq27 : VsOK L) (hq28 : 480 ≤ m ∧ m ≤ 1200) (hq29 : L.length ≤ 15) (k : Nat) (n30 : Nat) (c30 : Nat) (hi39 : k ≤ nL) (hl40 : n30 = (sortI (rdrs L m k)).length) (hq42 : (sortI (rdrs L m k)).length ≤ 6) (h43 : ¬ ((k : Int) < (nL : Int))) : VsOK L ∧ 480 ≤ m ∧ m ≤ 1200 := by
  first | exact ⟨‹_›, by omega⟩ | exact no_and ‹_ ∨ _›
theorem c_spec_SeatedAt (w : World) {AL : Option Addr} {nL cL BL : Nat}  (L : List Visit) (hL : SlR w BL encVisit 4 AL nL cL L) (m : Int) : Calls Tryz.prog 7 #[.slice AL nL cL, .int .i64 m] w fun e w' => ∃ (A1' : Option Addr) (n1' c1' : Nat), e = .returned (.tuple (List.toArray [.slice A1' n1' c1', .bool (decide (VsOK L ∧ 480 ≤ m ∧ m ≤ 1200))])) ∧ SlO w' w.heap.size encI 1 3 A1' n1' c1' (satL L m) ∧ Lo w w' := by
  refine calls_W 45 Tryz.func7 rfl rfl rfl ?_
  have hbdL := hL.bound
  have hleL := hL.len
  have hBbL := hL.bd
  refine W.seq ?_
  refine W.regS (SR.q' (r_as (v := .slice none 0 0) rfl) <| SR.q' (r_as (v := .bool false) rfl) <| SR.nil ?_)
  refine W.seq ?_
  refine W.regS (SR.lit (vs := []) (L := ([] : List Int)) (enc := encI) tel27 (fun _ => rfl) rfl rfl rfl (by decide) ?_)
  intro g1 w2 hg3 hk4 hO5
  have hz6 := hk4.size
  have hB7 := (Lo.refl w).lo hk4
  refine SR.q' (r_as (v := .slice _ _ _) rfl) <| SR.nil ?_
  refine W.seq ?_
  refine W.seq ?_
  refine W.regJS (fun f' w' => At f' [(0, .slice AL nL cL), (1, .int .i64 m), (4, .slice none 0 0), (5, .bool false), (6, .slice (some (⟨g1, 0, none⟩ : Addr)) 0 0), (16, .bool (decide ((¬ (VsOK L)) ∨ (¬ (480 ≤ m ∧ m ≤ 1200)))))] ∧ Lo w2 w') ?_ ?_
  · refine SR.q' (r_mv (v := .slice _ _ _) rfl) <| SR.call ent32 (c_spec_l30Good w2 L (((hL).lo hk4))) rfl ?_
    rintro e w8 ⟨rfl, hk9⟩
    refine ⟨_, rfl, ?_⟩
    have hz10 := hk9.size
    have hB11 := hB7.lo hk9
    refine SR.q' (r_not rfl) <| SR.q' (r_mv (v := .bool _) rfl) <| SR.splitN (fun h12 => ?_) (fun h12 => ?_)
    · refine SR.s' rfl <| SR.s' rfl <| SR.s' rfl <| SR.q' (r_pick true rfl (v := .bool true) rfl) <| SR.nil ?_
      exact ⟨_, rfl, ⟨⟨rfl, rfl, rfl, rfl, rfl, (eDT ((jmf h12).1 trivial)), trivial⟩, (hk9)⟩⟩
    · have hq13 := vs_len h12
      refine SR.g' rfl (r_mv (v := .int .i64 _) rfl) <| SR.gcall rfl ent33 (c_spec_l30Minute w8 m) rfl ?_
      rintro e w14 ⟨rfl, hk15⟩
      refine ⟨_, rfl, ?_⟩
      have hz16 := hk15.size
      have hB17 := hB11.lo hk15
      refine SR.g' rfl (r_not rfl) <| SR.q' (r_pick false rfl (v := .bool _) rfl) <| SR.nil ?_
      exact ⟨_, rfl, ⟨⟨rfl, rfl, rfl, rfl, rfl, (eND (jmt h12)), trivial⟩, ((hk9).trans hk15)⟩⟩
  rintro f18 w19 ⟨hat20, hk21⟩
  rw [← sets_of_at hat20]
  have hz22 := hk21.size
  have hB23 := hB7.lo hk21
  refine W.cond_d rfl (fun h24 => ?_) (fun h24 => ?_)
  · refine W.seq ?_
    refine W.regS (SR.q' (r_mv (v := .slice _ _ _) rfl) <| SR.q' (r_as (v := .slice _ _ _) rfl) <| SR.q' (r_as (v := .bool false) rfl) <| SR.nil ?_)
    refine W.ret ?_
    refine ret2 rfl (v := .slice _ _ _) (v' := .bool _) rfl rfl ?_
    exact ⟨(some (⟨g1, 0, none⟩ : Addr)), 0, 0, eR (eT2 rfl (eDF (z_c_spec_SeatedAt_26 L nL hbdL hleL m h24))), (SlO.eqv (((hO5).lo hk21).down (by omega)) (z_c_spec_SeatedAt_25 L nL hbdL hleL m h24)), hB23⟩
  · have hq27 : VsOK L := (Classical.not_not.1 (not_or.1 h24).1)
    have hq28 : 480 ≤ m ∧ m ≤ 1200 := (Classical.not_not.1 (not_or.1 h24).2)
    have hq29 := vs_len hq27
    refine W.skip ?_
    refine W.seq ?_
    refine W.seq ?_
    refine W.regS (SR.q' (r_as (v := .int .i64 0) rfl) <| SR.nil ?_)
    refine W.block ?_
    refine W.loop (σ := Nat × (Option Addr) × Nat × Nat) (fun g => [(0, .slice AL nL cL), (1, .int .i64 m), (4, .slice none 0 0), (5, .bool false), (6, .slice g.2.1 g.2.2.1 g.2.2.2), (7, .int .i64 (g.1 : Int))]) (fun g w' => (Lo w w') ∧ (SlR w' BL encVisit 4 AL nL cL L) ∧ (SlO w' w.heap.size encI 1 3 g.2.1 g.2.2.1 g.2.2.2 (sortI (rdrs L m g.1))) ∧ (g.1 ≤ nL)) (fun g => nL - g.1) (0, (some (⟨g1, 0, none⟩ : Addr)), 0, 0) ?_ ?_ ?_
    · exact ⟨rfl, rfl, rfl, rfl, rfl, rfl, trivial⟩
    · exact ⟨hB23, ((hL).lo hk4).lo hk21, (SlO.eqv ((hO5).lo hk21) (z_c_spec_SeatedAt_32 L nL hbdL hleL m h24 hq27 hq28 hq29)), (z_c_spec_SeatedAt_31 L nL hbdL hleL m h24 hq27 hq28 hq29)⟩
    · rintro ⟨k, A30, n30, c30⟩ f33 w34 hP36
      obtain ⟨hB35, hm37, hO38, hi39⟩ : (Lo w w34) ∧ (SlR w34 BL encVisit 4 AL nL cL L) ∧ (SlO w34 w.heap.size encI 1 3 A30 n30 c30 (sortI (rdrs L m k))) ∧ (k ≤ nL) := hP36
      refine (?_ : W _ _ _ _ _ (act _ (sets f33 [(0, .slice AL nL cL), (1, .int .i64 m), (4, .slice none 0 0), (5, .bool false), (6, .slice A30 n30 c30), (7, .int .i64 (k : Int))])) _)
      have hzw34 := hB35.size
      have hl40 := hO38.len
      have hl41 := hO38.rd.bound
      have hq42 : (sortI (rdrs L m k)).length ≤ 6 := by rw [sortI_len]; exact rdrs_six ‹VsOK L› (by omega)
      refine W.seq ?_
      refine W.seq ?_
      refine W.regS (SR.q' (r_mv (v := .int .i64 _) rfl) <| SR.q' (r_mv (v := .slice _ _ _) rfl) <| SR.q' (r_len und24 rfl) <| SR.q' (r_lt rfl rfl) <| SR.nil ?_)
      refine W.cond_d rfl (fun h43 => ?_) (fun h43 => ?_)
      · refine W.skip ?_
        refine W.seq ?_
        refine W.block ?_
        refine W.seq ?_
        refine W.regD mo (by kernel_rfl) (QR.q' (fun w' hw' => r_mv (v := .int .i64 _) rfl) <| QR.q' (fun w' hw' => r_mv (v := .slice _ _ _) rfl) <| QR.q' (fun w' hw' => r_mv (v := .int .i64 _) rfl) <| ?_)
        have hx45 := (hm37).elem (i := k) (by omega)
        have hq46 := vs_rng hq27 hx45
        refine QR.q' (fun w' hw' => r_ixR tsl24 (((hm37).lo hw')) rfl rfl (by omega)) <| QR.q' (fun w' hw' => r_fa fa45_2 rfl) <| QR.q' (fun w' hw' => r_ld (v := .int .i64 ((gt L k).From)) sca3 rfl ((((hm37).lo hw')).cell hx45 rfl)) <| QR.q' (fun w' hw' => r_mv (v := .slice _ _ _) rfl) <| QR.q' (fun w' hw' => r_mv (v := .int .i64 _) rfl) <| QR.q' (fun w' hw' => r_ixR tsl24 (((hm37).lo hw')) rfl rfl (by omega)) <| QR.q' (fun w' hw' => r_fa fa45_3 rfl) <| QR.q' (fun w' hw' => r_ld (v := .int .i64 ((gt L k).Until)) sca3 rfl ((((hm37).lo hw')).cell hx45 rfl)) <| QR.q' (fun w' hw' => r_sub rfl rfl (by omega)) <| QR.call ent34 (fun w' hw' => (c_spec_l1In w' m ((gt L k).From) (((gt L k).Until) - 1)).mono fun _ _ h => ⟨h.1, hw'.trans h.2⟩) rfl <| QR.nil ?_
        intro w47 hk48
        have hz49 := hk48.size
        have hB50 := hB35.lo hk48
        refine W.cond_d rfl (fun h51 => ?_) (fun h51 => ?_)
        · refine W.regS (SR.q' (r_mv (v := .slice _ _ _) rfl) <| SR.q' (r_mv (v := .slice _ _ _) rfl) <| SR.q' (r_mv (v := .int .i64 _) rfl) <| SR.q' (r_ixR tsl24 ((hm37).lo hk48) rfl rfl (by omega)) <| SR.q' (r_fa fa45_0 rfl) <| SR.q' (r_ld (v := .int .i64 ((gt L k).Reader)) sca3 rfl (((hm37).lo hk48).cell hx45 rfl)) <| SR.call ent35 (c_spec_l1Put w47 (sortI (rdrs L m k)) ((hO38).lo hk48) ((gt L k).Reader) (by omega)) rfl ?_)
          rintro e w52 ⟨A54, n55, c56, rfl, hO57, hN58, hk53⟩
          refine ⟨_, rfl, ?_⟩
          have hz59 := hk53.size
          have hB60 := hB50.step hk53 (fun i_ hi_ e' => by have := (((hO38).lo hk48)).base_le e'; first | omega | (exfalso; omega) | exact e' | exact .inl e' | exact .inr e')
          have hl61 := hO57.len
          have hl62 := hO57.rd.bound
          refine SR.q' (r_as (v := .slice _ _ _) rfl) <| SR.nil ?_
          refine W.regS (SR.q' (r_mv (v := .int .i64 _) rfl) <| SR.q' (r_add rfl rfl (by omega)) <| SR.q' (r_as (v := .int .i64 _) rfl) <| SR.nil ?_)
          refine ⟨(k + 1, A54, n55, c56), _, rfl, ⟨rfl, rfl, rfl, rfl, rfl, rfl, trivial⟩, ⟨hB60, ((hm37).lo hk48).kp hk53 (fun b_ hb e' => by have := (((hO38).lo hk48)).base_le e'; omega), (SlO.eqv (hO57) (z_c_spec_SeatedAt_63 L nL hbdL hleL m h24 hq27 hq28 hq29 k n30 c30 hi39 hl40 hq42 h43 hx45 hq46 h51 n55 hl61 hl62)), ?_⟩, ?_⟩
          · exact (z_c_spec_SeatedAt_64 L nL hbdL hleL m h24 hq27 hq28 hq29 k n30 c30 hi39 hl40 hq42 h43 hx45 hq46 h51 n55 hl61 hl62)
          · exact (z_c_spec_SeatedAt_65 L nL hbdL hleL m h24 hq27 hq28 hq29 k n30 c30 hi39 hl40 hq42 h43 hx45 hq46 h51 n55 hl61 hl62)
        · refine W.skip ?_
          refine W.regS (SR.q' (r_mv (v := .int .i64 _) rfl) <| SR.q' (r_add rfl rfl (by omega)) <| SR.q' (r_as (v := .int .i64 _) rfl) <| SR.nil ?_)
          refine ⟨(k + 1, A30, n30, c30), _, rfl, ⟨rfl, rfl, rfl, rfl, rfl, rfl, trivial⟩, ⟨hB50, (hm37).lo hk48, (SlO.eqv ((hO38).lo hk48) (z_c_spec_SeatedAt_66 L nL hbdL hleL m h24 hq27 hq28 hq29 k n30 c30 hi39 hl40 hq42 h43 hx45 hq46 h51)), ?_⟩, ?_⟩
          · exact (z_c_spec_SeatedAt_67 L nL hbdL hleL m h24 hq27 hq28 hq29 k n30 c30 hi39 hl40 hq42 h43 hx45 hq46 h51)
          · exact (z_c_spec_SeatedAt_68 L nL hbdL hleL m h24 hq27 hq28 hq29 k n30 c30 hi39 hl40 hq42 h43 hx45 hq46 h51)
      · refine W.exit (xin_here ?_)
        refine W.seq ?_
        refine W.regS (SR.q' (r_mv (v := .slice _ _ _) rfl) <| SR.q' (r_as (v := .slice _ _ _) rfl) <| SR.q' (r_as (v := .bool true) rfl) <| SR.nil ?_)
        refine W.ret ?_
        refine ret2 rfl (v := .slice _ _ _) (v' := .bool _) rfl rfl ?_
        exact ⟨A30, n30, c30, eR (eT2 rfl (eDT (z_c_spec_SeatedAt_70 L nL hbdL hleL m h24 hq27 hq28 hq29 k n30 c30 hi39 hl40 hq42 h43))), (SlO.eqv ((hO38).down (by omega)) (z_c_spec_SeatedAt_69 L nL hbdL hleL m h24 hq27 hq28 hq29 k n30 c30 hi39 hl40 hq42 h43)), hB35⟩
end Go.Proofs.YthgbcadgnihdiaaGreatDoor
