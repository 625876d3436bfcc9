/- Walks, printed by a program of this claim's author. -/
import Derived.Test.YtobbccbdgedajaaChecked
import Derived.Test.YtobbccbdgedajaaRa
import Derived.Test.YtobbccbdgedajaaRs
import Derived.Test.YtobbccbdgedajaaG30u
namespace Go.Proofs.Ytobbccbdgedajaa
open Go Go.RowKit Fw
set_option maxRecDepth 10000
set_option linter.unusedVariables false
theorem ent11 : Ent Try.prog 11 := ent_of Try.func11 (by decide +kernel) rfl
theorem ent13 : Ent Try.prog 13 := ent_of Try.func13 (by decide +kernel) rfl
theorem ent14 : Ent Try.prog 14 := ent_of Try.func14 (by decide +kernel) rfl
theorem ent37 : Ent Try.prog 37 := ent_of Try.func37 (by decide +kernel) rfl
theorem ent38 : Ent Try.prog 38 := ent_of Try.func38 (by decide +kernel) rfl
theorem ent39 : Ent Try.prog 39 := ent_of Try.func39 (by decide +kernel) rfl
theorem ent40 : Ent Try.prog 40 := ent_of Try.func40 (by decide +kernel) rfl
theorem ent41 : Ent Try.prog 41 := ent_of Try.func41 (by decide +kernel) rfl
theorem ent9 : Ent Try.prog 9 := ent_of Try.func9 (by decide +kernel) rfl
theorem und4 : Try.prog.underlying 4 = some (.bool) := by kernel_rfl

theorem z_c_laws_FnExactSeatedAt_62 (L : List Visit) (nL : Nat) (hbdL : (nL : Int) ≤ 9223372036854775807) (hleL : nL = L.length) (m : Int) (h5 : ¬ ((szN L.length 1048576) < 0)) (hq6 : ((L.length : Nat) : Int) ≤ 1048576 ∧ szN L.length 1048576 = 1048576 - (L.length : Int)) (n10 : Nat) (hl15 : n10 = (L).length) (hl16 : (n10 : Int) ≤ 9223372036854775807) (n20 : Nat) (hl25 : n20 = (satL L m).length) (hl26 : (n20 : Int) ≤ 9223372036854775807) (hq27 : (satL L m).length ≤ 6) (n31 : Nat) (hl36 : n31 = (L).length) (hl37 : (n31 : Int) ≤ 9223372036854775807) (n41 : Nat) (hl46 : n41 = (satL L m).length) (hl47 : (n41 : Int) ≤ 9223372036854775807) (hq48 : (satL L m).length ≤ 6) (h60 : ¬ ((satL L m) = (satL L m))) (hq61 : ¬ ((satL L m) = (satL L m))) : false = true := by
  first | (simp_all; done) | omega | (simp at *; omega)
theorem z_c_laws_FnExactSeatedAt_79 (L : List Visit) (nL : Nat) (hbdL : (nL : Int) ≤ 9223372036854775807) (hleL : nL = L.length) (m : Int) (h5 : ¬ ((szN L.length 1048576) < 0)) (hq6 : ((L.length : Nat) : Int) ≤ 1048576 ∧ szN L.length 1048576 = 1048576 - (L.length : Int)) (n10 : Nat) (hl15 : n10 = (L).length) (hl16 : (n10 : Int) ≤ 9223372036854775807) (n20 : Nat) (hl25 : n20 = (satL L m).length) (hl26 : (n20 : Int) ≤ 9223372036854775807) (hq27 : (satL L m).length ≤ 6) (n31 : Nat) (hl36 : n31 = (L).length) (hl37 : (n31 : Int) ≤ 9223372036854775807) (n41 : Nat) (hl46 : n41 = (satL L m).length) (hl47 : (n41 : Int) ≤ 9223372036854775807) (hq48 : (satL L m).length ≤ 6) (h60 : ¬ (¬ ((satL L m) = (satL L m)))) (hq63 : (satL L m) = (satL L m)) (n67 : Nat) (hl72 : n67 = (L).length) (hl73 : (n67 : Int) ≤ 9223372036854775807) (h78 : ¬ (L = L)) : false = true := by
  first | (simp_all; done) | omega | (simp at *; omega)
theorem z_c_laws_FnExactSeatedAt_98 (L : List Visit) (nL : Nat) (hbdL : (nL : Int) ≤ 9223372036854775807) (hleL : nL = L.length) (m : Int) (h5 : ¬ ((szN L.length 1048576) < 0)) (hq6 : ((L.length : Nat) : Int) ≤ 1048576 ∧ szN L.length 1048576 = 1048576 - (L.length : Int)) (n10 : Nat) (hl15 : n10 = (L).length) (hl16 : (n10 : Int) ≤ 9223372036854775807) (n20 : Nat) (hl25 : n20 = (satL L m).length) (hl26 : (n20 : Int) ≤ 9223372036854775807) (hq27 : (satL L m).length ≤ 6) (n31 : Nat) (hl36 : n31 = (L).length) (hl37 : (n31 : Int) ≤ 9223372036854775807) (n41 : Nat) (hl46 : n41 = (satL L m).length) (hl47 : (n41 : Int) ≤ 9223372036854775807) (hq48 : (satL L m).length ≤ 6) (h60 : ¬ (¬ ((satL L m) = (satL L m)))) (hq63 : (satL L m) = (satL L m)) (n67 : Nat) (hl72 : n67 = (L).length) (hl73 : (n67 : Int) ≤ 9223372036854775807) (h78 : L = L) (h97 : ((1 + 4 * (L.length : Int)) < 0) ∨ (¬ ((satL L m) = (satL L m)))) : false = true := by
  first | (simp_all; done) | omega | (simp at *; omega)
theorem z_c_laws_FnExactSeatedAt_111 (L : List Visit) (nL : Nat) (hbdL : (nL : Int) ≤ 9223372036854775807) (hleL : nL = L.length) (m : Int) (h5 : ¬ ((szN L.length 1048576) < 0)) (hq6 : ((L.length : Nat) : Int) ≤ 1048576 ∧ szN L.length 1048576 = 1048576 - (L.length : Int)) (n10 : Nat) (hl15 : n10 = (L).length) (hl16 : (n10 : Int) ≤ 9223372036854775807) (n20 : Nat) (hl25 : n20 = (satL L m).length) (hl26 : (n20 : Int) ≤ 9223372036854775807) (hq27 : (satL L m).length ≤ 6) (n31 : Nat) (hl36 : n31 = (L).length) (hl37 : (n31 : Int) ≤ 9223372036854775807) (n41 : Nat) (hl46 : n41 = (satL L m).length) (hl47 : (n41 : Int) ≤ 9223372036854775807) (hq48 : (satL L m).length ≤ 6) (h60 : ¬ (¬ ((satL L m) = (satL L m)))) (hq63 : (satL L m) = (satL L m)) (n67 : Nat) (hl72 : n67 = (L).length) (hl73 : (n67 : Int) ≤ 9223372036854775807) (h78 : L = L) (h97 : ¬ (((1 + 4 * (L.length : Int)) < 0) ∨ (¬ ((satL L m) = (satL L m))))) (hq99 : ¬ ((1 + 4 * (L.length : Int)) < 0)) (hq100 : (satL L m) = (satL L m)) (h110 : (1 + 1 * ((satL L m).length : Int)) < 0) : false = true := by
  first | (simp_all; done) | omega | (simp at *; omega)
theorem c_laws_FnExactSeatedAt (w : World) {AL : Option Addr} {nL cL BL : Nat}  (L : List Visit) (hL : SlR w BL encVisit 4 AL nL cL L) (m : Int) : Calls Try.prog 8 #[.slice AL nL cL, .int .i64 m] w fun e w' => e = .returned (.bool true) ∧ Lo w w' := by
  refine calls_W 101 Try.func8 rfl rfl rfl ?_
  have hbdL := hL.bound
  have hleL := hL.len
  have hBbL := hL.bd
  refine W.seq ?_
  refine W.regS (SR.q' (r_as (v := .bool false) rfl) <| SR.nil ?_)
  refine W.seq ?_
  refine W.regS (SR.q' (r_as (v := .int .i64 1048576) rfl) <| SR.nil ?_)
  refine W.seq ?_
  refine W.regS (SR.q' (r_mv (v := .slice _ _ _) rfl) <| SR.q' (r_mv (v := .int .i64 _) rfl) <| SR.call ent9 (c_laws_szVisitS w L ((hL)) 1048576 (by omega) (by omega)) rfl ?_)
  rintro e w1 ⟨rfl, hk2⟩
  refine ⟨_, rfl, ?_⟩
  have hz3 := hk2.size
  have hB4 := (Lo.refl w).lo hk2
  refine SR.q' (r_as (v := .int .i64 _) rfl) <| SR.nil ?_
  refine W.seq ?_
  refine W.seq ?_
  refine W.regS (SR.q' (r_mv (v := .int .i64 _) rfl) <| SR.q' (r_lt rfl rfl) <| SR.nil ?_)
  refine W.cond_d rfl (fun h5 => ?_) (fun h5 => ?_)
  · refine W.seq ?_
    refine W.regS (SR.q' (r_as (v := .bool true) rfl) <| SR.nil ?_)
    refine W.ret ?_
    refine ret1 rfl (v := .bool _) rfl ?_
    exact ⟨eR rfl, hB4⟩
  · have hq6 := szN_ok h5
    refine W.skip ?_
    refine W.seq ?_
    refine W.regS (SR.q' (r_mv (v := .slice _ _ _) rfl) <| SR.call ent11 (c_laws_toVisitS w1 L (((hL).lo hk2)) (by omega)) rfl ?_)
    rintro e w7 ⟨A9, n10, c11, rfl, hO12, hk8⟩
    refine ⟨_, rfl, ?_⟩
    have hz13 := hk8.size
    have hB14 := hB4.lo hk8
    have hl15 := hO12.len
    have hl16 := hO12.rd.bound
    refine SR.q' (r_mv (v := .int .i64 _) rfl) <| SR.call ent37 (c_spec_SeatedAt w7 L (((hO12).rd)) m) rfl ?_
    rintro e w17 ⟨A19, n20, c21, rfl, hO22, hk18⟩
    refine ⟨_, rfl, ?_⟩
    have hz23 := hk18.size
    have hB24 := hB14.lo hk18
    have hl25 := hO22.len
    have hl26 := hO22.rd.bound
    have hq27 : (satL L m).length ≤ 6 := sat_len L m
    refine SR.q' (r_mv (v := .tuple (List.toArray _)) rfl) <| SR.q' (r_ext (v := .slice _ _ _) rfl rfl) <| SR.q' (r_ext (v := .bool _) rfl rfl) <| SR.q' (r_as (v := .slice _ _ _) rfl) <| SR.q' (r_as (v := .bool _) rfl) <| SR.nil ?_
    refine W.seq ?_
    refine W.regS (SR.q' (r_mv (v := .slice _ _ _) rfl) <| SR.call ent11 (c_laws_toVisitS w17 L (((((hL).lo hk2).lo hk8).lo hk18)) (by omega)) rfl ?_)
    rintro e w28 ⟨A30, n31, c32, rfl, hO33, hk29⟩
    refine ⟨_, rfl, ?_⟩
    have hz34 := hk29.size
    have hB35 := hB24.lo hk29
    have hl36 := hO33.len
    have hl37 := hO33.rd.bound
    refine SR.q' (r_as (v := .slice _ _ _) rfl) <| SR.nil ?_
    refine W.seq ?_
    refine W.regS (SR.q' (r_mv (v := .slice _ _ _) rfl) <| SR.q' (r_mv (v := .int .i64 _) rfl) <| SR.call ent38 (c_impl_SeatedAt w28 L (((hO33).rd)) m) rfl ?_)
    rintro e w38 ⟨A40, n41, c42, rfl, hO43, hk39⟩
    refine ⟨_, rfl, ?_⟩
    have hz44 := hk39.size
    have hB45 := hB35.lo hk39
    have hl46 := hO43.len
    have hl47 := hO43.rd.bound
    have hq48 : (satL L m).length ≤ 6 := sat_len L m
    refine SR.q' (r_mv (v := .tuple (List.toArray _)) rfl) <| SR.q' (r_ext (v := .slice _ _ _) rfl rfl) <| SR.q' (r_ext (v := .bool _) rfl rfl) <| SR.q' (r_as (v := .slice _ _ _) rfl) <| SR.q' (r_as (v := .bool _) rfl) <| SR.nil ?_
    refine W.seq ?_
    refine W.seq ?_
    refine W.regJS (fun f' w' => At f' [(0, .slice AL nL cL), (1, .int .i64 m), (4, .bool false), (6, .slice A19 n20 c21), (7, .bool (decide (VsOK L ∧ 480 ≤ m ∧ m ≤ 1200))), (8, .slice A30 n31 c32), (9, .slice A40 n41 c42), (10, .bool (decide (VsOK L ∧ 480 ≤ m ∧ m ≤ 1200))), (44, .bool (decide (¬ ((satL L m) = (satL L m)))))] ∧ Lo w38 w') ?_ ?_
    · refine SR.q' (r_mv (v := .slice _ _ _) rfl) <| SR.q' (r_mv (v := .slice _ _ _) rfl) <| SR.call ent39 (c_laws_eqIntS w38 (satL L m) (((hO43).rd)) (satL L m) (((((hO22).lo hk29).lo hk39).rd))) rfl ?_
      rintro e w49 ⟨rfl, hk50⟩
      refine ⟨_, rfl, ?_⟩
      have hz51 := hk50.size
      have hB52 := hB45.lo hk50
      refine SR.q' (r_not rfl) <| SR.q' (r_mv (v := .bool _) rfl) <| SR.splitN (fun h53 => ?_) (fun h53 => ?_)
      · refine SR.s' rfl <| SR.s' rfl <| SR.s' rfl <| SR.q' (r_pick true rfl (v := .bool true) rfl) <| SR.nil ?_
        exact ⟨_, rfl, ⟨⟨rfl, rfl, rfl, rfl, rfl, rfl, rfl, rfl, (eDT ((j2f h53).1 trivial)), trivial⟩, (hk50)⟩⟩
      · refine SR.g' rfl (r_mv (v := .bool _) rfl) <| SR.g' rfl (r_mv (v := .bool _) rfl) <| SR.g' rfl (r_neb_s und4 rfl rfl) <| SR.q' (r_pick false rfl (v := .bool _) rfl) <| SR.nil ?_
        exact ⟨_, rfl, ⟨⟨rfl, rfl, rfl, rfl, rfl, rfl, rfl, rfl, (eDF (j2t h53).2), trivial⟩, (hk50)⟩⟩
    rintro f54 w55 ⟨hat56, hk57⟩
    rw [← sets_of_at hat56]
    have hz58 := hk57.size
    have hB59 := hB45.lo hk57
    refine W.cond_d rfl (fun h60 => ?_) (fun h60 => ?_)
    · have hq61 : ¬ ((satL L m) = (satL L m)) := h60
      refine W.seq ?_
      refine W.regS (SR.q' (r_as (v := .bool false) rfl) <| SR.nil ?_)
      refine W.ret ?_
      refine ret1 rfl (v := .bool _) rfl ?_
      exact ⟨eR (eB (z_c_laws_FnExactSeatedAt_62 L nL hbdL hleL m h5 hq6 n10 hl15 hl16 n20 hl25 hl26 hq27 n31 hl36 hl37 n41 hl46 hl47 hq48 h60 hq61)), hB59⟩
    · have hq63 : (satL L m) = (satL L m) := (Classical.not_not.1 h60)
      refine W.skip ?_
      refine W.seq ?_
      refine W.seq ?_
      refine W.regS (SR.q' (r_mv (v := .slice _ _ _) rfl) <| SR.q' (r_mv (v := .slice _ _ _) rfl) <| SR.call ent11 (c_laws_toVisitS w55 L ((((((((hL).lo hk2).lo hk8).lo hk18).lo hk29).lo hk39).lo hk57)) (by omega)) rfl ?_)
      rintro e w64 ⟨A66, n67, c68, rfl, hO69, hk65⟩
      refine ⟨_, rfl, ?_⟩
      have hz70 := hk65.size
      have hB71 := hB59.lo hk65
      have hl72 := hO69.len
      have hl73 := hO69.rd.bound
      refine SR.call ent13 (c_laws_eqVisitS w64 L ((((((hO33).lo hk39).lo hk57).lo hk65).rd)) L (((hO69).rd))) rfl ?_
      rintro e w74 ⟨rfl, hk75⟩
      refine ⟨_, rfl, ?_⟩
      have hz76 := hk75.size
      have hB77 := hB71.lo hk75
      refine SR.q' (r_not rfl) <| SR.nil ?_
      refine W.cond_n rfl (fun h78 => ?_) (fun h78 => ?_)
      · refine W.seq ?_
        refine W.regS (SR.q' (r_as (v := .bool false) rfl) <| SR.nil ?_)
        refine W.ret ?_
        refine ret1 rfl (v := .bool _) rfl ?_
        exact ⟨eR (eB (z_c_laws_FnExactSeatedAt_79 L nL hbdL hleL m h5 hq6 n10 hl15 hl16 n20 hl25 hl26 hq27 n31 hl36 hl37 n41 hl46 hl47 hq48 h60 hq63 n67 hl72 hl73 h78)), hB77⟩
      · refine W.skip ?_
        refine W.seq ?_
        refine W.regS (SR.q' (r_as (v := .int .i64 1) rfl) <| SR.nil ?_)
        refine W.seq ?_
        refine W.regS (SR.q' (r_mv (v := .slice _ _ _) rfl) <| SR.q' (r_mv (v := .int .i64 _) rfl) <| SR.call ent14 (c_laws_markVisitS w74 L (((((hO33).lo hk39).lo hk57).lo hk65).lo hk75) 1 (by omega) (by omega) (by omega)) rfl ?_)
        rintro e w80 ⟨rfl, hO82, hk81⟩
        refine ⟨_, rfl, ?_⟩
        have hz83 := hk81.size
        have hB84 := hB77.step hk81 (fun i_ hi_ e' => by have := ((((((hO33).lo hk39).lo hk57).lo hk65).lo hk75)).base_le e'; first | omega | (exfalso; omega) | exact e' | exact .inl e' | exact .inr e')
        refine SR.q' (r_as (v := .int .i64 _) rfl) <| SR.nil ?_
        refine W.seq ?_
        refine W.seq ?_
        refine W.regJS (fun f' w' => At f' [(0, .slice AL nL cL), (1, .int .i64 m), (4, .bool false), (6, .slice A19 n20 c21), (7, .bool (decide (VsOK L ∧ 480 ≤ m ∧ m ≤ 1200))), (9, .slice A40 n41 c42), (65, .bool (decide (((1 + 4 * (L.length : Int)) < 0) ∨ (¬ ((satL L m) = (satL L m))))))] ∧ Lo w80 w') ?_ ?_
        · refine SR.q' (r_mv (v := .int .i64 _) rfl) <| SR.q' (r_lt rfl rfl) <| SR.q' (r_mv (v := .bool _) rfl) <| SR.splitD (fun h85 => ?_) (fun h85 => ?_)
          · refine SR.s' rfl <| SR.s' rfl <| SR.s' rfl <| SR.s' rfl <| SR.q' (r_pick true rfl (v := .bool true) rfl) <| SR.q' (r_mv (v := .bool _) rfl) <| SR.s' rfl <| SR.s' rfl <| SR.s' rfl <| SR.q' (r_pick true rfl (v := .bool true) rfl) <| SR.nil ?_
            exact ⟨_, rfl, ⟨⟨rfl, rfl, rfl, rfl, rfl, rfl, (eDT ((jot h85).1 trivial)), trivial⟩, (Lo.refl _)⟩⟩
          · refine SR.g' rfl (r_mv (v := .slice _ _ _) rfl) <| SR.g' rfl (r_mv (v := .slice _ _ _) rfl) <| SR.gcall rfl ent39 (c_laws_eqIntS w80 (satL L m) (((((((hO43).lo hk57).lo hk65).lo hk75).kp hk81 (fun b_ hb e' => by have h1 := ((((((hO33).lo hk39).lo hk57).lo hk65).lo hk75)).base_le e'; have h2 := ((((hO43).lo hk57).lo hk65).lo hk75).base_le hb; have h4 := (hO33).base_le e'; omega)).rd)) (satL L m) (((((((((hO22).lo hk29).lo hk39).lo hk57).lo hk65).lo hk75).kp hk81 (fun b_ hb e' => by have h1 := ((((((hO33).lo hk39).lo hk57).lo hk65).lo hk75)).base_le e'; have h2 := ((((((hO22).lo hk29).lo hk39).lo hk57).lo hk65).lo hk75).base_le hb; have h3 := (hO22).base_le hb; omega)).rd))) rfl ?_
            rintro e w86 ⟨rfl, hk87⟩
            refine ⟨_, rfl, ?_⟩
            have hz88 := hk87.size
            have hB89 := hB84.lo hk87
            refine SR.g' rfl (r_not rfl) <| SR.q' (r_pick false rfl (v := .bool _) rfl) <| SR.q' (r_mv (v := .bool _) rfl) <| SR.splitN (fun h90 => ?_) (fun h90 => ?_)
            · refine SR.s' rfl <| SR.s' rfl <| SR.s' rfl <| SR.q' (r_pick true rfl (v := .bool true) rfl) <| SR.nil ?_
              exact ⟨_, rfl, ⟨⟨rfl, rfl, rfl, rfl, rfl, rfl, (eDT (((j2f h90).trans (jof h85)).1 trivial)), trivial⟩, (hk87)⟩⟩
            · refine SR.g' rfl (r_mv (v := .bool _) rfl) <| SR.g' rfl (r_mv (v := .bool _) rfl) <| SR.g' rfl (r_neb_s und4 rfl rfl) <| SR.q' (r_pick false rfl (v := .bool _) rfl) <| SR.nil ?_
              exact ⟨_, rfl, ⟨⟨rfl, rfl, rfl, rfl, rfl, rfl, (eDF ((j2t h90).trans (jof h85)).2), trivial⟩, (hk87)⟩⟩
        rintro f91 w92 ⟨hat93, hk94⟩
        rw [← sets_of_at hat93]
        have hz95 := hk94.size
        have hB96 := hB84.lo hk94
        refine W.cond_d rfl (fun h97 => ?_) (fun h97 => ?_)
        · refine W.seq ?_
          refine W.regS (SR.q' (r_as (v := .bool false) rfl) <| SR.nil ?_)
          refine W.ret ?_
          refine ret1 rfl (v := .bool _) rfl ?_
          exact ⟨eR (eB (z_c_laws_FnExactSeatedAt_98 L nL hbdL hleL m h5 hq6 n10 hl15 hl16 n20 hl25 hl26 hq27 n31 hl36 hl37 n41 hl46 hl47 hq48 h60 hq63 n67 hl72 hl73 h78 h97)), hB96⟩
        · have hq99 : ¬ ((1 + 4 * (L.length : Int)) < 0) := (not_or.1 h97).1
          have hq100 : (satL L m) = (satL L m) := (Classical.not_not.1 (not_or.1 h97).2)
          refine W.skip ?_
          refine W.seq ?_
          refine W.regS (SR.q' (r_as (v := .int .i64 1) rfl) <| SR.nil ?_)
          refine W.seq ?_
          refine W.regS (SR.q' (r_mv (v := .slice _ _ _) rfl) <| SR.q' (r_mv (v := .int .i64 _) rfl) <| SR.call ent40 (c_laws_markIntS w92 (satL L m) ((((((hO43).lo hk57).lo hk65).lo hk75).kp hk81 (fun b_ hb e' => by have h1 := ((((((hO33).lo hk39).lo hk57).lo hk65).lo hk75)).base_le e'; have h2 := ((((hO43).lo hk57).lo hk65).lo hk75).base_le hb; have h4 := (hO33).base_le e'; omega)).lo hk94) 1 (by omega) (by omega) (by omega)) rfl ?_)
          rintro e w101 ⟨rfl, hO103, hk102⟩
          refine ⟨_, rfl, ?_⟩
          have hz104 := hk102.size
          have hB105 := hB96.step hk102 (fun i_ hi_ e' => by have := (((((((hO43).lo hk57).lo hk65).lo hk75).kp hk81 (fun b_ hb e' => by have h1 := ((((((hO33).lo hk39).lo hk57).lo hk65).lo hk75)).base_le e'; have h2 := ((((hO43).lo hk57).lo hk65).lo hk75).base_le hb; have h4 := (hO33).base_le e'; omega)).lo hk94)).base_le e'; first | omega | (exfalso; omega) | exact e' | exact .inl e' | exact .inr e')
          refine SR.q' (r_as (v := .int .i64 _) rfl) <| SR.nil ?_
          refine W.seq ?_
          refine W.regS (SR.q' (r_as (v := .int .i64 1) rfl) <| SR.nil ?_)
          refine W.seq ?_
          refine W.regS (SR.q' (r_mv (v := .slice _ _ _) rfl) <| SR.q' (r_mv (v := .int .i64 _) rfl) <| SR.call ent41 (c_laws_heldIntS w101 (mkL mkInt 1 (satL L m).length 1) (((hO103).rd)) 1 ((satL L m).length) (by omega) (by omega) (by omega) (by first | rfl | assumption)) rfl ?_)
          rintro e w106 ⟨rfl, hk107⟩
          refine ⟨_, rfl, ?_⟩
          have hz108 := hk107.size
          have hB109 := hB105.lo hk107
          refine SR.q' (r_as (v := .int .i64 _) rfl) <| SR.nil ?_
          refine W.seq ?_
          refine W.seq ?_
          refine W.regS (SR.q' (r_mv (v := .int .i64 _) rfl) <| SR.q' (r_lt rfl rfl) <| SR.nil ?_)
          refine W.cond_d rfl (fun h110 => ?_) (fun h110 => ?_)
          · refine W.seq ?_
            refine W.regS (SR.q' (r_as (v := .bool false) rfl) <| SR.nil ?_)
            refine W.ret ?_
            refine ret1 rfl (v := .bool _) rfl ?_
            exact ⟨eR (eB (z_c_laws_FnExactSeatedAt_111 L nL hbdL hleL m h5 hq6 n10 hl15 hl16 n20 hl25 hl26 hq27 n31 hl36 hl37 n41 hl46 hl47 hq48 h60 hq63 n67 hl72 hl73 h78 h97 hq99 hq100 h110)), hB109⟩
          · refine W.skip ?_
            refine W.seq ?_
            refine W.seq ?_
            refine W.regS (SR.q' (r_mv (v := .int .i64 _) rfl) <| SR.q' (r_mv (v := .int .i64 _) rfl) <| SR.q' (r_ne_s rfl rfl) <| SR.nil ?_)
            refine W.cond_f rfl ?_
            refine W.skip ?_
            refine W.seq ?_
            refine W.regS (SR.q' (r_mv (v := .slice _ _ _) rfl) <| SR.call ent11 (c_laws_toVisitS w106 L ((((((((((((((hL).lo hk2).lo hk8).lo hk18).lo hk29).lo hk39).lo hk57).lo hk65).lo hk75).kp hk81 (fun b_ hb e' => by have := ((((((hO33).lo hk39).lo hk57).lo hk65).lo hk75)).base_le e'; omega)).lo hk94).kp hk102 (fun b_ hb e' => by have := (((((((hO43).lo hk57).lo hk65).lo hk75).kp hk81 (fun b_ hb e' => by have h1 := ((((((hO33).lo hk39).lo hk57).lo hk65).lo hk75)).base_le e'; have h2 := ((((hO43).lo hk57).lo hk65).lo hk75).base_le hb; have h4 := (hO33).base_le e'; omega)).lo hk94)).base_le e'; omega)).lo hk107)) (by omega)) rfl ?_)
            rintro e w112 ⟨A114, n115, c116, rfl, hO117, hk113⟩
            refine ⟨_, rfl, ?_⟩
            have hz118 := hk113.size
            have hB119 := hB109.lo hk113
            have hl120 := hO117.len
            have hl121 := hO117.rd.bound
            refine SR.q' (r_mv (v := .int .i64 _) rfl) <| SR.call ent38 (c_impl_SeatedAt w112 L (((hO117).rd)) m) rfl ?_
            rintro e w122 ⟨A124, n125, c126, rfl, hO127, hk123⟩
            refine ⟨_, rfl, ?_⟩
            have hz128 := hk123.size
            have hB129 := hB119.lo hk123
            have hl130 := hO127.len
            have hl131 := hO127.rd.bound
            have hq132 : (satL L m).length ≤ 6 := sat_len L m
            refine SR.q' (r_mv (v := .tuple (List.toArray _)) rfl) <| SR.q' (r_ext (v := .slice _ _ _) rfl rfl) <| SR.q' (r_ext (v := .bool _) rfl rfl) <| SR.q' (r_as (v := .slice _ _ _) rfl) <| SR.q' (r_as (v := .bool _) rfl) <| SR.nil ?_
            refine W.seq ?_
            refine W.seq ?_
            refine W.regJS (fun f' w' => At f' [(4, .bool false), (9, .slice A40 n41 c42), (12, .int .i64 (1 + 1 * ((satL L m).length : Int))), (13, .int .i64 (1 + 1 * ((satL L m).length : Int))), (92, .bool (decide (¬ ((satL L m) = (satL L m)))))] ∧ Lo w122 w') ?_ ?_
            · refine SR.q' (r_mv (v := .slice _ _ _) rfl) <| SR.q' (r_mv (v := .slice _ _ _) rfl) <| SR.call ent39 (c_laws_eqIntS w122 (satL L m) (((hO127).rd)) (satL L m) ((((((((((((((hO22).lo hk29).lo hk39).lo hk57).lo hk65).lo hk75).kp hk81 (fun b_ hb e' => by have h1 := ((((((hO33).lo hk39).lo hk57).lo hk65).lo hk75)).base_le e'; have h2 := ((((((hO22).lo hk29).lo hk39).lo hk57).lo hk65).lo hk75).base_le hb; have h3 := (hO22).base_le hb; omega)).lo hk94).kp hk102 (fun b_ hb e' => by have h1 := (((((((hO43).lo hk57).lo hk65).lo hk75).kp hk81 (fun b_ hb e' => by have h1 := ((((((hO33).lo hk39).lo hk57).lo hk65).lo hk75)).base_le e'; have h2 := ((((hO43).lo hk57).lo hk65).lo hk75).base_le hb; have h4 := (hO33).base_le e'; omega)).lo hk94)).base_le e'; have h2 := ((((((((hO22).lo hk29).lo hk39).lo hk57).lo hk65).lo hk75).kp hk81 (fun b_ hb e' => by have h1 := ((((((hO33).lo hk39).lo hk57).lo hk65).lo hk75)).base_le e'; have h2 := ((((((hO22).lo hk29).lo hk39).lo hk57).lo hk65).lo hk75).base_le hb; have h3 := (hO22).base_le hb; omega)).lo hk94).base_le hb; have h3 := ((hO22).lo hk29).base_le hb; omega)).lo hk107).lo hk113).lo hk123).rd))) rfl ?_
              rintro e w133 ⟨rfl, hk134⟩
              refine ⟨_, rfl, ?_⟩
              have hz135 := hk134.size
              have hB136 := hB129.lo hk134
              refine SR.q' (r_not rfl) <| SR.q' (r_mv (v := .bool _) rfl) <| SR.splitN (fun h137 => ?_) (fun h137 => ?_)
              · refine SR.s' rfl <| SR.s' rfl <| SR.s' rfl <| SR.q' (r_pick true rfl (v := .bool true) rfl) <| SR.nil ?_
                exact ⟨_, rfl, ⟨⟨rfl, rfl, rfl, rfl, (eDT ((j2f h137).1 trivial)), trivial⟩, (hk134)⟩⟩
              · refine SR.g' rfl (r_mv (v := .bool _) rfl) <| SR.g' rfl (r_mv (v := .bool _) rfl) <| SR.g' rfl (r_neb_s und4 rfl rfl) <| SR.q' (r_pick false rfl (v := .bool _) rfl) <| SR.nil ?_
                exact ⟨_, rfl, ⟨⟨rfl, rfl, rfl, rfl, (eDF (j2t h137).2), trivial⟩, (hk134)⟩⟩
            rintro f138 w139 ⟨hat140, hk141⟩
            rw [← sets_of_at hat140]
            have hz142 := hk141.size
            have hB143 := hB129.lo hk141
            refine W.cond_f (congrArg Value.bool (decide_eq_false h60)) ?_
            refine W.skip ?_
            refine W.seq ?_
            refine W.regS (SR.q' (r_as (v := .int .i64 1) rfl) <| SR.nil ?_)
            refine W.seq ?_
            refine W.regS (SR.q' (r_mv (v := .slice _ _ _) rfl) <| SR.q' (r_mv (v := .int .i64 _) rfl) <| SR.call ent41 (c_laws_heldIntS w139 (mkL mkInt 1 (satL L m).length 1) (((((((hO103).lo hk107).lo hk113).lo hk123).lo hk141).rd)) 1 ((satL L m).length) (by omega) (by omega) (by omega) (by first | rfl | assumption)) rfl ?_)
            rintro e w144 ⟨rfl, hk145⟩
            refine ⟨_, rfl, ?_⟩
            have hz146 := hk145.size
            have hB147 := hB143.lo hk145
            refine SR.q' (r_as (v := .int .i64 _) rfl) <| SR.nil ?_
            refine W.seq ?_
            refine W.seq ?_
            refine W.regS (SR.q' (r_mv (v := .int .i64 _) rfl) <| SR.q' (r_lt rfl rfl) <| SR.nil ?_)
            refine W.cond_f (congrArg Value.bool (decide_eq_false h110)) ?_
            refine W.skip ?_
            refine W.seq ?_
            refine W.seq ?_
            refine W.regS (SR.q' (r_mv (v := .int .i64 _) rfl) <| SR.q' (r_mv (v := .int .i64 _) rfl) <| SR.q' (r_ne_s rfl rfl) <| SR.nil ?_)
            refine W.cond_f rfl ?_
            refine W.skip ?_
            refine W.seq ?_
            refine W.regS (SR.q' (r_as (v := .bool true) rfl) <| SR.nil ?_)
            refine W.ret ?_
            refine ret1 rfl (v := .bool _) rfl ?_
            exact ⟨eR rfl, hB147⟩
end Go.Proofs.Ytobbccbdgedajaa
