/- Walks, printed by a program of this claim's author. -/
import Derived.Test.YtobbccbdgedajaaChecked
import Derived.Test.YtobbccbdgedajaaRa
import Derived.Test.YtobbccbdgedajaaG30b
namespace Go.Proofs.Ytobbccbdgedajaa
open Go Go.RowKit Fw
set_option maxRecDepth 10000
set_option linter.unusedVariables false
theorem ent10 : Ent Try.prog 10 := ent_of Try.func10 (by decide +kernel) rfl
theorem ent11 : Ent Try.prog 11 := ent_of Try.func11 (by decide +kernel) rfl
theorem ent12 : Ent Try.prog 12 := ent_of Try.func12 (by decide +kernel) rfl
theorem ent13 : Ent Try.prog 13 := ent_of Try.func13 (by decide +kernel) rfl
theorem ent14 : Ent Try.prog 14 := ent_of Try.func14 (by decide +kernel) rfl
theorem ent15 : Ent Try.prog 15 := ent_of Try.func15 (by decide +kernel) rfl
theorem ent9 : Ent Try.prog 9 := ent_of Try.func9 (by decide +kernel) rfl
theorem und4 : Try.prog.underlying 4 = some (.bool) := by kernel_rfl

theorem z_c_laws_FnExactChangeSeat_54 (L : List Visit) (nL : Nat) (hbdL : (nL : Int) ≤ 9223372036854775807) (hleL : nL = L.length) (r : Int) (m : Int) (s : Int) (h5 : ¬ ((szN L.length 1048576) < 0)) (hq6 : ((L.length : Nat) : Int) ≤ 1048576 ∧ szN L.length 1048576 = 1048576 - (L.length : Int)) (n10 : Nat) (hl15 : n10 = (L).length) (hl16 : (n10 : Int) ≤ 9223372036854775807) (n20 : Nat) (hl25 : n20 = ((chg L r m s).getD []).length) (hl26 : (n20 : Int) ≤ 9223372036854775807) (hq27 : ((chg L r m s).getD []).length ≤ 15) (n31 : Nat) (hl36 : n31 = (L).length) (hl37 : (n31 : Int) ≤ 9223372036854775807) (n41 : Nat) (hl46 : n41 = ((chg L r m s).getD []).length) (hl47 : (n41 : Int) ≤ 9223372036854775807) (hq48 : ((chg L r m s).getD []).length ≤ 15) (h53 : ¬ (((chg L r m s).getD []) = ((chg L r m s).getD []))) : false = true := by
  first | (simp_all; done) | omega
theorem z_c_laws_FnExactChangeSeat_70 (L : List Visit) (nL : Nat) (hbdL : (nL : Int) ≤ 9223372036854775807) (hleL : nL = L.length) (r : Int) (m : Int) (s : Int) (h5 : ¬ ((szN L.length 1048576) < 0)) (hq6 : ((L.length : Nat) : Int) ≤ 1048576 ∧ szN L.length 1048576 = 1048576 - (L.length : Int)) (n10 : Nat) (hl15 : n10 = (L).length) (hl16 : (n10 : Int) ≤ 9223372036854775807) (n20 : Nat) (hl25 : n20 = ((chg L r m s).getD []).length) (hl26 : (n20 : Int) ≤ 9223372036854775807) (hq27 : ((chg L r m s).getD []).length ≤ 15) (n31 : Nat) (hl36 : n31 = (L).length) (hl37 : (n31 : Int) ≤ 9223372036854775807) (n41 : Nat) (hl46 : n41 = ((chg L r m s).getD []).length) (hl47 : (n41 : Int) ≤ 9223372036854775807) (hq48 : ((chg L r m s).getD []).length ≤ 15) (h53 : ((chg L r m s).getD []) = ((chg L r m s).getD [])) (n58 : Nat) (hl63 : n58 = (L).length) (hl64 : (n58 : Int) ≤ 9223372036854775807) (h69 : ¬ (L = L)) : false = true := by
  first | (simp_all; done) | omega
theorem z_c_laws_FnExactChangeSeat_77 (L : List Visit) (nL : Nat) (hbdL : (nL : Int) ≤ 9223372036854775807) (hleL : nL = L.length) (r : Int) (m : Int) (s : Int) (h5 : ¬ ((szN L.length 1048576) < 0)) (hq6 : ((L.length : Nat) : Int) ≤ 1048576 ∧ szN L.length 1048576 = 1048576 - (L.length : Int)) (n10 : Nat) (hl15 : n10 = (L).length) (hl16 : (n10 : Int) ≤ 9223372036854775807) (n20 : Nat) (hl25 : n20 = ((chg L r m s).getD []).length) (hl26 : (n20 : Int) ≤ 9223372036854775807) (hq27 : ((chg L r m s).getD []).length ≤ 15) (n31 : Nat) (hl36 : n31 = (L).length) (hl37 : (n31 : Int) ≤ 9223372036854775807) (n41 : Nat) (hl46 : n41 = ((chg L r m s).getD []).length) (hl47 : (n41 : Int) ≤ 9223372036854775807) (hq48 : ((chg L r m s).getD []).length ≤ 15) (h53 : ((chg L r m s).getD []) = ((chg L r m s).getD [])) (n58 : Nat) (hl63 : n58 = (L).length) (hl64 : (n58 : Int) ≤ 9223372036854775807) (h69 : L = L) (h76 : (1 + 4 * (L.length : Int)) < 0) : false = true := by
  first | (simp_all; done) | omega
theorem z_c_laws_FnExactChangeSeat_83 (L : List Visit) (nL : Nat) (hbdL : (nL : Int) ≤ 9223372036854775807) (hleL : nL = L.length) (r : Int) (m : Int) (s : Int) (h5 : ¬ ((szN L.length 1048576) < 0)) (hq6 : ((L.length : Nat) : Int) ≤ 1048576 ∧ szN L.length 1048576 = 1048576 - (L.length : Int)) (n10 : Nat) (hl15 : n10 = (L).length) (hl16 : (n10 : Int) ≤ 9223372036854775807) (n20 : Nat) (hl25 : n20 = ((chg L r m s).getD []).length) (hl26 : (n20 : Int) ≤ 9223372036854775807) (hq27 : ((chg L r m s).getD []).length ≤ 15) (n31 : Nat) (hl36 : n31 = (L).length) (hl37 : (n31 : Int) ≤ 9223372036854775807) (n41 : Nat) (hl46 : n41 = ((chg L r m s).getD []).length) (hl47 : (n41 : Int) ≤ 9223372036854775807) (hq48 : ((chg L r m s).getD []).length ≤ 15) (h53 : ((chg L r m s).getD []) = ((chg L r m s).getD [])) (n58 : Nat) (hl63 : n58 = (L).length) (hl64 : (n58 : Int) ≤ 9223372036854775807) (h69 : L = L) (h76 : ¬ ((1 + 4 * (L.length : Int)) < 0)) (h82 : ¬ (((chg L r m s).getD []) = ((chg L r m s).getD []))) : false = true := by
  first | (simp_all; done) | omega
theorem z_c_laws_FnExactChangeSeat_94 (L : List Visit) (nL : Nat) (hbdL : (nL : Int) ≤ 9223372036854775807) (hleL : nL = L.length) (r : Int) (m : Int) (s : Int) (h5 : ¬ ((szN L.length 1048576) < 0)) (hq6 : ((L.length : Nat) : Int) ≤ 1048576 ∧ szN L.length 1048576 = 1048576 - (L.length : Int)) (n10 : Nat) (hl15 : n10 = (L).length) (hl16 : (n10 : Int) ≤ 9223372036854775807) (n20 : Nat) (hl25 : n20 = ((chg L r m s).getD []).length) (hl26 : (n20 : Int) ≤ 9223372036854775807) (hq27 : ((chg L r m s).getD []).length ≤ 15) (n31 : Nat) (hl36 : n31 = (L).length) (hl37 : (n31 : Int) ≤ 9223372036854775807) (n41 : Nat) (hl46 : n41 = ((chg L r m s).getD []).length) (hl47 : (n41 : Int) ≤ 9223372036854775807) (hq48 : ((chg L r m s).getD []).length ≤ 15) (h53 : ((chg L r m s).getD []) = ((chg L r m s).getD [])) (n58 : Nat) (hl63 : n58 = (L).length) (hl64 : (n58 : Int) ≤ 9223372036854775807) (h69 : L = L) (h76 : ¬ ((1 + 4 * (L.length : Int)) < 0)) (h82 : ((chg L r m s).getD []) = ((chg L r m s).getD [])) (h93 : (1 + 4 * (((chg L r m s).getD []).length : Int)) < 0) : false = true := by
  first | (simp_all; done) | omega
theorem z_c_laws_FnExactChangeSeat_121 (L : List Visit) (nL : Nat) (hbdL : (nL : Int) ≤ 9223372036854775807) (hleL : nL = L.length) (r : Int) (m : Int) (s : Int) (h5 : ¬ ((szN L.length 1048576) < 0)) (hq6 : ((L.length : Nat) : Int) ≤ 1048576 ∧ szN L.length 1048576 = 1048576 - (L.length : Int)) (n10 : Nat) (hl15 : n10 = (L).length) (hl16 : (n10 : Int) ≤ 9223372036854775807) (n20 : Nat) (hl25 : n20 = ((chg L r m s).getD []).length) (hl26 : (n20 : Int) ≤ 9223372036854775807) (hq27 : ((chg L r m s).getD []).length ≤ 15) (n31 : Nat) (hl36 : n31 = (L).length) (hl37 : (n31 : Int) ≤ 9223372036854775807) (n41 : Nat) (hl46 : n41 = ((chg L r m s).getD []).length) (hl47 : (n41 : Int) ≤ 9223372036854775807) (hq48 : ((chg L r m s).getD []).length ≤ 15) (h53 : ((chg L r m s).getD []) = ((chg L r m s).getD [])) (n58 : Nat) (hl63 : n58 = (L).length) (hl64 : (n58 : Int) ≤ 9223372036854775807) (h69 : L = L) (h76 : ¬ ((1 + 4 * (L.length : Int)) < 0)) (h82 : ((chg L r m s).getD []) = ((chg L r m s).getD [])) (h93 : ¬ ((1 + 4 * (((chg L r m s).getD []).length : Int)) < 0)) (n98 : Nat) (hl103 : n98 = (L).length) (hl104 : (n98 : Int) ≤ 9223372036854775807) (n108 : Nat) (hl113 : n108 = ((chg L r m s).getD []).length) (hl114 : (n108 : Int) ≤ 9223372036854775807) (hq115 : ((chg L r m s).getD []).length ≤ 15) (h120 : ¬ (((chg L r m s).getD []) = ((chg L r m s).getD []))) : false = true := by
  first | (simp_all; done) | omega
theorem z_c_laws_FnExactChangeSeat_127 (L : List Visit) (nL : Nat) (hbdL : (nL : Int) ≤ 9223372036854775807) (hleL : nL = L.length) (r : Int) (m : Int) (s : Int) (h5 : ¬ ((szN L.length 1048576) < 0)) (hq6 : ((L.length : Nat) : Int) ≤ 1048576 ∧ szN L.length 1048576 = 1048576 - (L.length : Int)) (n10 : Nat) (hl15 : n10 = (L).length) (hl16 : (n10 : Int) ≤ 9223372036854775807) (n20 : Nat) (hl25 : n20 = ((chg L r m s).getD []).length) (hl26 : (n20 : Int) ≤ 9223372036854775807) (hq27 : ((chg L r m s).getD []).length ≤ 15) (n31 : Nat) (hl36 : n31 = (L).length) (hl37 : (n31 : Int) ≤ 9223372036854775807) (n41 : Nat) (hl46 : n41 = ((chg L r m s).getD []).length) (hl47 : (n41 : Int) ≤ 9223372036854775807) (hq48 : ((chg L r m s).getD []).length ≤ 15) (h53 : ((chg L r m s).getD []) = ((chg L r m s).getD [])) (n58 : Nat) (hl63 : n58 = (L).length) (hl64 : (n58 : Int) ≤ 9223372036854775807) (h69 : L = L) (h76 : ¬ ((1 + 4 * (L.length : Int)) < 0)) (h82 : ((chg L r m s).getD []) = ((chg L r m s).getD [])) (h93 : ¬ ((1 + 4 * (((chg L r m s).getD []).length : Int)) < 0)) (n98 : Nat) (hl103 : n98 = (L).length) (hl104 : (n98 : Int) ≤ 9223372036854775807) (n108 : Nat) (hl113 : n108 = ((chg L r m s).getD []).length) (hl114 : (n108 : Int) ≤ 9223372036854775807) (hq115 : ((chg L r m s).getD []).length ≤ 15) (h120 : ((chg L r m s).getD []) = ((chg L r m s).getD [])) (h126 : (1 + 4 * (((chg L r m s).getD []).length : Int)) < 0) : false = true := by
  first | (simp_all; done) | omega
theorem c_laws_FnExactChangeSeat (w : World) {AL : Option Addr} {nL cL BL : Nat}  (L : List Visit) (hL : SlR w BL encVisit 4 AL nL cL L) (r : Int) (m : Int) (s : Int) : Calls Try.prog 3 #[.slice AL nL cL, .int .i64 r, .int .i64 m, .int .i64 s] w fun e w' => e = .returned (.bool true) ∧ Lo w w' := by
  refine calls_W 111 Try.func3 rfl rfl rfl ?_
  have hbdL := hL.bound
  have hleL := hL.len
  have hBbL := hL.bd
  refine W.seq ?_
  refine W.regS (SR.q' (r_as (v := .bool false) rfl) <| SR.nil ?_)
  refine W.seq ?_
  refine W.regS (SR.q' (r_as (v := .int .i64 1048576) rfl) <| SR.nil ?_)
  refine W.seq ?_
  refine W.regS (SR.q' (r_mv (v := .slice _ _ _) rfl) <| SR.q' (r_mv (v := .int .i64 _) rfl) <| SR.call ent9 (c_laws_szVisitS w L ((hL)) 1048576 (by omega) (by omega)) rfl ?_)
  rintro e w1 ⟨rfl, hk2⟩
  refine ⟨_, rfl, ?_⟩
  have hz3 := hk2.size
  have hB4 := (Lo.refl w).lo hk2
  refine SR.q' (r_as (v := .int .i64 _) rfl) <| SR.nil ?_
  refine W.seq ?_
  refine W.seq ?_
  refine W.regS (SR.q' (r_mv (v := .int .i64 _) rfl) <| SR.q' (r_lt rfl rfl) <| SR.nil ?_)
  refine W.cond_d rfl (fun h5 => ?_) (fun h5 => ?_)
  · refine W.seq ?_
    refine W.regS (SR.q' (r_as (v := .bool true) rfl) <| SR.nil ?_)
    refine W.ret ?_
    refine ret1 rfl (v := .bool _) rfl ?_
    exact ⟨eR rfl, hB4⟩
  · have hq6 := szN_ok h5
    refine W.skip ?_
    refine W.seq ?_
    refine W.regS (SR.q' (r_mv (v := .slice _ _ _) rfl) <| SR.call ent11 (c_laws_toVisitS w1 L (((hL).lo hk2)) (by omega)) rfl ?_)
    rintro e w7 ⟨A9, n10, c11, rfl, hO12, hk8⟩
    refine ⟨_, rfl, ?_⟩
    have hz13 := hk8.size
    have hB14 := hB4.lo hk8
    have hl15 := hO12.len
    have hl16 := hO12.rd.bound
    refine SR.q' (r_mv (v := .int .i64 _) rfl) <| SR.q' (r_mv (v := .int .i64 _) rfl) <| SR.q' (r_mv (v := .int .i64 _) rfl) <| SR.call ent10 (c_spec_ChangeSeat w7 L (((hO12).rd)) r m s) rfl ?_
    rintro e w17 ⟨A19, n20, c21, rfl, hO22, hk18⟩
    refine ⟨_, rfl, ?_⟩
    have hz23 := hk18.size
    have hB24 := hB14.lo hk18
    have hl25 := hO22.len
    have hl26 := hO22.rd.bound
    have hq27 := chg_len L r m s
    refine SR.q' (r_mv (v := .tuple (List.toArray _)) rfl) <| SR.q' (r_ext (v := .slice _ _ _) rfl rfl) <| SR.q' (r_ext (v := .bool _) rfl rfl) <| SR.q' (r_as (v := .slice _ _ _) rfl) <| SR.q' (r_as (v := .bool _) rfl) <| SR.nil ?_
    refine W.seq ?_
    refine W.regS (SR.q' (r_mv (v := .slice _ _ _) rfl) <| SR.call ent11 (c_laws_toVisitS w17 L (((((hL).lo hk2).lo hk8).lo hk18)) (by omega)) rfl ?_)
    rintro e w28 ⟨A30, n31, c32, rfl, hO33, hk29⟩
    refine ⟨_, rfl, ?_⟩
    have hz34 := hk29.size
    have hB35 := hB24.lo hk29
    have hl36 := hO33.len
    have hl37 := hO33.rd.bound
    refine SR.q' (r_as (v := .slice _ _ _) rfl) <| SR.nil ?_
    refine W.seq ?_
    refine W.regS (SR.q' (r_mv (v := .slice _ _ _) rfl) <| SR.q' (r_mv (v := .int .i64 _) rfl) <| SR.q' (r_mv (v := .int .i64 _) rfl) <| SR.q' (r_mv (v := .int .i64 _) rfl) <| SR.call ent12 (c_impl_ChangeSeat w28 L (((hO33).rd)) r m s) rfl ?_)
    rintro e w38 ⟨A40, n41, c42, rfl, hO43, hk39⟩
    refine ⟨_, rfl, ?_⟩
    have hz44 := hk39.size
    have hB45 := hB35.lo hk39
    have hl46 := hO43.len
    have hl47 := hO43.rd.bound
    have hq48 := chg_len L r m s
    refine SR.q' (r_mv (v := .tuple (List.toArray _)) rfl) <| SR.q' (r_ext (v := .slice _ _ _) rfl rfl) <| SR.q' (r_ext (v := .bool _) rfl rfl) <| SR.q' (r_as (v := .slice _ _ _) rfl) <| SR.q' (r_as (v := .bool _) rfl) <| SR.nil ?_
    refine W.seq ?_
    refine W.seq ?_
    refine W.regS (SR.q' (r_mv (v := .slice _ _ _) rfl) <| SR.q' (r_mv (v := .slice _ _ _) rfl) <| SR.call ent13 (c_laws_eqVisitS w38 ((chg L r m s).getD []) (((hO43).rd)) ((chg L r m s).getD []) (((((hO22).lo hk29).lo hk39).rd))) rfl ?_)
    rintro e w49 ⟨rfl, hk50⟩
    refine ⟨_, rfl, ?_⟩
    have hz51 := hk50.size
    have hB52 := hB45.lo hk50
    refine SR.q' (r_not rfl) <| SR.q' (r_mv (v := .bool _) rfl) <| SR.splitN (fun h53 => ?_) (fun h53 => ?_)
    · refine SR.s' rfl <| SR.s' rfl <| SR.s' rfl <| SR.q' (r_pick true rfl (v := .bool true) rfl) <| SR.nil ?_
      refine W.cond_t rfl ?_
      refine W.seq ?_
      refine W.regS (SR.q' (r_as (v := .bool false) rfl) <| SR.nil ?_)
      refine W.ret ?_
      refine ret1 rfl (v := .bool _) rfl ?_
      exact ⟨eR (eB (z_c_laws_FnExactChangeSeat_54 L nL hbdL hleL r m s h5 hq6 n10 hl15 hl16 n20 hl25 hl26 hq27 n31 hl36 hl37 n41 hl46 hl47 hq48 h53)), hB52⟩
    · refine SR.g' rfl (r_mv (v := .bool _) rfl) <| SR.g' rfl (r_mv (v := .bool _) rfl) <| SR.g' rfl (r_neb_s und4 rfl rfl) <| SR.q' (r_pick false rfl (v := .bool _) rfl) <| SR.nil ?_
      refine W.cond_f rfl ?_
      refine W.skip ?_
      refine W.seq ?_
      refine W.seq ?_
      refine W.regS (SR.q' (r_mv (v := .slice _ _ _) rfl) <| SR.q' (r_mv (v := .slice _ _ _) rfl) <| SR.call ent11 (c_laws_toVisitS w49 L ((((((((hL).lo hk2).lo hk8).lo hk18).lo hk29).lo hk39).lo hk50)) (by omega)) rfl ?_)
      rintro e w55 ⟨A57, n58, c59, rfl, hO60, hk56⟩
      refine ⟨_, rfl, ?_⟩
      have hz61 := hk56.size
      have hB62 := hB52.lo hk56
      have hl63 := hO60.len
      have hl64 := hO60.rd.bound
      refine SR.call ent13 (c_laws_eqVisitS w55 L ((((((hO33).lo hk39).lo hk50).lo hk56).rd)) L (((hO60).rd))) rfl ?_
      rintro e w65 ⟨rfl, hk66⟩
      refine ⟨_, rfl, ?_⟩
      have hz67 := hk66.size
      have hB68 := hB62.lo hk66
      refine SR.q' (r_not rfl) <| SR.nil ?_
      refine W.cond_n rfl (fun h69 => ?_) (fun h69 => ?_)
      · refine W.seq ?_
        refine W.regS (SR.q' (r_as (v := .bool false) rfl) <| SR.nil ?_)
        refine W.ret ?_
        refine ret1 rfl (v := .bool _) rfl ?_
        exact ⟨eR (eB (z_c_laws_FnExactChangeSeat_70 L nL hbdL hleL r m s h5 hq6 n10 hl15 hl16 n20 hl25 hl26 hq27 n31 hl36 hl37 n41 hl46 hl47 hq48 h53 n58 hl63 hl64 h69)), hB68⟩
      · refine W.skip ?_
        refine W.seq ?_
        refine W.regS (SR.q' (r_as (v := .int .i64 1) rfl) <| SR.nil ?_)
        refine W.seq ?_
        refine W.regS (SR.q' (r_mv (v := .slice _ _ _) rfl) <| SR.q' (r_mv (v := .int .i64 _) rfl) <| SR.call ent14 (c_laws_markVisitS w65 L (((((hO33).lo hk39).lo hk50).lo hk56).lo hk66) 1 (by omega) (by omega) (by omega)) rfl ?_)
        rintro e w71 ⟨rfl, hO73, hk72⟩
        refine ⟨_, rfl, ?_⟩
        have hz74 := hk72.size
        have hB75 := hB68.step hk72 (fun i_ hi_ e' => by have := ((((((hO33).lo hk39).lo hk50).lo hk56).lo hk66)).base_le e'; first | omega | (exfalso; omega) | exact e' | exact .inl e' | exact .inr e')
        refine SR.q' (r_as (v := .int .i64 _) rfl) <| SR.nil ?_
        refine W.seq ?_
        refine W.seq ?_
        refine W.regS (SR.q' (r_mv (v := .int .i64 _) rfl) <| SR.q' (r_lt rfl rfl) <| SR.q' (r_mv (v := .bool _) rfl) <| SR.splitD (fun h76 => ?_) (fun h76 => ?_))
        · refine SR.s' rfl <| SR.s' rfl <| SR.s' rfl <| SR.s' rfl <| SR.q' (r_pick true rfl (v := .bool true) rfl) <| SR.q' (r_mv (v := .bool _) rfl) <| SR.s' rfl <| SR.s' rfl <| SR.s' rfl <| SR.q' (r_pick true rfl (v := .bool true) rfl) <| SR.nil ?_
          refine W.cond_t rfl ?_
          refine W.seq ?_
          refine W.regS (SR.q' (r_as (v := .bool false) rfl) <| SR.nil ?_)
          refine W.ret ?_
          refine ret1 rfl (v := .bool _) rfl ?_
          exact ⟨eR (eB (z_c_laws_FnExactChangeSeat_77 L nL hbdL hleL r m s h5 hq6 n10 hl15 hl16 n20 hl25 hl26 hq27 n31 hl36 hl37 n41 hl46 hl47 hq48 h53 n58 hl63 hl64 h69 h76)), hB75⟩
        · refine SR.g' rfl (r_mv (v := .slice _ _ _) rfl) <| SR.g' rfl (r_mv (v := .slice _ _ _) rfl) <| SR.gcall rfl ent13 (c_laws_eqVisitS w71 ((chg L r m s).getD []) (((((((hO43).lo hk50).lo hk56).lo hk66).kp hk72 (fun b_ hb e' => by have h1 := ((((((hO33).lo hk39).lo hk50).lo hk56).lo hk66)).base_le e'; have h2 := ((((hO43).lo hk50).lo hk56).lo hk66).base_le hb; have h4 := (hO33).base_le e'; omega)).rd)) ((chg L r m s).getD []) (((((((((hO22).lo hk29).lo hk39).lo hk50).lo hk56).lo hk66).kp hk72 (fun b_ hb e' => by have h1 := ((((((hO33).lo hk39).lo hk50).lo hk56).lo hk66)).base_le e'; have h2 := ((((((hO22).lo hk29).lo hk39).lo hk50).lo hk56).lo hk66).base_le hb; have h3 := (hO22).base_le hb; omega)).rd))) rfl ?_
          rintro e w78 ⟨rfl, hk79⟩
          refine ⟨_, rfl, ?_⟩
          have hz80 := hk79.size
          have hB81 := hB75.lo hk79
          refine SR.g' rfl (r_not rfl) <| SR.q' (r_pick false rfl (v := .bool _) rfl) <| SR.q' (r_mv (v := .bool _) rfl) <| SR.splitN (fun h82 => ?_) (fun h82 => ?_)
          · refine SR.s' rfl <| SR.s' rfl <| SR.s' rfl <| SR.q' (r_pick true rfl (v := .bool true) rfl) <| SR.nil ?_
            refine W.cond_t rfl ?_
            refine W.seq ?_
            refine W.regS (SR.q' (r_as (v := .bool false) rfl) <| SR.nil ?_)
            refine W.ret ?_
            refine ret1 rfl (v := .bool _) rfl ?_
            exact ⟨eR (eB (z_c_laws_FnExactChangeSeat_83 L nL hbdL hleL r m s h5 hq6 n10 hl15 hl16 n20 hl25 hl26 hq27 n31 hl36 hl37 n41 hl46 hl47 hq48 h53 n58 hl63 hl64 h69 h76 h82)), hB81⟩
          · refine SR.g' rfl (r_mv (v := .bool _) rfl) <| SR.g' rfl (r_mv (v := .bool _) rfl) <| SR.g' rfl (r_neb_s und4 rfl rfl) <| SR.q' (r_pick false rfl (v := .bool _) rfl) <| SR.nil ?_
            refine W.cond_f rfl ?_
            refine W.skip ?_
            refine W.seq ?_
            refine W.regS (SR.q' (r_as (v := .int .i64 1) rfl) <| SR.nil ?_)
            refine W.seq ?_
            refine W.regS (SR.q' (r_mv (v := .slice _ _ _) rfl) <| SR.q' (r_mv (v := .int .i64 _) rfl) <| SR.call ent14 (c_laws_markVisitS w78 ((chg L r m s).getD []) ((((((hO43).lo hk50).lo hk56).lo hk66).kp hk72 (fun b_ hb e' => by have h1 := ((((((hO33).lo hk39).lo hk50).lo hk56).lo hk66)).base_le e'; have h2 := ((((hO43).lo hk50).lo hk56).lo hk66).base_le hb; have h4 := (hO33).base_le e'; omega)).lo hk79) 1 (by omega) (by omega) (by omega)) rfl ?_)
            rintro e w84 ⟨rfl, hO86, hk85⟩
            refine ⟨_, rfl, ?_⟩
            have hz87 := hk85.size
            have hB88 := hB81.step hk85 (fun i_ hi_ e' => by have := (((((((hO43).lo hk50).lo hk56).lo hk66).kp hk72 (fun b_ hb e' => by have h1 := ((((((hO33).lo hk39).lo hk50).lo hk56).lo hk66)).base_le e'; have h2 := ((((hO43).lo hk50).lo hk56).lo hk66).base_le hb; have h4 := (hO33).base_le e'; omega)).lo hk79)).base_le e'; first | omega | (exfalso; omega) | exact e' | exact .inl e' | exact .inr e')
            refine SR.q' (r_as (v := .int .i64 _) rfl) <| SR.nil ?_
            refine W.seq ?_
            refine W.regS (SR.q' (r_as (v := .int .i64 1) rfl) <| SR.nil ?_)
            refine W.seq ?_
            refine W.regS (SR.q' (r_mv (v := .slice _ _ _) rfl) <| SR.q' (r_mv (v := .int .i64 _) rfl) <| SR.call ent15 (c_laws_heldVisitS w84 (mkL mkVisit 4 ((chg L r m s).getD []).length 1) (((hO86).rd)) 1 (((chg L r m s).getD []).length) (by omega) (by omega) (by omega) (by rfl)) rfl ?_)
            rintro e w89 ⟨rfl, hk90⟩
            refine ⟨_, rfl, ?_⟩
            have hz91 := hk90.size
            have hB92 := hB88.lo hk90
            refine SR.q' (r_as (v := .int .i64 _) rfl) <| SR.nil ?_
            refine W.seq ?_
            refine W.seq ?_
            refine W.regS (SR.q' (r_mv (v := .int .i64 _) rfl) <| SR.q' (r_lt rfl rfl) <| SR.nil ?_)
            refine W.cond_d rfl (fun h93 => ?_) (fun h93 => ?_)
            · refine W.seq ?_
              refine W.regS (SR.q' (r_as (v := .bool false) rfl) <| SR.nil ?_)
              refine W.ret ?_
              refine ret1 rfl (v := .bool _) rfl ?_
              exact ⟨eR (eB (z_c_laws_FnExactChangeSeat_94 L nL hbdL hleL r m s h5 hq6 n10 hl15 hl16 n20 hl25 hl26 hq27 n31 hl36 hl37 n41 hl46 hl47 hq48 h53 n58 hl63 hl64 h69 h76 h82 h93)), hB92⟩
            · refine W.skip ?_
              refine W.seq ?_
              refine W.seq ?_
              refine W.regS (SR.q' (r_mv (v := .int .i64 _) rfl) <| SR.q' (r_mv (v := .int .i64 _) rfl) <| SR.q' (r_ne_s rfl rfl) <| SR.nil ?_)
              refine W.cond_f rfl ?_
              refine W.skip ?_
              refine W.seq ?_
              refine W.regS (SR.q' (r_mv (v := .slice _ _ _) rfl) <| SR.call ent11 (c_laws_toVisitS w89 L ((((((((((((((hL).lo hk2).lo hk8).lo hk18).lo hk29).lo hk39).lo hk50).lo hk56).lo hk66).kp hk72 (fun b_ hb e' => by have := ((((((hO33).lo hk39).lo hk50).lo hk56).lo hk66)).base_le e'; omega)).lo hk79).kp hk85 (fun b_ hb e' => by have := (((((((hO43).lo hk50).lo hk56).lo hk66).kp hk72 (fun b_ hb e' => by have h1 := ((((((hO33).lo hk39).lo hk50).lo hk56).lo hk66)).base_le e'; have h2 := ((((hO43).lo hk50).lo hk56).lo hk66).base_le hb; have h4 := (hO33).base_le e'; omega)).lo hk79)).base_le e'; omega)).lo hk90)) (by omega)) rfl ?_)
              rintro e w95 ⟨A97, n98, c99, rfl, hO100, hk96⟩
              refine ⟨_, rfl, ?_⟩
              have hz101 := hk96.size
              have hB102 := hB92.lo hk96
              have hl103 := hO100.len
              have hl104 := hO100.rd.bound
              refine SR.q' (r_mv (v := .int .i64 _) rfl) <| SR.q' (r_mv (v := .int .i64 _) rfl) <| SR.q' (r_mv (v := .int .i64 _) rfl) <| SR.call ent12 (c_impl_ChangeSeat w95 L (((hO100).rd)) r m s) rfl ?_
              rintro e w105 ⟨A107, n108, c109, rfl, hO110, hk106⟩
              refine ⟨_, rfl, ?_⟩
              have hz111 := hk106.size
              have hB112 := hB102.lo hk106
              have hl113 := hO110.len
              have hl114 := hO110.rd.bound
              have hq115 := chg_len L r m s
              refine SR.q' (r_mv (v := .tuple (List.toArray _)) rfl) <| SR.q' (r_ext (v := .slice _ _ _) rfl rfl) <| SR.q' (r_ext (v := .bool _) rfl rfl) <| SR.q' (r_as (v := .slice _ _ _) rfl) <| SR.q' (r_as (v := .bool _) rfl) <| SR.nil ?_
              refine W.seq ?_
              refine W.seq ?_
              refine W.regS (SR.q' (r_mv (v := .slice _ _ _) rfl) <| SR.q' (r_mv (v := .slice _ _ _) rfl) <| SR.call ent13 (c_laws_eqVisitS w105 ((chg L r m s).getD []) (((hO110).rd)) ((chg L r m s).getD []) ((((((((((((((hO22).lo hk29).lo hk39).lo hk50).lo hk56).lo hk66).kp hk72 (fun b_ hb e' => by have h1 := ((((((hO33).lo hk39).lo hk50).lo hk56).lo hk66)).base_le e'; have h2 := ((((((hO22).lo hk29).lo hk39).lo hk50).lo hk56).lo hk66).base_le hb; have h3 := (hO22).base_le hb; omega)).lo hk79).kp hk85 (fun b_ hb e' => by have h1 := (((((((hO43).lo hk50).lo hk56).lo hk66).kp hk72 (fun b_ hb e' => by have h1 := ((((((hO33).lo hk39).lo hk50).lo hk56).lo hk66)).base_le e'; have h2 := ((((hO43).lo hk50).lo hk56).lo hk66).base_le hb; have h4 := (hO33).base_le e'; omega)).lo hk79)).base_le e'; have h2 := ((((((((hO22).lo hk29).lo hk39).lo hk50).lo hk56).lo hk66).kp hk72 (fun b_ hb e' => by have h1 := ((((((hO33).lo hk39).lo hk50).lo hk56).lo hk66)).base_le e'; have h2 := ((((((hO22).lo hk29).lo hk39).lo hk50).lo hk56).lo hk66).base_le hb; have h3 := (hO22).base_le hb; omega)).lo hk79).base_le hb; have h3 := ((hO22).lo hk29).base_le hb; omega)).lo hk90).lo hk96).lo hk106).rd))) rfl ?_)
              rintro e w116 ⟨rfl, hk117⟩
              refine ⟨_, rfl, ?_⟩
              have hz118 := hk117.size
              have hB119 := hB112.lo hk117
              refine SR.q' (r_not rfl) <| SR.q' (r_mv (v := .bool _) rfl) <| SR.splitN (fun h120 => ?_) (fun h120 => ?_)
              · refine SR.s' rfl <| SR.s' rfl <| SR.s' rfl <| SR.q' (r_pick true rfl (v := .bool true) rfl) <| SR.nil ?_
                refine W.cond_t rfl ?_
                refine W.seq ?_
                refine W.regS (SR.q' (r_as (v := .bool false) rfl) <| SR.nil ?_)
                refine W.ret ?_
                refine ret1 rfl (v := .bool _) rfl ?_
                exact ⟨eR (eB (z_c_laws_FnExactChangeSeat_121 L nL hbdL hleL r m s h5 hq6 n10 hl15 hl16 n20 hl25 hl26 hq27 n31 hl36 hl37 n41 hl46 hl47 hq48 h53 n58 hl63 hl64 h69 h76 h82 h93 n98 hl103 hl104 n108 hl113 hl114 hq115 h120)), hB119⟩
              · refine SR.g' rfl (r_mv (v := .bool _) rfl) <| SR.g' rfl (r_mv (v := .bool _) rfl) <| SR.g' rfl (r_neb_s und4 rfl rfl) <| SR.q' (r_pick false rfl (v := .bool _) rfl) <| SR.nil ?_
                refine W.cond_f rfl ?_
                refine W.skip ?_
                refine W.seq ?_
                refine W.regS (SR.q' (r_as (v := .int .i64 1) rfl) <| SR.nil ?_)
                refine W.seq ?_
                refine W.regS (SR.q' (r_mv (v := .slice _ _ _) rfl) <| SR.q' (r_mv (v := .int .i64 _) rfl) <| SR.call ent15 (c_laws_heldVisitS w116 (mkL mkVisit 4 ((chg L r m s).getD []).length 1) (((((((hO86).lo hk90).lo hk96).lo hk106).lo hk117).rd)) 1 (((chg L r m s).getD []).length) (by omega) (by omega) (by omega) (by rfl)) rfl ?_)
                rintro e w122 ⟨rfl, hk123⟩
                refine ⟨_, rfl, ?_⟩
                have hz124 := hk123.size
                have hB125 := hB119.lo hk123
                refine SR.q' (r_as (v := .int .i64 _) rfl) <| SR.nil ?_
                refine W.seq ?_
                refine W.seq ?_
                refine W.regS (SR.q' (r_mv (v := .int .i64 _) rfl) <| SR.q' (r_lt rfl rfl) <| SR.nil ?_)
                refine W.cond_d rfl (fun h126 => ?_) (fun h126 => ?_)
                · refine W.seq ?_
                  refine W.regS (SR.q' (r_as (v := .bool false) rfl) <| SR.nil ?_)
                  refine W.ret ?_
                  refine ret1 rfl (v := .bool _) rfl ?_
                  exact ⟨eR (eB (z_c_laws_FnExactChangeSeat_127 L nL hbdL hleL r m s h5 hq6 n10 hl15 hl16 n20 hl25 hl26 hq27 n31 hl36 hl37 n41 hl46 hl47 hq48 h53 n58 hl63 hl64 h69 h76 h82 h93 n98 hl103 hl104 n108 hl113 hl114 hq115 h120 h126)), hB125⟩
                · refine W.skip ?_
                  refine W.seq ?_
                  refine W.seq ?_
                  refine W.regS (SR.q' (r_mv (v := .int .i64 _) rfl) <| SR.q' (r_mv (v := .int .i64 _) rfl) <| SR.q' (r_ne_s rfl rfl) <| SR.nil ?_)
                  refine W.cond_f rfl ?_
                  refine W.skip ?_
                  refine W.seq ?_
                  refine W.regS (SR.q' (r_as (v := .bool true) rfl) <| SR.nil ?_)
                  refine W.ret ?_
                  refine ret1 rfl (v := .bool _) rfl ?_
                  exact ⟨eR rfl, hB125⟩
end Go.Proofs.Ytobbccbdgedajaa
