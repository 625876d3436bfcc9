/- Walks, printed by a program of this claim's author. -/
import Derived.Test.YtkbmbbdhojfnpaaChecked
import Derived.Test.YtkbmbbdhojfnpaaLa
import Derived.Test.YtkbmbbdhojfnpaaG31
namespace Go.Proofs.Ytkbmbbdhojfnpaa
open Go Go.RowKit Fw
set_option maxRecDepth 10000
set_option linter.unusedVariables false
theorem ent19 : Ent Try.prog 19 := ent_of Try.func19 (by decide +kernel) rfl
theorem ent20 : Ent Try.prog 20 := ent_of Try.func20 (by decide +kernel) rfl
theorem ent21 : Ent Try.prog 21 := ent_of Try.func21 (by decide +kernel) rfl
theorem ent22 : Ent Try.prog 22 := ent_of Try.func22 (by decide +kernel) rfl
theorem tsl39 : TSl Try.prog 39 3 1 := ⟨by kernel_rfl, fun _ => by kernel_rfl⟩
theorem und39 : Try.prog.underlying 39 = some (.slice 3) := by kernel_rfl

theorem z_c_spec_MissingMonths_6 (L : List LibRow) (nL : Nat) (hbdL : (nL : Int) ≤ 9223372036854775807) (hleL : nL = L.length) (h5 : ¬ (RowsOK L)) : 0 = missM L := by
  first | assumption | (subst hleL; unfold missM; simp_all; done) | (unfold missM; simp_all; done) | (unfold missM; simp_all; omega)
theorem z_c_spec_MissingMonths_7 (L : List LibRow) (nL : Nat) (hbdL : (nL : Int) ≤ 9223372036854775807) (hleL : nL = L.length) (h5 : ¬ (RowsOK L)) : ¬ (RowsOK L) := by
  first | assumption | (subst hleL; unfold missM; simp_all; done) | (unfold missM; simp_all; done) | (unfold missM; simp_all; omega)
theorem z_c_spec_MissingMonths_10 (L : List LibRow) (nL : Nat) (hbdL : (nL : Int) ≤ 9223372036854775807) (hleL : nL = L.length) (h5 : RowsOK L) (hq8 : L.length ≤ 12) (h9 : (nL : Int) = 0) : 0 = missM L := by
  first | assumption | (subst hleL; unfold missM; simp_all; done) | (unfold missM; simp_all; done) | (unfold missM; simp_all; omega)
theorem z_c_spec_MissingMonths_11 (L : List LibRow) (nL : Nat) (hbdL : (nL : Int) ≤ 9223372036854775807) (hleL : nL = L.length) (h5 : RowsOK L) (hq8 : L.length ≤ 12) (h9 : (nL : Int) = 0) : RowsOK L := by
  first | assumption | (subst hleL; unfold missM; simp_all; done) | (unfold missM; simp_all; done) | (unfold missM; simp_all; omega)
theorem z_c_spec_MissingMonths_23 (L : List LibRow) (nL : Nat) (hbdL : (nL : Int) ≤ 9223372036854775807) (hleL : nL = L.length) (h5 : RowsOK L) (hq8 : L.length ≤ 12) (h9 : ¬ ((nL : Int) = 0)) (x12 : LibRow) (hx14 : L[nL - 1]? = some x12) (hq15 : ((1 : Int) ≤ x12.Month ∧ x12.Month ≤ 1200) ∧ ((0 : Int) ≤ x12.Lent ∧ x12.Lent ≤ 9999) ∧ ((0 : Int) ≤ x12.Copied ∧ x12.Copied ≤ 9999) ∧ ((0 : Int) ≤ x12.Given ∧ x12.Given ≤ 999) ∧ ((0 : Int) ≤ x12.Fines ∧ x12.Fines ≤ 99999)) (x16 : LibRow) (hx17 : L[0]? = some x16) (hq18 : ((1 : Int) ≤ x16.Month ∧ x16.Month ≤ 1200) ∧ ((0 : Int) ≤ x16.Lent ∧ x16.Lent ≤ 9999) ∧ ((0 : Int) ≤ x16.Copied ∧ x16.Copied ≤ 9999) ∧ ((0 : Int) ≤ x16.Given ∧ x16.Given ≤ 999) ∧ ((0 : Int) ≤ x16.Fines ∧ x16.Fines ≤ 99999)) : ((x12.Month - x16.Month) + 1) - (nL : Int) = missM L := by
  first | assumption | (subst hleL; unfold missM; simp_all; done) | (unfold missM; simp_all; done) | (unfold missM; simp_all; omega)
theorem z_c_spec_MissingMonths_24 (L : List LibRow) (nL : Nat) (hbdL : (nL : Int) ≤ 9223372036854775807) (hleL : nL = L.length) (h5 : RowsOK L) (hq8 : L.length ≤ 12) (h9 : ¬ ((nL : Int) = 0)) (x12 : LibRow) (hx14 : L[nL - 1]? = some x12) (hq15 : ((1 : Int) ≤ x12.Month ∧ x12.Month ≤ 1200) ∧ ((0 : Int) ≤ x12.Lent ∧ x12.Lent ≤ 9999) ∧ ((0 : Int) ≤ x12.Copied ∧ x12.Copied ≤ 9999) ∧ ((0 : Int) ≤ x12.Given ∧ x12.Given ≤ 999) ∧ ((0 : Int) ≤ x12.Fines ∧ x12.Fines ≤ 99999)) (x16 : LibRow) (hx17 : L[0]? = some x16) (hq18 : ((1 : Int) ≤ x16.Month ∧ x16.Month ≤ 1200) ∧ ((0 : Int) ≤ x16.Lent ∧ x16.Lent ≤ 9999) ∧ ((0 : Int) ≤ x16.Copied ∧ x16.Copied ≤ 9999) ∧ ((0 : Int) ≤ x16.Given ∧ x16.Given ≤ 999) ∧ ((0 : Int) ≤ x16.Fines ∧ x16.Fines ≤ 99999)) : RowsOK L := by
  first | assumption | (subst hleL; unfold missM; simp_all; done) | (unfold missM; simp_all; done) | (unfold missM; simp_all; omega)
theorem c_spec_MissingMonths (w : World) {AL : Option Addr} {nL cL BL : Nat} (L : List LibRow) (hL : SlR w BL encLibRow 5 AL nL cL L) : Calls Try.prog 19 #[.slice AL nL cL] w fun e w' => e = .returned (.tuple (List.toArray [.int .i64 (missM L), .bool (decide (RowsOK L))])) ∧ Lo w w' := by
  refine calls_W 26 Try.func19 rfl rfl rfl ?_
  have hbdL := hL.bound
  have hleL := hL.len
  have hBbL := hL.bd
  refine W.seq ?_
  refine W.regS (SR.q' (r_as (v := .int .i64 0) rfl) <| SR.q' (r_as (v := .bool false) rfl) <| SR.nil ?_)
  refine W.seq ?_
  refine W.regS (SR.q' (r_mv (v := .slice _ _ _) rfl) <| SR.q' (r_len und31 rfl) <| SR.q' (r_as (v := .int .i64 _) rfl) <| SR.nil ?_)
  refine W.seq ?_
  refine W.seq ?_
  refine W.regS (SR.q' (r_mv (v := .slice _ _ _) rfl) <| SR.call ent38 (c_spec_l31Good w L ((hL))) rfl ?_)
  rintro e w1 ⟨rfl, hk2⟩
  refine ⟨_, rfl, ?_⟩
  have hz3 := hk2.size
  have hB4 := (Lo.refl w).lo hk2
  refine SR.q' (r_not rfl) <| SR.nil ?_
  refine W.cond_n rfl (fun h5 => ?_) (fun h5 => ?_)
  · refine W.seq ?_
    refine W.regS (SR.q' (r_as (v := .int .i64 0) rfl) <| SR.q' (r_as (v := .bool false) rfl) <| SR.nil ?_)
    refine W.ret ?_
    refine ret2 rfl (v := .int .i64 _) (v' := .bool _) rfl rfl ?_
    exact ⟨eR (eT2 (eI (z_c_spec_MissingMonths_6 L nL hbdL hleL h5)) (eDF (z_c_spec_MissingMonths_7 L nL hbdL hleL h5))), hB4⟩
  · have hq8 := rows_len h5
    refine W.skip ?_
    refine W.seq ?_
    refine W.seq ?_
    refine W.regS (SR.q' (r_mv (v := .int .i64 _) rfl) <| SR.q' (r_eq rfl rfl) <| SR.nil ?_)
    refine W.cond_d rfl (fun h9 => ?_) (fun h9 => ?_)
    · refine W.seq ?_
      refine W.regS (SR.q' (r_as (v := .int .i64 0) rfl) <| SR.q' (r_as (v := .bool true) rfl) <| SR.nil ?_)
      refine W.ret ?_
      refine ret2 rfl (v := .int .i64 _) (v' := .bool _) rfl rfl ?_
      exact ⟨eR (eT2 (eI (z_c_spec_MissingMonths_10 L nL hbdL hleL h5 hq8 h9)) (eDT (z_c_spec_MissingMonths_11 L nL hbdL hleL h5 hq8 h9))), hB4⟩
    · refine W.skip ?_
      refine W.seq ?_
      refine W.regD mo (by kernel_rfl) (QR.q' (fun w' hw' => r_mv (v := .slice _ _ _) rfl) <| QR.q' (fun w' hw' => r_mv (v := .int .i64 _) rfl) <| QR.q' (fun w' hw' => r_sub rfl rfl (by omega)) <| ?_)
      obtain ⟨x12, hx13⟩ := ((hL).lo hk2).get (i := ((nL : Int) - 1).toNat) (by omega)
      have hx14 : L[nL - 1]? = some x12 := (show ((nL : Int) - 1).toNat = nL - 1 from by omega) ▸ hx13
      have hq15 := rows_rng h5 hx14
      refine QR.q' (fun w' hw' => r_ixR tsl31 ((((hL).lo hk2).lo hw')) rfl rfl (by omega)) <| QR.q' (fun w' hw' => r_fa fa25_0 rfl) <| QR.q' (fun w' hw' => r_ld (v := .int .i64 x12.Month) sca3 rfl (((((hL).lo hk2).lo hw')).cell hx13 rfl)) <| QR.q' (fun w' hw' => r_mv (v := .slice _ _ _) rfl) <| ?_
      obtain ⟨x16, hx17⟩ := ((hL).lo hk2).get (i := 0) (by omega)
      have hq18 := rows_rng h5 hx17
      refine QR.q' (fun w' hw' => r_ixR tsl31 ((((hL).lo hk2).lo hw')) rfl rfl (by omega)) <| QR.q' (fun w' hw' => r_fa fa25_0 rfl) <| QR.q' (fun w' hw' => r_ld (v := .int .i64 x16.Month) sca3 rfl (((((hL).lo hk2).lo hw')).cell hx17 rfl)) <| QR.q' (fun w' hw' => r_sub rfl rfl (by omega)) <| QR.q' (fun w' hw' => r_add rfl rfl (by omega)) <| QR.q' (fun w' hw' => r_mv (v := .int .i64 _) rfl) <| QR.q' (fun w' hw' => r_sub rfl rfl (by omega)) <| QR.q' (fun w' hw' => r_as (v := .int .i64 _) rfl) <| QR.q' (fun w' hw' => r_as (v := .bool true) rfl) <| QR.nil ?_
      intro w19 hk20
      have hz21 := hk20.size
      have hB22 := hB4.lo hk20
      refine W.ret ?_
      refine ret2 rfl (v := .int .i64 _) (v' := .bool _) rfl rfl ?_
      exact ⟨eR (eT2 (eI (z_c_spec_MissingMonths_23 L nL hbdL hleL h5 hq8 h9 x12 hx14 hq15 x16 hx17 hq18)) (eDT (z_c_spec_MissingMonths_24 L nL hbdL hleL h5 hq8 h9 x12 hx14 hq15 x16 hx17 hq18))), hB22⟩

theorem z_c_impl_MissingMonths_6 (L : List LibRow) (nL : Nat) (hbdL : (nL : Int) ≤ 9223372036854775807) (hleL : nL = L.length) (h5 : ¬ (RowsOK L)) : 0 = missM L := by
  first | assumption | (subst hleL; unfold missM; simp_all; done) | (unfold missM; simp_all; done) | (unfold missM; simp_all; omega)
theorem z_c_impl_MissingMonths_7 (L : List LibRow) (nL : Nat) (hbdL : (nL : Int) ≤ 9223372036854775807) (hleL : nL = L.length) (h5 : ¬ (RowsOK L)) : ¬ (RowsOK L) := by
  first | assumption | (subst hleL; unfold missM; simp_all; done) | (unfold missM; simp_all; done) | (unfold missM; simp_all; omega)
theorem z_c_impl_MissingMonths_10 (L : List LibRow) (nL : Nat) (hbdL : (nL : Int) ≤ 9223372036854775807) (hleL : nL = L.length) (h5 : RowsOK L) (hq8 : L.length ≤ 12) (h9 : (nL : Int) = 0) : 0 = missM L := by
  first | assumption | (subst hleL; unfold missM; simp_all; done) | (unfold missM; simp_all; done) | (unfold missM; simp_all; omega)
theorem z_c_impl_MissingMonths_11 (L : List LibRow) (nL : Nat) (hbdL : (nL : Int) ≤ 9223372036854775807) (hleL : nL = L.length) (h5 : RowsOK L) (hq8 : L.length ≤ 12) (h9 : (nL : Int) = 0) : RowsOK L := by
  first | assumption | (subst hleL; unfold missM; simp_all; done) | (unfold missM; simp_all; done) | (unfold missM; simp_all; omega)
theorem z_c_impl_MissingMonths_23 (L : List LibRow) (nL : Nat) (hbdL : (nL : Int) ≤ 9223372036854775807) (hleL : nL = L.length) (h5 : RowsOK L) (hq8 : L.length ≤ 12) (h9 : ¬ ((nL : Int) = 0)) (x12 : LibRow) (hx14 : L[nL - 1]? = some x12) (hq15 : ((1 : Int) ≤ x12.Month ∧ x12.Month ≤ 1200) ∧ ((0 : Int) ≤ x12.Lent ∧ x12.Lent ≤ 9999) ∧ ((0 : Int) ≤ x12.Copied ∧ x12.Copied ≤ 9999) ∧ ((0 : Int) ≤ x12.Given ∧ x12.Given ≤ 999) ∧ ((0 : Int) ≤ x12.Fines ∧ x12.Fines ≤ 99999)) (x16 : LibRow) (hx17 : L[0]? = some x16) (hq18 : ((1 : Int) ≤ x16.Month ∧ x16.Month ≤ 1200) ∧ ((0 : Int) ≤ x16.Lent ∧ x16.Lent ≤ 9999) ∧ ((0 : Int) ≤ x16.Copied ∧ x16.Copied ≤ 9999) ∧ ((0 : Int) ≤ x16.Given ∧ x16.Given ≤ 999) ∧ ((0 : Int) ≤ x16.Fines ∧ x16.Fines ≤ 99999)) : ((x12.Month - x16.Month) + 1) - (nL : Int) = missM L := by
  first | assumption | (subst hleL; unfold missM; simp_all; done) | (unfold missM; simp_all; done) | (unfold missM; simp_all; omega)
theorem z_c_impl_MissingMonths_24 (L : List LibRow) (nL : Nat) (hbdL : (nL : Int) ≤ 9223372036854775807) (hleL : nL = L.length) (h5 : RowsOK L) (hq8 : L.length ≤ 12) (h9 : ¬ ((nL : Int) = 0)) (x12 : LibRow) (hx14 : L[nL - 1]? = some x12) (hq15 : ((1 : Int) ≤ x12.Month ∧ x12.Month ≤ 1200) ∧ ((0 : Int) ≤ x12.Lent ∧ x12.Lent ≤ 9999) ∧ ((0 : Int) ≤ x12.Copied ∧ x12.Copied ≤ 9999) ∧ ((0 : Int) ≤ x12.Given ∧ x12.Given ≤ 999) ∧ ((0 : Int) ≤ x12.Fines ∧ x12.Fines ≤ 99999)) (x16 : LibRow) (hx17 : L[0]? = some x16) (hq18 : ((1 : Int) ≤ x16.Month ∧ x16.Month ≤ 1200) ∧ ((0 : Int) ≤ x16.Lent ∧ x16.Lent ≤ 9999) ∧ ((0 : Int) ≤ x16.Copied ∧ x16.Copied ≤ 9999) ∧ ((0 : Int) ≤ x16.Given ∧ x16.Given ≤ 999) ∧ ((0 : Int) ≤ x16.Fines ∧ x16.Fines ≤ 99999)) : RowsOK L := by
  first | assumption | (subst hleL; unfold missM; simp_all; done) | (unfold missM; simp_all; done) | (unfold missM; simp_all; omega)
theorem c_impl_MissingMonths (w : World) {AL : Option Addr} {nL cL BL : Nat} (L : List LibRow) (hL : SlR w BL encLibRow 5 AL nL cL L) : Calls Try.prog 20 #[.slice AL nL cL] w fun e w' => e = .returned (.tuple (List.toArray [.int .i64 (missM L), .bool (decide (RowsOK L))])) ∧ Lo w w' := by
  refine calls_W 26 Try.func20 rfl rfl rfl ?_
  have hbdL := hL.bound
  have hleL := hL.len
  have hBbL := hL.bd
  refine W.seq ?_
  refine W.regS (SR.q' (r_as (v := .int .i64 0) rfl) <| SR.q' (r_as (v := .bool false) rfl) <| SR.nil ?_)
  refine W.seq ?_
  refine W.seq ?_
  refine W.regS (SR.q' (r_mv (v := .slice _ _ _) rfl) <| SR.call ent17 (c_impl_AreLibRows w L ((hL))) rfl ?_)
  rintro e w1 ⟨rfl, hk2⟩
  refine ⟨_, rfl, ?_⟩
  have hz3 := hk2.size
  have hB4 := (Lo.refl w).lo hk2
  refine SR.q' (r_not rfl) <| SR.nil ?_
  refine W.cond_n rfl (fun h5 => ?_) (fun h5 => ?_)
  · refine W.seq ?_
    refine W.regS (SR.q' (r_as (v := .int .i64 0) rfl) <| SR.q' (r_as (v := .bool false) rfl) <| SR.nil ?_)
    refine W.ret ?_
    refine ret2 rfl (v := .int .i64 _) (v' := .bool _) rfl rfl ?_
    exact ⟨eR (eT2 (eI (z_c_impl_MissingMonths_6 L nL hbdL hleL h5)) (eDF (z_c_impl_MissingMonths_7 L nL hbdL hleL h5))), hB4⟩
  · have hq8 := rows_len h5
    refine W.skip ?_
    refine W.seq ?_
    refine W.seq ?_
    refine W.regS (SR.q' (r_mv (v := .slice _ _ _) rfl) <| SR.q' (r_len und31 rfl) <| SR.q' (r_eq rfl rfl) <| SR.nil ?_)
    refine W.cond_d rfl (fun h9 => ?_) (fun h9 => ?_)
    · refine W.seq ?_
      refine W.regS (SR.q' (r_as (v := .int .i64 0) rfl) <| SR.q' (r_as (v := .bool true) rfl) <| SR.nil ?_)
      refine W.ret ?_
      refine ret2 rfl (v := .int .i64 _) (v' := .bool _) rfl rfl ?_
      exact ⟨eR (eT2 (eI (z_c_impl_MissingMonths_10 L nL hbdL hleL h5 hq8 h9)) (eDT (z_c_impl_MissingMonths_11 L nL hbdL hleL h5 hq8 h9))), hB4⟩
    · refine W.skip ?_
      refine W.seq ?_
      refine W.regD mo (by kernel_rfl) (QR.q' (fun w' hw' => r_mv (v := .slice _ _ _) rfl) <| QR.q' (fun w' hw' => r_mv (v := .slice _ _ _) rfl) <| QR.q' (fun w' hw' => r_len und31 rfl) <| QR.q' (fun w' hw' => r_sub rfl rfl (by omega)) <| ?_)
      obtain ⟨x12, hx13⟩ := ((hL).lo hk2).get (i := ((nL : Int) - 1).toNat) (by omega)
      have hx14 : L[nL - 1]? = some x12 := (show ((nL : Int) - 1).toNat = nL - 1 from by omega) ▸ hx13
      have hq15 := rows_rng h5 hx14
      refine QR.q' (fun w' hw' => r_ixR tsl31 ((((hL).lo hk2).lo hw')) rfl rfl (by omega)) <| QR.q' (fun w' hw' => r_fa fa25_0 rfl) <| QR.q' (fun w' hw' => r_ld (v := .int .i64 x12.Month) sca3 rfl (((((hL).lo hk2).lo hw')).cell hx13 rfl)) <| QR.q' (fun w' hw' => r_mv (v := .slice _ _ _) rfl) <| ?_
      obtain ⟨x16, hx17⟩ := ((hL).lo hk2).get (i := 0) (by omega)
      have hq18 := rows_rng h5 hx17
      refine QR.q' (fun w' hw' => r_ixR tsl31 ((((hL).lo hk2).lo hw')) rfl rfl (by omega)) <| QR.q' (fun w' hw' => r_fa fa25_0 rfl) <| QR.q' (fun w' hw' => r_ld (v := .int .i64 x16.Month) sca3 rfl (((((hL).lo hk2).lo hw')).cell hx17 rfl)) <| QR.q' (fun w' hw' => r_sub rfl rfl (by omega)) <| QR.q' (fun w' hw' => r_add rfl rfl (by omega)) <| QR.q' (fun w' hw' => r_mv (v := .slice _ _ _) rfl) <| QR.q' (fun w' hw' => r_len und31 rfl) <| QR.q' (fun w' hw' => r_sub rfl rfl (by omega)) <| QR.q' (fun w' hw' => r_as (v := .int .i64 _) rfl) <| QR.q' (fun w' hw' => r_as (v := .bool true) rfl) <| QR.nil ?_
      intro w19 hk20
      have hz21 := hk20.size
      have hB22 := hB4.lo hk20
      refine W.ret ?_
      refine ret2 rfl (v := .int .i64 _) (v' := .bool _) rfl rfl ?_
      exact ⟨eR (eT2 (eI (z_c_impl_MissingMonths_23 L nL hbdL hleL h5 hq8 h9 x12 hx14 hq15 x16 hx17 hq18)) (eDT (z_c_impl_MissingMonths_24 L nL hbdL hleL h5 hq8 h9 x12 hx14 hq15 x16 hx17 hq18))), hB22⟩

theorem z_c_laws_FnExactMissingMonths_50 (L : List LibRow) (nL : Nat) (hbdL : (nL : Int) ≤ 9223372036854775807) (hleL : nL = L.length) (h5 : ¬ ((szN L.length 1048576) < 0)) (hq6 : ((L.length : Nat) : Int) ≤ 1048576 ∧ szN L.length 1048576 = 1048576 - (L.length : Int)) (n10 : Nat) (hl15 : n10 = (L).length) (hl16 : (n10 : Int) ≤ 9223372036854775807) (n24 : Nat) (hl29 : n24 = (L).length) (hl30 : (n24 : Int) ≤ 9223372036854775807) (n38 : Nat) (hl43 : n38 = (L).length) (hl44 : (n38 : Int) ≤ 9223372036854775807) (h49 : ¬ (L = L)) : false = true := by
  first | (simp_all; done) | omega
theorem c_laws_FnExactMissingMonths (w : World) {AL : Option Addr} {nL cL BL : Nat} (L : List LibRow) (hL : SlR w BL encLibRow 5 AL nL cL L) : Calls Try.prog 5 #[.slice AL nL cL] w fun e w' => e = .returned (.bool true) ∧ Lo w w' := by
  refine calls_W 40 Try.func5 rfl rfl rfl ?_
  have hbdL := hL.bound
  have hleL := hL.len
  have hBbL := hL.bd
  refine W.seq ?_
  refine W.regS (SR.q' (r_as (v := .bool false) rfl) <| SR.nil ?_)
  refine W.seq ?_
  refine W.regS (SR.q' (r_as (v := .int .i64 1048576) rfl) <| SR.nil ?_)
  refine W.seq ?_
  refine W.regS (SR.q' (r_mv (v := .slice _ _ _) rfl) <| SR.q' (r_mv (v := .int .i64 _) rfl) <| SR.call ent14 (c_laws_szLibRowS w L ((hL)) 1048576 (by omega) (by omega)) rfl ?_)
  rintro e w1 ⟨rfl, hk2⟩
  refine ⟨_, rfl, ?_⟩
  have hz3 := hk2.size
  have hB4 := (Lo.refl w).lo hk2
  refine SR.q' (r_as (v := .int .i64 _) rfl) <| SR.nil ?_
  refine W.seq ?_
  refine W.seq ?_
  refine W.regS (SR.q' (r_mv (v := .int .i64 _) rfl) <| SR.q' (r_lt rfl rfl) <| SR.nil ?_)
  refine W.cond_d rfl (fun h5 => ?_) (fun h5 => ?_)
  · refine W.seq ?_
    refine W.regS (SR.q' (r_as (v := .bool true) rfl) <| SR.nil ?_)
    refine W.ret ?_
    refine ret1 rfl (v := .bool _) rfl ?_
    exact ⟨eR rfl, hB4⟩
  · have hq6 := szN_ok h5
    refine W.skip ?_
    refine W.seq ?_
    refine W.regS (SR.q' (r_mv (v := .slice _ _ _) rfl) <| SR.call ent16 (c_laws_toLibRowS w1 L (((hL).lo hk2)) (by omega)) rfl ?_)
    rintro e w7 ⟨A9, n10, c11, rfl, hO12, hk8⟩
    refine ⟨_, rfl, ?_⟩
    have hz13 := hk8.size
    have hB14 := hB4.lo hk8
    have hl15 := hO12.len
    have hl16 := hO12.rd.bound
    refine SR.call ent19 (c_spec_MissingMonths w7 L (((hO12).rd))) rfl ?_
    rintro e w17 ⟨rfl, hk18⟩
    refine ⟨_, rfl, ?_⟩
    have hz19 := hk18.size
    have hB20 := hB14.lo hk18
    refine SR.q' (r_mv (v := .tuple (List.toArray _)) rfl) <| SR.q' (r_ext (v := .int .i64 _) rfl rfl) <| SR.q' (r_ext (v := .bool _) rfl rfl) <| SR.q' (r_as (v := .int .i64 _) rfl) <| SR.q' (r_as (v := .bool _) rfl) <| SR.nil ?_
    refine W.seq ?_
    refine W.regS (SR.q' (r_mv (v := .slice _ _ _) rfl) <| SR.call ent16 (c_laws_toLibRowS w17 L (((((hL).lo hk2).lo hk8).lo hk18)) (by omega)) rfl ?_)
    rintro e w21 ⟨A23, n24, c25, rfl, hO26, hk22⟩
    refine ⟨_, rfl, ?_⟩
    have hz27 := hk22.size
    have hB28 := hB20.lo hk22
    have hl29 := hO26.len
    have hl30 := hO26.rd.bound
    refine SR.q' (r_as (v := .slice _ _ _) rfl) <| SR.nil ?_
    refine W.seq ?_
    refine W.regS (SR.q' (r_mv (v := .slice _ _ _) rfl) <| SR.call ent20 (c_impl_MissingMonths w21 L (((hO26).rd))) rfl ?_)
    rintro e w31 ⟨rfl, hk32⟩
    refine ⟨_, rfl, ?_⟩
    have hz33 := hk32.size
    have hB34 := hB28.lo hk32
    refine SR.q' (r_mv (v := .tuple (List.toArray _)) rfl) <| SR.q' (r_ext (v := .int .i64 _) rfl rfl) <| SR.q' (r_ext (v := .bool _) rfl rfl) <| SR.q' (r_as (v := .int .i64 _) rfl) <| SR.q' (r_as (v := .bool _) rfl) <| SR.nil ?_
    refine W.seq ?_
    refine W.seq ?_
    refine W.regS (SR.q' (r_mv (v := .int .i64 _) rfl) <| SR.q' (r_mv (v := .int .i64 _) rfl) <| SR.q' (r_ne_s rfl rfl) <| SR.q' (r_mv (v := .bool _) rfl) <| SR.g' rfl (r_mv (v := .bool _) rfl) <| SR.g' rfl (r_mv (v := .bool _) rfl) <| SR.g' rfl (r_neb_s und4 rfl rfl) <| SR.q' (r_pick false rfl (v := .bool _) rfl) <| SR.nil ?_)
    refine W.cond_f rfl ?_
    refine W.skip ?_
    refine W.seq ?_
    refine W.seq ?_
    refine W.regS (SR.q' (r_mv (v := .slice _ _ _) rfl) <| SR.q' (r_mv (v := .slice _ _ _) rfl) <| SR.call ent16 (c_laws_toLibRowS w31 L (((((((hL).lo hk2).lo hk8).lo hk18).lo hk22).lo hk32)) (by omega)) rfl ?_)
    rintro e w35 ⟨A37, n38, c39, rfl, hO40, hk36⟩
    refine ⟨_, rfl, ?_⟩
    have hz41 := hk36.size
    have hB42 := hB34.lo hk36
    have hl43 := hO40.len
    have hl44 := hO40.rd.bound
    refine SR.call ent18 (c_laws_eqLibRowS w35 L (((((hO26).lo hk32).lo hk36).rd)) L (((hO40).rd))) rfl ?_
    rintro e w45 ⟨rfl, hk46⟩
    refine ⟨_, rfl, ?_⟩
    have hz47 := hk46.size
    have hB48 := hB42.lo hk46
    refine SR.q' (r_not rfl) <| SR.nil ?_
    refine W.cond_n rfl (fun h49 => ?_) (fun h49 => ?_)
    · refine W.seq ?_
      refine W.regS (SR.q' (r_as (v := .bool false) rfl) <| SR.nil ?_)
      refine W.ret ?_
      refine ret1 rfl (v := .bool _) rfl ?_
      exact ⟨eR (eB (z_c_laws_FnExactMissingMonths_50 L nL hbdL hleL h5 hq6 n10 hl15 hl16 n24 hl29 hl30 n38 hl43 hl44 h49)), hB48⟩
    · refine W.skip ?_
      refine W.seq ?_
      refine W.regS (SR.q' (r_as (v := .bool true) rfl) <| SR.nil ?_)
      refine W.ret ?_
      refine ret1 rfl (v := .bool _) rfl ?_
      exact ⟨eR rfl, hB48⟩

theorem z_c_spec_BestRun_6 (L : List LibRow) (nL : Nat) (hbdL : (nL : Int) ≤ 9223372036854775807) (hleL : nL = L.length) (h5 : ¬ (RowsOK L)) : 0 = bestF L := by
  first | (simp_all [bestF, bestL]; done) | (simp_all; done)
theorem z_c_spec_BestRun_7 (L : List LibRow) (nL : Nat) (hbdL : (nL : Int) ≤ 9223372036854775807) (hleL : nL = L.length) (h5 : ¬ (RowsOK L)) : 0 = bestL L := by
  first | (simp_all [bestF, bestL]; done) | (simp_all; done)
theorem z_c_spec_BestRun_8 (L : List LibRow) (nL : Nat) (hbdL : (nL : Int) ≤ 9223372036854775807) (hleL : nL = L.length) (h5 : ¬ (RowsOK L)) : ¬ (RowsOK L ∧ 0 < L.length) := by
  first | (simp_all [bestF, bestL]; done) | (simp_all; done)
theorem z_c_spec_BestRun_11 (L : List LibRow) (nL : Nat) (hbdL : (nL : Int) ≤ 9223372036854775807) (hleL : nL = L.length) (h5 : RowsOK L) (hq9 : L.length ≤ 12) (h10 : (nL : Int) = 0) : 0 = bestF L := by
  first | (simp_all [bestF, bestL]; done) | (simp_all; done)
theorem z_c_spec_BestRun_12 (L : List LibRow) (nL : Nat) (hbdL : (nL : Int) ≤ 9223372036854775807) (hleL : nL = L.length) (h5 : RowsOK L) (hq9 : L.length ≤ 12) (h10 : (nL : Int) = 0) : 0 = bestL L := by
  first | (simp_all [bestF, bestL]; done) | (simp_all; done)
theorem z_c_spec_BestRun_13 (L : List LibRow) (nL : Nat) (hbdL : (nL : Int) ≤ 9223372036854775807) (hleL : nL = L.length) (h5 : RowsOK L) (hq9 : L.length ≤ 12) (h10 : (nL : Int) = 0) : ¬ (RowsOK L ∧ 0 < L.length) := by
  first | (simp_all [bestF, bestL]; done) | (simp_all; done)
theorem z_c_spec_BestRun_14 (L : List LibRow) (nL : Nat) (hbdL : (nL : Int) ≤ 9223372036854775807) (hleL : nL = L.length) (h5 : RowsOK L) (hq9 : L.length ≤ 12) (h10 : ¬ ((nL : Int) = 0)) : 0 ≤ nL ∧ best L 0 = (0, 0, 0) ∧ 0 ≤ 0 ∧ (0 < 0 ∨ 0 = 0) ∧ (0 < 0 ∨ 0 = 0) := by
  simp [best]
theorem z_c_spec_BestRun_36 (L : List LibRow) (nL : Nat) (hbdL : (nL : Int) ≤ 9223372036854775807) (hleL : nL = L.length) (h5 : RowsOK L) (hq9 : L.length ≤ 12) (h10 : ¬ ((nL : Int) = 0)) (k : Nat) (a : Nat) (b : Nat) (c : Nat) (hi20 : k ≤ nL ∧ best L k = (a, b, c) ∧ a ≤ b ∧ (b < k ∨ b = 0) ∧ (c < k ∨ c = 0)) (h21 : (k : Int) < (nL : Int)) (h22 : 0 < (k : Int)) (x23 : LibRow) (hx24 : L[k]? = some x23) (hq25 : ((1 : Int) ≤ x23.Month ∧ x23.Month ≤ 1200) ∧ ((0 : Int) ≤ x23.Lent ∧ x23.Lent ≤ 9999) ∧ ((0 : Int) ≤ x23.Copied ∧ x23.Copied ≤ 9999) ∧ ((0 : Int) ≤ x23.Given ∧ x23.Given ≤ 999) ∧ ((0 : Int) ≤ x23.Fines ∧ x23.Fines ≤ 99999)) (x26 : LibRow) (hx28 : L[k - 1]? = some x26) (hq29 : ((1 : Int) ≤ x26.Month ∧ x26.Month ≤ 1200) ∧ ((0 : Int) ≤ x26.Lent ∧ x26.Lent ≤ 9999) ∧ ((0 : Int) ≤ x26.Copied ∧ x26.Copied ≤ 9999) ∧ ((0 : Int) ≤ x26.Given ∧ x26.Given ≤ 999) ∧ ((0 : Int) ≤ x26.Fines ∧ x26.Fines ≤ 99999)) (h34 : x23.Lent < x26.Lent) (h35 : ((b : Int) - (a : Int)) < ((k : Int) - (k : Int))) : k + 1 ≤ nL ∧ best L (k + 1) = (k, k, k) ∧ k ≤ k ∧ (k < k + 1 ∨ k = 0) ∧ (k < k + 1 ∨ k = 0) := by
  obtain ⟨h1, h2, h3, h4, h5⟩ := ‹_ ∧ best L _ = _ ∧ _›; refine ⟨by omega, ?_, by omega, by omega, by omega⟩; first | exact best_fall h2 ‹_› ‹_› ‹_› ‹_› (by omega) | exact best_fallN h2 ‹_› ‹_› ‹_› ‹_› (by omega) | exact best_go h2 (by first | exact nofall0 ‹_› | exact nofall1 ‹_› ‹_› ‹_›) (by omega) | exact best_stay h2 (by first | exact nofall0 ‹_› | exact nofall1 ‹_› ‹_› ‹_›) (by omega)
theorem z_c_spec_BestRun_37 (L : List LibRow) (nL : Nat) (hbdL : (nL : Int) ≤ 9223372036854775807) (hleL : nL = L.length) (h5 : RowsOK L) (hq9 : L.length ≤ 12) (h10 : ¬ ((nL : Int) = 0)) (k : Nat) (a : Nat) (b : Nat) (c : Nat) (hi20 : k ≤ nL ∧ best L k = (a, b, c) ∧ a ≤ b ∧ (b < k ∨ b = 0) ∧ (c < k ∨ c = 0)) (h21 : (k : Int) < (nL : Int)) (h22 : 0 < (k : Int)) (x23 : LibRow) (hx24 : L[k]? = some x23) (hq25 : ((1 : Int) ≤ x23.Month ∧ x23.Month ≤ 1200) ∧ ((0 : Int) ≤ x23.Lent ∧ x23.Lent ≤ 9999) ∧ ((0 : Int) ≤ x23.Copied ∧ x23.Copied ≤ 9999) ∧ ((0 : Int) ≤ x23.Given ∧ x23.Given ≤ 999) ∧ ((0 : Int) ≤ x23.Fines ∧ x23.Fines ≤ 99999)) (x26 : LibRow) (hx28 : L[k - 1]? = some x26) (hq29 : ((1 : Int) ≤ x26.Month ∧ x26.Month ≤ 1200) ∧ ((0 : Int) ≤ x26.Lent ∧ x26.Lent ≤ 9999) ∧ ((0 : Int) ≤ x26.Copied ∧ x26.Copied ≤ 9999) ∧ ((0 : Int) ≤ x26.Given ∧ x26.Given ≤ 999) ∧ ((0 : Int) ≤ x26.Fines ∧ x26.Fines ≤ 99999)) (h34 : x23.Lent < x26.Lent) (h35 : ((b : Int) - (a : Int)) < ((k : Int) - (k : Int))) : nL - (k + 1) < nL - k := by
  omega
theorem z_c_spec_BestRun_38 (L : List LibRow) (nL : Nat) (hbdL : (nL : Int) ≤ 9223372036854775807) (hleL : nL = L.length) (h5 : RowsOK L) (hq9 : L.length ≤ 12) (h10 : ¬ ((nL : Int) = 0)) (k : Nat) (a : Nat) (b : Nat) (c : Nat) (hi20 : k ≤ nL ∧ best L k = (a, b, c) ∧ a ≤ b ∧ (b < k ∨ b = 0) ∧ (c < k ∨ c = 0)) (h21 : (k : Int) < (nL : Int)) (h22 : 0 < (k : Int)) (x23 : LibRow) (hx24 : L[k]? = some x23) (hq25 : ((1 : Int) ≤ x23.Month ∧ x23.Month ≤ 1200) ∧ ((0 : Int) ≤ x23.Lent ∧ x23.Lent ≤ 9999) ∧ ((0 : Int) ≤ x23.Copied ∧ x23.Copied ≤ 9999) ∧ ((0 : Int) ≤ x23.Given ∧ x23.Given ≤ 999) ∧ ((0 : Int) ≤ x23.Fines ∧ x23.Fines ≤ 99999)) (x26 : LibRow) (hx28 : L[k - 1]? = some x26) (hq29 : ((1 : Int) ≤ x26.Month ∧ x26.Month ≤ 1200) ∧ ((0 : Int) ≤ x26.Lent ∧ x26.Lent ≤ 9999) ∧ ((0 : Int) ≤ x26.Copied ∧ x26.Copied ≤ 9999) ∧ ((0 : Int) ≤ x26.Given ∧ x26.Given ≤ 999) ∧ ((0 : Int) ≤ x26.Fines ∧ x26.Fines ≤ 99999)) (h34 : x23.Lent < x26.Lent) (h35 : ¬ (((b : Int) - (a : Int)) < ((k : Int) - (k : Int)))) : k + 1 ≤ nL ∧ best L (k + 1) = (a, b, k) ∧ a ≤ b ∧ (b < k + 1 ∨ b = 0) ∧ (k < k + 1 ∨ k = 0) := by
  obtain ⟨h1, h2, h3, h4, h5⟩ := ‹_ ∧ best L _ = _ ∧ _›; refine ⟨by omega, ?_, by omega, by omega, by omega⟩; first | exact best_fall h2 ‹_› ‹_› ‹_› ‹_› (by omega) | exact best_fallN h2 ‹_› ‹_› ‹_› ‹_› (by omega) | exact best_go h2 (by first | exact nofall0 ‹_› | exact nofall1 ‹_› ‹_› ‹_›) (by omega) | exact best_stay h2 (by first | exact nofall0 ‹_› | exact nofall1 ‹_› ‹_› ‹_›) (by omega)
theorem z_c_spec_BestRun_39 (L : List LibRow) (nL : Nat) (hbdL : (nL : Int) ≤ 9223372036854775807) (hleL : nL = L.length) (h5 : RowsOK L) (hq9 : L.length ≤ 12) (h10 : ¬ ((nL : Int) = 0)) (k : Nat) (a : Nat) (b : Nat) (c : Nat) (hi20 : k ≤ nL ∧ best L k = (a, b, c) ∧ a ≤ b ∧ (b < k ∨ b = 0) ∧ (c < k ∨ c = 0)) (h21 : (k : Int) < (nL : Int)) (h22 : 0 < (k : Int)) (x23 : LibRow) (hx24 : L[k]? = some x23) (hq25 : ((1 : Int) ≤ x23.Month ∧ x23.Month ≤ 1200) ∧ ((0 : Int) ≤ x23.Lent ∧ x23.Lent ≤ 9999) ∧ ((0 : Int) ≤ x23.Copied ∧ x23.Copied ≤ 9999) ∧ ((0 : Int) ≤ x23.Given ∧ x23.Given ≤ 999) ∧ ((0 : Int) ≤ x23.Fines ∧ x23.Fines ≤ 99999)) (x26 : LibRow) (hx28 : L[k - 1]? = some x26) (hq29 : ((1 : Int) ≤ x26.Month ∧ x26.Month ≤ 1200) ∧ ((0 : Int) ≤ x26.Lent ∧ x26.Lent ≤ 9999) ∧ ((0 : Int) ≤ x26.Copied ∧ x26.Copied ≤ 9999) ∧ ((0 : Int) ≤ x26.Given ∧ x26.Given ≤ 999) ∧ ((0 : Int) ≤ x26.Fines ∧ x26.Fines ≤ 99999)) (h34 : x23.Lent < x26.Lent) (h35 : ¬ (((b : Int) - (a : Int)) < ((k : Int) - (k : Int)))) : nL - (k + 1) < nL - k := by
  omega
theorem z_c_spec_BestRun_41 (L : List LibRow) (nL : Nat) (hbdL : (nL : Int) ≤ 9223372036854775807) (hleL : nL = L.length) (h5 : RowsOK L) (hq9 : L.length ≤ 12) (h10 : ¬ ((nL : Int) = 0)) (k : Nat) (a : Nat) (b : Nat) (c : Nat) (hi20 : k ≤ nL ∧ best L k = (a, b, c) ∧ a ≤ b ∧ (b < k ∨ b = 0) ∧ (c < k ∨ c = 0)) (h21 : (k : Int) < (nL : Int)) (h22 : 0 < (k : Int)) (x23 : LibRow) (hx24 : L[k]? = some x23) (hq25 : ((1 : Int) ≤ x23.Month ∧ x23.Month ≤ 1200) ∧ ((0 : Int) ≤ x23.Lent ∧ x23.Lent ≤ 9999) ∧ ((0 : Int) ≤ x23.Copied ∧ x23.Copied ≤ 9999) ∧ ((0 : Int) ≤ x23.Given ∧ x23.Given ≤ 999) ∧ ((0 : Int) ≤ x23.Fines ∧ x23.Fines ≤ 99999)) (x26 : LibRow) (hx28 : L[k - 1]? = some x26) (hq29 : ((1 : Int) ≤ x26.Month ∧ x26.Month ≤ 1200) ∧ ((0 : Int) ≤ x26.Lent ∧ x26.Lent ≤ 9999) ∧ ((0 : Int) ≤ x26.Copied ∧ x26.Copied ≤ 9999) ∧ ((0 : Int) ≤ x26.Given ∧ x26.Given ≤ 999) ∧ ((0 : Int) ≤ x26.Fines ∧ x26.Fines ≤ 99999)) (h34 : ¬ (x23.Lent < x26.Lent)) (h40 : ((b : Int) - (a : Int)) < ((k : Int) - (c : Int))) : k + 1 ≤ nL ∧ best L (k + 1) = (c, k, c) ∧ c ≤ k ∧ (k < k + 1 ∨ k = 0) ∧ (c < k + 1 ∨ c = 0) := by
  obtain ⟨h1, h2, h3, h4, h5⟩ := ‹_ ∧ best L _ = _ ∧ _›; refine ⟨by omega, ?_, by omega, by omega, by omega⟩; first | exact best_fall h2 ‹_› ‹_› ‹_› ‹_› (by omega) | exact best_fallN h2 ‹_› ‹_› ‹_› ‹_› (by omega) | exact best_go h2 (by first | exact nofall0 ‹_› | exact nofall1 ‹_› ‹_› ‹_›) (by omega) | exact best_stay h2 (by first | exact nofall0 ‹_› | exact nofall1 ‹_› ‹_› ‹_›) (by omega)
theorem z_c_spec_BestRun_42 (L : List LibRow) (nL : Nat) (hbdL : (nL : Int) ≤ 9223372036854775807) (hleL : nL = L.length) (h5 : RowsOK L) (hq9 : L.length ≤ 12) (h10 : ¬ ((nL : Int) = 0)) (k : Nat) (a : Nat) (b : Nat) (c : Nat) (hi20 : k ≤ nL ∧ best L k = (a, b, c) ∧ a ≤ b ∧ (b < k ∨ b = 0) ∧ (c < k ∨ c = 0)) (h21 : (k : Int) < (nL : Int)) (h22 : 0 < (k : Int)) (x23 : LibRow) (hx24 : L[k]? = some x23) (hq25 : ((1 : Int) ≤ x23.Month ∧ x23.Month ≤ 1200) ∧ ((0 : Int) ≤ x23.Lent ∧ x23.Lent ≤ 9999) ∧ ((0 : Int) ≤ x23.Copied ∧ x23.Copied ≤ 9999) ∧ ((0 : Int) ≤ x23.Given ∧ x23.Given ≤ 999) ∧ ((0 : Int) ≤ x23.Fines ∧ x23.Fines ≤ 99999)) (x26 : LibRow) (hx28 : L[k - 1]? = some x26) (hq29 : ((1 : Int) ≤ x26.Month ∧ x26.Month ≤ 1200) ∧ ((0 : Int) ≤ x26.Lent ∧ x26.Lent ≤ 9999) ∧ ((0 : Int) ≤ x26.Copied ∧ x26.Copied ≤ 9999) ∧ ((0 : Int) ≤ x26.Given ∧ x26.Given ≤ 999) ∧ ((0 : Int) ≤ x26.Fines ∧ x26.Fines ≤ 99999)) (h34 : ¬ (x23.Lent < x26.Lent)) (h40 : ((b : Int) - (a : Int)) < ((k : Int) - (c : Int))) : nL - (k + 1) < nL - k := by
  omega
theorem z_c_spec_BestRun_43 (L : List LibRow) (nL : Nat) (hbdL : (nL : Int) ≤ 9223372036854775807) (hleL : nL = L.length) (h5 : RowsOK L) (hq9 : L.length ≤ 12) (h10 : ¬ ((nL : Int) = 0)) (k : Nat) (a : Nat) (b : Nat) (c : Nat) (hi20 : k ≤ nL ∧ best L k = (a, b, c) ∧ a ≤ b ∧ (b < k ∨ b = 0) ∧ (c < k ∨ c = 0)) (h21 : (k : Int) < (nL : Int)) (h22 : 0 < (k : Int)) (x23 : LibRow) (hx24 : L[k]? = some x23) (hq25 : ((1 : Int) ≤ x23.Month ∧ x23.Month ≤ 1200) ∧ ((0 : Int) ≤ x23.Lent ∧ x23.Lent ≤ 9999) ∧ ((0 : Int) ≤ x23.Copied ∧ x23.Copied ≤ 9999) ∧ ((0 : Int) ≤ x23.Given ∧ x23.Given ≤ 999) ∧ ((0 : Int) ≤ x23.Fines ∧ x23.Fines ≤ 99999)) (x26 : LibRow) (hx28 : L[k - 1]? = some x26) (hq29 : ((1 : Int) ≤ x26.Month ∧ x26.Month ≤ 1200) ∧ ((0 : Int) ≤ x26.Lent ∧ x26.Lent ≤ 9999) ∧ ((0 : Int) ≤ x26.Copied ∧ x26.Copied ≤ 9999) ∧ ((0 : Int) ≤ x26.Given ∧ x26.Given ≤ 999) ∧ ((0 : Int) ≤ x26.Fines ∧ x26.Fines ≤ 99999)) (h34 : ¬ (x23.Lent < x26.Lent)) (h40 : ¬ (((b : Int) - (a : Int)) < ((k : Int) - (c : Int)))) : k + 1 ≤ nL ∧ best L (k + 1) = (a, b, c) ∧ a ≤ b ∧ (b < k + 1 ∨ b = 0) ∧ (c < k + 1 ∨ c = 0) := by
  obtain ⟨h1, h2, h3, h4, h5⟩ := ‹_ ∧ best L _ = _ ∧ _›; refine ⟨by omega, ?_, by omega, by omega, by omega⟩; first | exact best_fall h2 ‹_› ‹_› ‹_› ‹_› (by omega) | exact best_fallN h2 ‹_› ‹_› ‹_› ‹_› (by omega) | exact best_go h2 (by first | exact nofall0 ‹_› | exact nofall1 ‹_› ‹_› ‹_›) (by omega) | exact best_stay h2 (by first | exact nofall0 ‹_› | exact nofall1 ‹_› ‹_› ‹_›) (by omega)
theorem z_c_spec_BestRun_44 (L : List LibRow) (nL : Nat) (hbdL : (nL : Int) ≤ 9223372036854775807) (hleL : nL = L.length) (h5 : RowsOK L) (hq9 : L.length ≤ 12) (h10 : ¬ ((nL : Int) = 0)) (k : Nat) (a : Nat) (b : Nat) (c : Nat) (hi20 : k ≤ nL ∧ best L k = (a, b, c) ∧ a ≤ b ∧ (b < k ∨ b = 0) ∧ (c < k ∨ c = 0)) (h21 : (k : Int) < (nL : Int)) (h22 : 0 < (k : Int)) (x23 : LibRow) (hx24 : L[k]? = some x23) (hq25 : ((1 : Int) ≤ x23.Month ∧ x23.Month ≤ 1200) ∧ ((0 : Int) ≤ x23.Lent ∧ x23.Lent ≤ 9999) ∧ ((0 : Int) ≤ x23.Copied ∧ x23.Copied ≤ 9999) ∧ ((0 : Int) ≤ x23.Given ∧ x23.Given ≤ 999) ∧ ((0 : Int) ≤ x23.Fines ∧ x23.Fines ≤ 99999)) (x26 : LibRow) (hx28 : L[k - 1]? = some x26) (hq29 : ((1 : Int) ≤ x26.Month ∧ x26.Month ≤ 1200) ∧ ((0 : Int) ≤ x26.Lent ∧ x26.Lent ≤ 9999) ∧ ((0 : Int) ≤ x26.Copied ∧ x26.Copied ≤ 9999) ∧ ((0 : Int) ≤ x26.Given ∧ x26.Given ≤ 999) ∧ ((0 : Int) ≤ x26.Fines ∧ x26.Fines ≤ 99999)) (h34 : ¬ (x23.Lent < x26.Lent)) (h40 : ¬ (((b : Int) - (a : Int)) < ((k : Int) - (c : Int)))) : nL - (k + 1) < nL - k := by
  omega
theorem z_c_spec_BestRun_50 (L : List LibRow) (nL : Nat) (hbdL : (nL : Int) ≤ 9223372036854775807) (hleL : nL = L.length) (h5 : RowsOK L) (hq9 : L.length ≤ 12) (h10 : ¬ ((nL : Int) = 0)) (k : Nat) (a : Nat) (b : Nat) (c : Nat) (hi20 : k ≤ nL ∧ best L k = (a, b, c) ∧ a ≤ b ∧ (b < k ∨ b = 0) ∧ (c < k ∨ c = 0)) (h21 : (k : Int) < (nL : Int)) (h22 : ¬ (0 < (k : Int))) (h49 : ((b : Int) - (a : Int)) < ((k : Int) - (c : Int))) : k + 1 ≤ nL ∧ best L (k + 1) = (c, k, c) ∧ c ≤ k ∧ (k < k + 1 ∨ k = 0) ∧ (c < k + 1 ∨ c = 0) := by
  obtain ⟨h1, h2, h3, h4, h5⟩ := ‹_ ∧ best L _ = _ ∧ _›; refine ⟨by omega, ?_, by omega, by omega, by omega⟩; first | exact best_fall h2 ‹_› ‹_› ‹_› ‹_› (by omega) | exact best_fallN h2 ‹_› ‹_› ‹_› ‹_› (by omega) | exact best_go h2 (by first | exact nofall0 ‹_› | exact nofall1 ‹_› ‹_› ‹_›) (by omega) | exact best_stay h2 (by first | exact nofall0 ‹_› | exact nofall1 ‹_› ‹_› ‹_›) (by omega)
theorem z_c_spec_BestRun_51 (L : List LibRow) (nL : Nat) (hbdL : (nL : Int) ≤ 9223372036854775807) (hleL : nL = L.length) (h5 : RowsOK L) (hq9 : L.length ≤ 12) (h10 : ¬ ((nL : Int) = 0)) (k : Nat) (a : Nat) (b : Nat) (c : Nat) (hi20 : k ≤ nL ∧ best L k = (a, b, c) ∧ a ≤ b ∧ (b < k ∨ b = 0) ∧ (c < k ∨ c = 0)) (h21 : (k : Int) < (nL : Int)) (h22 : ¬ (0 < (k : Int))) (h49 : ((b : Int) - (a : Int)) < ((k : Int) - (c : Int))) : nL - (k + 1) < nL - k := by
  omega
theorem z_c_spec_BestRun_52 (L : List LibRow) (nL : Nat) (hbdL : (nL : Int) ≤ 9223372036854775807) (hleL : nL = L.length) (h5 : RowsOK L) (hq9 : L.length ≤ 12) (h10 : ¬ ((nL : Int) = 0)) (k : Nat) (a : Nat) (b : Nat) (c : Nat) (hi20 : k ≤ nL ∧ best L k = (a, b, c) ∧ a ≤ b ∧ (b < k ∨ b = 0) ∧ (c < k ∨ c = 0)) (h21 : (k : Int) < (nL : Int)) (h22 : ¬ (0 < (k : Int))) (h49 : ¬ (((b : Int) - (a : Int)) < ((k : Int) - (c : Int)))) : k + 1 ≤ nL ∧ best L (k + 1) = (a, b, c) ∧ a ≤ b ∧ (b < k + 1 ∨ b = 0) ∧ (c < k + 1 ∨ c = 0) := by
  obtain ⟨h1, h2, h3, h4, h5⟩ := ‹_ ∧ best L _ = _ ∧ _›; refine ⟨by omega, ?_, by omega, by omega, by omega⟩; first | exact best_fall h2 ‹_› ‹_› ‹_› ‹_› (by omega) | exact best_fallN h2 ‹_› ‹_› ‹_› ‹_› (by omega) | exact best_go h2 (by first | exact nofall0 ‹_› | exact nofall1 ‹_› ‹_› ‹_›) (by omega) | exact best_stay h2 (by first | exact nofall0 ‹_› | exact nofall1 ‹_› ‹_› ‹_›) (by omega)
theorem z_c_spec_BestRun_53 (L : List LibRow) (nL : Nat) (hbdL : (nL : Int) ≤ 9223372036854775807) (hleL : nL = L.length) (h5 : RowsOK L) (hq9 : L.length ≤ 12) (h10 : ¬ ((nL : Int) = 0)) (k : Nat) (a : Nat) (b : Nat) (c : Nat) (hi20 : k ≤ nL ∧ best L k = (a, b, c) ∧ a ≤ b ∧ (b < k ∨ b = 0) ∧ (c < k ∨ c = 0)) (h21 : (k : Int) < (nL : Int)) (h22 : ¬ (0 < (k : Int))) (h49 : ¬ (((b : Int) - (a : Int)) < ((k : Int) - (c : Int)))) : nL - (k + 1) < nL - k := by
  omega
theorem z_c_spec_BestRun_64 (L : List LibRow) (nL : Nat) (hbdL : (nL : Int) ≤ 9223372036854775807) (hleL : nL = L.length) (h5 : RowsOK L) (hq9 : L.length ≤ 12) (h10 : ¬ ((nL : Int) = 0)) (k : Nat) (a : Nat) (b : Nat) (c : Nat) (hi20 : k ≤ nL ∧ best L k = (a, b, c) ∧ a ≤ b ∧ (b < k ∨ b = 0) ∧ (c < k ∨ c = 0)) (h21 : ¬ ((k : Int) < (nL : Int))) (x54 : LibRow) (hx55 : L[a]? = some x54) (hq56 : ((1 : Int) ≤ x54.Month ∧ x54.Month ≤ 1200) ∧ ((0 : Int) ≤ x54.Lent ∧ x54.Lent ≤ 9999) ∧ ((0 : Int) ≤ x54.Copied ∧ x54.Copied ≤ 9999) ∧ ((0 : Int) ≤ x54.Given ∧ x54.Given ≤ 999) ∧ ((0 : Int) ≤ x54.Fines ∧ x54.Fines ≤ 99999)) (x57 : LibRow) (hx58 : L[b]? = some x57) (hq59 : ((1 : Int) ≤ x57.Month ∧ x57.Month ≤ 1200) ∧ ((0 : Int) ≤ x57.Lent ∧ x57.Lent ≤ 9999) ∧ ((0 : Int) ≤ x57.Copied ∧ x57.Copied ≤ 9999) ∧ ((0 : Int) ≤ x57.Given ∧ x57.Given ≤ 999) ∧ ((0 : Int) ≤ x57.Fines ∧ x57.Fines ≤ 99999)) : x54.Month = bestF L := by
  subst hleL; obtain ⟨h1, h2, h3, h4, h5⟩ := ‹_ ∧ best L _ = _ ∧ _›; exact best_resF ‹RowsOK L› h2 ‹_› h1 ‹_› trivial
theorem z_c_spec_BestRun_65 (L : List LibRow) (nL : Nat) (hbdL : (nL : Int) ≤ 9223372036854775807) (hleL : nL = L.length) (h5 : RowsOK L) (hq9 : L.length ≤ 12) (h10 : ¬ ((nL : Int) = 0)) (k : Nat) (a : Nat) (b : Nat) (c : Nat) (hi20 : k ≤ nL ∧ best L k = (a, b, c) ∧ a ≤ b ∧ (b < k ∨ b = 0) ∧ (c < k ∨ c = 0)) (h21 : ¬ ((k : Int) < (nL : Int))) (x54 : LibRow) (hx55 : L[a]? = some x54) (hq56 : ((1 : Int) ≤ x54.Month ∧ x54.Month ≤ 1200) ∧ ((0 : Int) ≤ x54.Lent ∧ x54.Lent ≤ 9999) ∧ ((0 : Int) ≤ x54.Copied ∧ x54.Copied ≤ 9999) ∧ ((0 : Int) ≤ x54.Given ∧ x54.Given ≤ 999) ∧ ((0 : Int) ≤ x54.Fines ∧ x54.Fines ≤ 99999)) (x57 : LibRow) (hx58 : L[b]? = some x57) (hq59 : ((1 : Int) ≤ x57.Month ∧ x57.Month ≤ 1200) ∧ ((0 : Int) ≤ x57.Lent ∧ x57.Lent ≤ 9999) ∧ ((0 : Int) ≤ x57.Copied ∧ x57.Copied ≤ 9999) ∧ ((0 : Int) ≤ x57.Given ∧ x57.Given ≤ 999) ∧ ((0 : Int) ≤ x57.Fines ∧ x57.Fines ≤ 99999)) : x57.Month = bestL L := by
  subst hleL; obtain ⟨h1, h2, h3, h4, h5⟩ := ‹_ ∧ best L _ = _ ∧ _›; exact best_resL ‹RowsOK L› h2 ‹_› h1 ‹_› trivial
theorem z_c_spec_BestRun_66 (L : List LibRow) (nL : Nat) (hbdL : (nL : Int) ≤ 9223372036854775807) (hleL : nL = L.length) (h5 : RowsOK L) (hq9 : L.length ≤ 12) (h10 : ¬ ((nL : Int) = 0)) (k : Nat) (a : Nat) (b : Nat) (c : Nat) (hi20 : k ≤ nL ∧ best L k = (a, b, c) ∧ a ≤ b ∧ (b < k ∨ b = 0) ∧ (c < k ∨ c = 0)) (h21 : ¬ ((k : Int) < (nL : Int))) (x54 : LibRow) (hx55 : L[a]? = some x54) (hq56 : ((1 : Int) ≤ x54.Month ∧ x54.Month ≤ 1200) ∧ ((0 : Int) ≤ x54.Lent ∧ x54.Lent ≤ 9999) ∧ ((0 : Int) ≤ x54.Copied ∧ x54.Copied ≤ 9999) ∧ ((0 : Int) ≤ x54.Given ∧ x54.Given ≤ 999) ∧ ((0 : Int) ≤ x54.Fines ∧ x54.Fines ≤ 99999)) (x57 : LibRow) (hx58 : L[b]? = some x57) (hq59 : ((1 : Int) ≤ x57.Month ∧ x57.Month ≤ 1200) ∧ ((0 : Int) ≤ x57.Lent ∧ x57.Lent ≤ 9999) ∧ ((0 : Int) ≤ x57.Copied ∧ x57.Copied ≤ 9999) ∧ ((0 : Int) ≤ x57.Given ∧ x57.Given ≤ 999) ∧ ((0 : Int) ≤ x57.Fines ∧ x57.Fines ≤ 99999)) : RowsOK L ∧ 0 < L.length := by
  exact ⟨by assumption, by omega⟩
theorem c_spec_BestRun (w : World) {AL : Option Addr} {nL cL BL : Nat} (L : List LibRow) (hL : SlR w BL encLibRow 5 AL nL cL L) : Calls Try.prog 21 #[.slice AL nL cL] w fun e w' => e = .returned (.tuple (List.toArray [.int .i64 (bestF L), .int .i64 (bestL L), .bool (decide (RowsOK L ∧ 0 < L.length))])) ∧ Lo w w' := by
  refine calls_W 59 Try.func21 rfl rfl rfl ?_
  have hbdL := hL.bound
  have hleL := hL.len
  have hBbL := hL.bd
  refine W.seq ?_
  refine W.regS (SR.q' (r_as (v := .int .i64 0) rfl) <| SR.q' (r_as (v := .int .i64 0) rfl) <| SR.q' (r_as (v := .bool false) rfl) <| SR.nil ?_)
  refine W.seq ?_
  refine W.seq ?_
  refine W.regS (SR.q' (r_mv (v := .slice _ _ _) rfl) <| SR.call ent38 (c_spec_l31Good w L ((hL))) rfl ?_)
  rintro e w1 ⟨rfl, hk2⟩
  refine ⟨_, rfl, ?_⟩
  have hz3 := hk2.size
  have hB4 := (Lo.refl w).lo hk2
  refine SR.q' (r_not rfl) <| SR.q' (r_mv (v := .bool _) rfl) <| SR.splitN (fun h5 => ?_) (fun h5 => ?_)
  · refine SR.s' rfl <| SR.s' rfl <| SR.s' rfl <| SR.q' (r_pick true rfl (v := .bool true) rfl) <| SR.nil ?_
    refine W.cond_t rfl ?_
    refine W.seq ?_
    refine W.regS (SR.q' (r_as (v := .int .i64 0) rfl) <| SR.q' (r_as (v := .int .i64 0) rfl) <| SR.q' (r_as (v := .bool false) rfl) <| SR.nil ?_)
    refine W.ret ?_
    refine ret3 rfl (v := .int .i64 _) (v' := .int .i64 _) (v'' := .bool _) rfl rfl rfl ?_
    exact ⟨eR (eT3 (eI (z_c_spec_BestRun_6 L nL hbdL hleL h5)) (eI (z_c_spec_BestRun_7 L nL hbdL hleL h5)) (eDF (z_c_spec_BestRun_8 L nL hbdL hleL h5))), hB4⟩
  · have hq9 := rows_len h5
    refine SR.g' rfl (r_mv (v := .slice _ _ _) rfl) <| SR.g' rfl (r_len und31 rfl) <| SR.g' rfl (r_eq rfl rfl) <| SR.q' (r_pick false rfl (v := .bool _) rfl) <| SR.nil ?_
    refine W.cond_d rfl (fun h10 => ?_) (fun h10 => ?_)
    · refine W.seq ?_
      refine W.regS (SR.q' (r_as (v := .int .i64 0) rfl) <| SR.q' (r_as (v := .int .i64 0) rfl) <| SR.q' (r_as (v := .bool false) rfl) <| SR.nil ?_)
      refine W.ret ?_
      refine ret3 rfl (v := .int .i64 _) (v' := .int .i64 _) (v'' := .bool _) rfl rfl rfl ?_
      exact ⟨eR (eT3 (eI (z_c_spec_BestRun_11 L nL hbdL hleL h5 hq9 h10)) (eI (z_c_spec_BestRun_12 L nL hbdL hleL h5 hq9 h10)) (eDF (z_c_spec_BestRun_13 L nL hbdL hleL h5 hq9 h10))), hB4⟩
    · refine W.skip ?_
      refine W.seq ?_
      refine W.regS (SR.q' (r_as (v := .int .i64 0) rfl) <| SR.q' (r_as (v := .int .i64 0) rfl) <| SR.q' (r_as (v := .int .i64 0) rfl) <| SR.nil ?_)
      refine W.seq ?_
      refine W.seq ?_
      refine W.regS (SR.q' (r_as (v := .int .i64 0) rfl) <| SR.nil ?_)
      refine W.block ?_
      refine W.loop (σ := Nat × Nat × Nat × Nat) (fun g => [(0, .slice AL nL cL), (2, .int .i64 0), (3, .int .i64 0), (4, .bool false), (5, .int .i64 (g.2.2.2 : Int)), (6, .int .i64 (g.2.1 : Int)), (7, .int .i64 (g.2.2.1 : Int)), (8, .int .i64 (g.1 : Int))]) (fun g w' => (Lo w w') ∧ (SlR w' BL encLibRow 5 AL nL cL L) ∧ (g.1 ≤ nL ∧ best L g.1 = (g.2.1, g.2.2.1, g.2.2.2) ∧ g.2.1 ≤ g.2.2.1 ∧ (g.2.2.1 < g.1 ∨ g.2.2.1 = 0) ∧ (g.2.2.2 < g.1 ∨ g.2.2.2 = 0))) (fun g => nL - g.1) (0, 0, 0, 0) ?_ ?_ ?_
      · exact ⟨rfl, rfl, rfl, rfl, rfl, rfl, rfl, rfl, trivial⟩
      · exact ⟨hB4, (hL).lo hk2, (z_c_spec_BestRun_14 L nL hbdL hleL h5 hq9 h10)⟩
      · rintro ⟨k, a, b, c⟩ f15 w16 hP18
        obtain ⟨hB17, hm19, hi20⟩ : (Lo w w16) ∧ (SlR w16 BL encLibRow 5 AL nL cL L) ∧ (k ≤ nL ∧ best L k = (a, b, c) ∧ a ≤ b ∧ (b < k ∨ b = 0) ∧ (c < k ∨ c = 0)) := hP18
        refine (?_ : W _ _ _ _ _ (act _ (sets f15 [(0, .slice AL nL cL), (2, .int .i64 0), (3, .int .i64 0), (4, .bool false), (5, .int .i64 (c : Int)), (6, .int .i64 (a : Int)), (7, .int .i64 (b : Int)), (8, .int .i64 (k : Int))])) _)
        have hzw16 := hB17.size
        refine W.seq ?_
        refine W.seq ?_
        refine W.regS (SR.q' (r_mv (v := .int .i64 _) rfl) <| SR.q' (r_mv (v := .slice _ _ _) rfl) <| SR.q' (r_len und31 rfl) <| SR.q' (r_lt rfl rfl) <| SR.nil ?_)
        refine W.cond_d rfl (fun h21 => ?_) (fun h21 => ?_)
        · refine W.skip ?_
          refine W.seq ?_
          refine W.block ?_
          refine W.seq ?_
          refine W.seq ?_
          refine W.regD mo (by kernel_rfl) (QR.q' (fun w' hw' => r_mv (v := .int .i64 _) rfl) <| QR.q' (fun w' hw' => r_gt rfl rfl) <| QR.q' (fun w' hw' => r_mv (v := .bool _) rfl) <| QR.splitD (fun h22 => ?_) (fun h22 => ?_))
          · refine QR.g' rfl (fun w' hw' => r_mv (v := .slice _ _ _) rfl) <| QR.g' rfl (fun w' hw' => r_mv (v := .int .i64 _) rfl) <| ?_
            obtain ⟨x23, hx24⟩ := (hm19).get (i := k) (by omega)
            have hq25 := rows_rng h5 hx24
            refine QR.g' rfl (fun w' hw' => r_ixR tsl31 (((hm19).lo hw')) rfl rfl (by omega)) <| QR.g' rfl (fun w' hw' => r_fa fa25_1 rfl) <| QR.g' rfl (fun w' hw' => r_ld (v := .int .i64 x23.Lent) sca3 rfl ((((hm19).lo hw')).cell hx24 rfl)) <| QR.g' rfl (fun w' hw' => r_mv (v := .slice _ _ _) rfl) <| QR.g' rfl (fun w' hw' => r_mv (v := .int .i64 _) rfl) <| QR.g' rfl (fun w' hw' => r_sub rfl rfl (by omega)) <| ?_
            obtain ⟨x26, hx27⟩ := (hm19).get (i := ((k : Int) - 1).toNat) (by omega)
            have hx28 : L[k - 1]? = some x26 := (show ((k : Int) - 1).toNat = k - 1 from by omega) ▸ hx27
            have hq29 := rows_rng h5 hx28
            refine QR.g' rfl (fun w' hw' => r_ixR tsl31 (((hm19).lo hw')) rfl rfl (by omega)) <| QR.g' rfl (fun w' hw' => r_fa fa25_1 rfl) <| QR.g' rfl (fun w' hw' => r_ld (v := .int .i64 x26.Lent) sca3 rfl ((((hm19).lo hw')).cell hx27 rfl)) <| QR.g' rfl (fun w' hw' => r_lt rfl rfl) <| QR.q' (fun w' hw' => r_pick true rfl (v := .bool _) rfl) <| QR.nil ?_
            intro w30 hk31
            have hz32 := hk31.size
            have hB33 := hB17.lo hk31
            refine W.cond_d rfl (fun h34 => ?_) (fun h34 => ?_)
            · refine W.regS (SR.q' (r_mv (v := .int .i64 _) rfl) <| SR.q' (r_as (v := .int .i64 _) rfl) <| SR.nil ?_)
              refine W.seq ?_
              refine W.regS (SR.q' (r_mv (v := .int .i64 _) rfl) <| SR.q' (r_mv (v := .int .i64 _) rfl) <| SR.q' (r_sub rfl rfl (by omega)) <| SR.q' (r_mv (v := .int .i64 _) rfl) <| SR.q' (r_mv (v := .int .i64 _) rfl) <| SR.q' (r_sub rfl rfl (by omega)) <| SR.q' (r_gt rfl rfl) <| SR.nil ?_)
              refine W.cond_d rfl (fun h35 => ?_) (fun h35 => ?_)
              · refine W.seq ?_
                refine W.regS (SR.q' (r_mv (v := .int .i64 _) rfl) <| SR.q' (r_as (v := .int .i64 _) rfl) <| SR.nil ?_)
                refine W.regS (SR.q' (r_mv (v := .int .i64 _) rfl) <| SR.q' (r_as (v := .int .i64 _) rfl) <| SR.nil ?_)
                refine W.regS (SR.q' (r_mv (v := .int .i64 _) rfl) <| SR.q' (r_add rfl rfl (by omega)) <| SR.q' (r_as (v := .int .i64 _) rfl) <| SR.nil ?_)
                refine ⟨(k + 1, k, k, k), _, rfl, ⟨rfl, rfl, rfl, rfl, rfl, rfl, rfl, rfl, trivial⟩, ⟨hB33, (hm19).lo hk31, ?_⟩, ?_⟩
                · exact (z_c_spec_BestRun_36 L nL hbdL hleL h5 hq9 h10 k a b c hi20 h21 h22 x23 hx24 hq25 x26 hx28 hq29 h34 h35)
                · exact (z_c_spec_BestRun_37 L nL hbdL hleL h5 hq9 h10 k a b c hi20 h21 h22 x23 hx24 hq25 x26 hx28 hq29 h34 h35)
              · refine W.skip ?_
                refine W.regS (SR.q' (r_mv (v := .int .i64 _) rfl) <| SR.q' (r_add rfl rfl (by omega)) <| SR.q' (r_as (v := .int .i64 _) rfl) <| SR.nil ?_)
                refine ⟨(k + 1, a, b, k), _, rfl, ⟨rfl, rfl, rfl, rfl, rfl, rfl, rfl, rfl, trivial⟩, ⟨hB33, (hm19).lo hk31, ?_⟩, ?_⟩
                · exact (z_c_spec_BestRun_38 L nL hbdL hleL h5 hq9 h10 k a b c hi20 h21 h22 x23 hx24 hq25 x26 hx28 hq29 h34 h35)
                · exact (z_c_spec_BestRun_39 L nL hbdL hleL h5 hq9 h10 k a b c hi20 h21 h22 x23 hx24 hq25 x26 hx28 hq29 h34 h35)
            · refine W.skip ?_
              refine W.seq ?_
              refine W.regS (SR.q' (r_mv (v := .int .i64 _) rfl) <| SR.q' (r_mv (v := .int .i64 _) rfl) <| SR.q' (r_sub rfl rfl (by omega)) <| SR.q' (r_mv (v := .int .i64 _) rfl) <| SR.q' (r_mv (v := .int .i64 _) rfl) <| SR.q' (r_sub rfl rfl (by omega)) <| SR.q' (r_gt rfl rfl) <| SR.nil ?_)
              refine W.cond_d rfl (fun h40 => ?_) (fun h40 => ?_)
              · refine W.seq ?_
                refine W.regS (SR.q' (r_mv (v := .int .i64 _) rfl) <| SR.q' (r_as (v := .int .i64 _) rfl) <| SR.nil ?_)
                refine W.regS (SR.q' (r_mv (v := .int .i64 _) rfl) <| SR.q' (r_as (v := .int .i64 _) rfl) <| SR.nil ?_)
                refine W.regS (SR.q' (r_mv (v := .int .i64 _) rfl) <| SR.q' (r_add rfl rfl (by omega)) <| SR.q' (r_as (v := .int .i64 _) rfl) <| SR.nil ?_)
                refine ⟨(k + 1, c, k, c), _, rfl, ⟨rfl, rfl, rfl, rfl, rfl, rfl, rfl, rfl, trivial⟩, ⟨hB33, (hm19).lo hk31, ?_⟩, ?_⟩
                · exact (z_c_spec_BestRun_41 L nL hbdL hleL h5 hq9 h10 k a b c hi20 h21 h22 x23 hx24 hq25 x26 hx28 hq29 h34 h40)
                · exact (z_c_spec_BestRun_42 L nL hbdL hleL h5 hq9 h10 k a b c hi20 h21 h22 x23 hx24 hq25 x26 hx28 hq29 h34 h40)
              · refine W.skip ?_
                refine W.regS (SR.q' (r_mv (v := .int .i64 _) rfl) <| SR.q' (r_add rfl rfl (by omega)) <| SR.q' (r_as (v := .int .i64 _) rfl) <| SR.nil ?_)
                refine ⟨(k + 1, a, b, c), _, rfl, ⟨rfl, rfl, rfl, rfl, rfl, rfl, rfl, rfl, trivial⟩, ⟨hB33, (hm19).lo hk31, ?_⟩, ?_⟩
                · exact (z_c_spec_BestRun_43 L nL hbdL hleL h5 hq9 h10 k a b c hi20 h21 h22 x23 hx24 hq25 x26 hx28 hq29 h34 h40)
                · exact (z_c_spec_BestRun_44 L nL hbdL hleL h5 hq9 h10 k a b c hi20 h21 h22 x23 hx24 hq25 x26 hx28 hq29 h34 h40)
          · refine QR.s' rfl <| QR.s' rfl <| QR.s' rfl <| QR.s' rfl <| QR.s' rfl <| QR.s' rfl <| QR.s' rfl <| QR.s' rfl <| QR.s' rfl <| QR.s' rfl <| QR.s' rfl <| QR.s' rfl <| QR.q' (fun w' hw' => r_pick false rfl (v := .bool false) rfl) <| QR.nil ?_
            intro w45 hk46
            have hz47 := hk46.size
            have hB48 := hB17.lo hk46
            refine W.cond_f rfl ?_
            refine W.skip ?_
            refine W.seq ?_
            refine W.regS (SR.q' (r_mv (v := .int .i64 _) rfl) <| SR.q' (r_mv (v := .int .i64 _) rfl) <| SR.q' (r_sub rfl rfl (by omega)) <| SR.q' (r_mv (v := .int .i64 _) rfl) <| SR.q' (r_mv (v := .int .i64 _) rfl) <| SR.q' (r_sub rfl rfl (by omega)) <| SR.q' (r_gt rfl rfl) <| SR.nil ?_)
            refine W.cond_d rfl (fun h49 => ?_) (fun h49 => ?_)
            · refine W.seq ?_
              refine W.regS (SR.q' (r_mv (v := .int .i64 _) rfl) <| SR.q' (r_as (v := .int .i64 _) rfl) <| SR.nil ?_)
              refine W.regS (SR.q' (r_mv (v := .int .i64 _) rfl) <| SR.q' (r_as (v := .int .i64 _) rfl) <| SR.nil ?_)
              refine W.regS (SR.q' (r_mv (v := .int .i64 _) rfl) <| SR.q' (r_add rfl rfl (by omega)) <| SR.q' (r_as (v := .int .i64 _) rfl) <| SR.nil ?_)
              refine ⟨(k + 1, c, k, c), _, rfl, ⟨rfl, rfl, rfl, rfl, rfl, rfl, rfl, rfl, trivial⟩, ⟨hB48, (hm19).lo hk46, ?_⟩, ?_⟩
              · exact (z_c_spec_BestRun_50 L nL hbdL hleL h5 hq9 h10 k a b c hi20 h21 h22 h49)
              · exact (z_c_spec_BestRun_51 L nL hbdL hleL h5 hq9 h10 k a b c hi20 h21 h22 h49)
            · refine W.skip ?_
              refine W.regS (SR.q' (r_mv (v := .int .i64 _) rfl) <| SR.q' (r_add rfl rfl (by omega)) <| SR.q' (r_as (v := .int .i64 _) rfl) <| SR.nil ?_)
              refine ⟨(k + 1, a, b, c), _, rfl, ⟨rfl, rfl, rfl, rfl, rfl, rfl, rfl, rfl, trivial⟩, ⟨hB48, (hm19).lo hk46, ?_⟩, ?_⟩
              · exact (z_c_spec_BestRun_52 L nL hbdL hleL h5 hq9 h10 k a b c hi20 h21 h22 h49)
              · exact (z_c_spec_BestRun_53 L nL hbdL hleL h5 hq9 h10 k a b c hi20 h21 h22 h49)
        · refine W.exit (xin_here ?_)
          refine W.seq ?_
          refine W.regD mo (by kernel_rfl) (QR.q' (fun w' hw' => r_mv (v := .slice _ _ _) rfl) <| QR.q' (fun w' hw' => r_mv (v := .int .i64 _) rfl) <| ?_)
          obtain ⟨x54, hx55⟩ := (hm19).get (i := a) (by omega)
          have hq56 := rows_rng h5 hx55
          refine QR.q' (fun w' hw' => r_ixR tsl31 (((hm19).lo hw')) rfl rfl (by omega)) <| QR.q' (fun w' hw' => r_fa fa25_0 rfl) <| QR.q' (fun w' hw' => r_ld (v := .int .i64 x54.Month) sca3 rfl ((((hm19).lo hw')).cell hx55 rfl)) <| QR.q' (fun w' hw' => r_mv (v := .slice _ _ _) rfl) <| QR.q' (fun w' hw' => r_mv (v := .int .i64 _) rfl) <| ?_
          obtain ⟨x57, hx58⟩ := (hm19).get (i := b) (by omega)
          have hq59 := rows_rng h5 hx58
          refine QR.q' (fun w' hw' => r_ixR tsl31 (((hm19).lo hw')) rfl rfl (by omega)) <| QR.q' (fun w' hw' => r_fa fa25_0 rfl) <| QR.q' (fun w' hw' => r_ld (v := .int .i64 x57.Month) sca3 rfl ((((hm19).lo hw')).cell hx58 rfl)) <| QR.q' (fun w' hw' => r_as (v := .int .i64 _) rfl) <| QR.q' (fun w' hw' => r_as (v := .int .i64 _) rfl) <| QR.q' (fun w' hw' => r_as (v := .bool true) rfl) <| QR.nil ?_
          intro w60 hk61
          have hz62 := hk61.size
          have hB63 := hB17.lo hk61
          refine W.ret ?_
          refine ret3 rfl (v := .int .i64 _) (v' := .int .i64 _) (v'' := .bool _) rfl rfl rfl ?_
          exact ⟨eR (eT3 (eI (z_c_spec_BestRun_64 L nL hbdL hleL h5 hq9 h10 k a b c hi20 h21 x54 hx55 hq56 x57 hx58 hq59)) (eI (z_c_spec_BestRun_65 L nL hbdL hleL h5 hq9 h10 k a b c hi20 h21 x54 hx55 hq56 x57 hx58 hq59)) (eDT (z_c_spec_BestRun_66 L nL hbdL hleL h5 hq9 h10 k a b c hi20 h21 x54 hx55 hq56 x57 hx58 hq59))), hB63⟩

theorem z_c_impl_BestRun_6 (L : List LibRow) (nL : Nat) (hbdL : (nL : Int) ≤ 9223372036854775807) (hleL : nL = L.length) (h5 : ¬ (RowsOK L)) : 0 = bestF L := by
  first | (simp_all [bestF, bestL]; done) | (simp_all; done)
theorem z_c_impl_BestRun_7 (L : List LibRow) (nL : Nat) (hbdL : (nL : Int) ≤ 9223372036854775807) (hleL : nL = L.length) (h5 : ¬ (RowsOK L)) : 0 = bestL L := by
  first | (simp_all [bestF, bestL]; done) | (simp_all; done)
theorem z_c_impl_BestRun_8 (L : List LibRow) (nL : Nat) (hbdL : (nL : Int) ≤ 9223372036854775807) (hleL : nL = L.length) (h5 : ¬ (RowsOK L)) : ¬ (RowsOK L ∧ 0 < L.length) := by
  first | (simp_all [bestF, bestL]; done) | (simp_all; done)
theorem z_c_impl_BestRun_11 (L : List LibRow) (nL : Nat) (hbdL : (nL : Int) ≤ 9223372036854775807) (hleL : nL = L.length) (h5 : RowsOK L) (hq9 : L.length ≤ 12) (h10 : (nL : Int) = 0) : 0 = bestF L := by
  first | (simp_all [bestF, bestL]; done) | (simp_all; done)
theorem z_c_impl_BestRun_12 (L : List LibRow) (nL : Nat) (hbdL : (nL : Int) ≤ 9223372036854775807) (hleL : nL = L.length) (h5 : RowsOK L) (hq9 : L.length ≤ 12) (h10 : (nL : Int) = 0) : 0 = bestL L := by
  first | (simp_all [bestF, bestL]; done) | (simp_all; done)
theorem z_c_impl_BestRun_13 (L : List LibRow) (nL : Nat) (hbdL : (nL : Int) ≤ 9223372036854775807) (hleL : nL = L.length) (h5 : RowsOK L) (hq9 : L.length ≤ 12) (h10 : (nL : Int) = 0) : ¬ (RowsOK L ∧ 0 < L.length) := by
  first | (simp_all [bestF, bestL]; done) | (simp_all; done)
theorem z_c_impl_BestRun_14 (L : List LibRow) (nL : Nat) (hbdL : (nL : Int) ≤ 9223372036854775807) (hleL : nL = L.length) (h5 : RowsOK L) (hq9 : L.length ≤ 12) (h10 : ¬ ((nL : Int) = 0)) : 0 ≤ nL ∧ best L 0 = (0, 0, 0) ∧ 0 ≤ 0 ∧ (0 < 0 ∨ 0 = 0) ∧ (0 < 0 ∨ 0 = 0) := by
  simp [best]
theorem z_c_impl_BestRun_36 (L : List LibRow) (nL : Nat) (hbdL : (nL : Int) ≤ 9223372036854775807) (hleL : nL = L.length) (h5 : RowsOK L) (hq9 : L.length ≤ 12) (h10 : ¬ ((nL : Int) = 0)) (k : Nat) (a : Nat) (b : Nat) (c : Nat) (hi20 : k ≤ nL ∧ best L k = (a, b, c) ∧ a ≤ b ∧ (b < k ∨ b = 0) ∧ (c < k ∨ c = 0)) (h21 : (k : Int) < (nL : Int)) (h22 : 0 < (k : Int)) (x23 : LibRow) (hx24 : L[k]? = some x23) (hq25 : ((1 : Int) ≤ x23.Month ∧ x23.Month ≤ 1200) ∧ ((0 : Int) ≤ x23.Lent ∧ x23.Lent ≤ 9999) ∧ ((0 : Int) ≤ x23.Copied ∧ x23.Copied ≤ 9999) ∧ ((0 : Int) ≤ x23.Given ∧ x23.Given ≤ 999) ∧ ((0 : Int) ≤ x23.Fines ∧ x23.Fines ≤ 99999)) (x26 : LibRow) (hx28 : L[k - 1]? = some x26) (hq29 : ((1 : Int) ≤ x26.Month ∧ x26.Month ≤ 1200) ∧ ((0 : Int) ≤ x26.Lent ∧ x26.Lent ≤ 9999) ∧ ((0 : Int) ≤ x26.Copied ∧ x26.Copied ≤ 9999) ∧ ((0 : Int) ≤ x26.Given ∧ x26.Given ≤ 999) ∧ ((0 : Int) ≤ x26.Fines ∧ x26.Fines ≤ 99999)) (h34 : x23.Lent < x26.Lent) (h35 : ((b : Int) - (a : Int)) < ((k : Int) - (k : Int))) : k + 1 ≤ nL ∧ best L (k + 1) = (k, k, k) ∧ k ≤ k ∧ (k < k + 1 ∨ k = 0) ∧ (k < k + 1 ∨ k = 0) := by
  obtain ⟨h1, h2, h3, h4, h5⟩ := ‹_ ∧ best L _ = _ ∧ _›; refine ⟨by omega, ?_, by omega, by omega, by omega⟩; first | exact best_fall h2 ‹_› ‹_› ‹_› ‹_› (by omega) | exact best_fallN h2 ‹_› ‹_› ‹_› ‹_› (by omega) | exact best_go h2 (by first | exact nofall0 ‹_› | exact nofall1 ‹_› ‹_› ‹_›) (by omega) | exact best_stay h2 (by first | exact nofall0 ‹_› | exact nofall1 ‹_› ‹_› ‹_›) (by omega)
theorem z_c_impl_BestRun_37 (L : List LibRow) (nL : Nat) (hbdL : (nL : Int) ≤ 9223372036854775807) (hleL : nL = L.length) (h5 : RowsOK L) (hq9 : L.length ≤ 12) (h10 : ¬ ((nL : Int) = 0)) (k : Nat) (a : Nat) (b : Nat) (c : Nat) (hi20 : k ≤ nL ∧ best L k = (a, b, c) ∧ a ≤ b ∧ (b < k ∨ b = 0) ∧ (c < k ∨ c = 0)) (h21 : (k : Int) < (nL : Int)) (h22 : 0 < (k : Int)) (x23 : LibRow) (hx24 : L[k]? = some x23) (hq25 : ((1 : Int) ≤ x23.Month ∧ x23.Month ≤ 1200) ∧ ((0 : Int) ≤ x23.Lent ∧ x23.Lent ≤ 9999) ∧ ((0 : Int) ≤ x23.Copied ∧ x23.Copied ≤ 9999) ∧ ((0 : Int) ≤ x23.Given ∧ x23.Given ≤ 999) ∧ ((0 : Int) ≤ x23.Fines ∧ x23.Fines ≤ 99999)) (x26 : LibRow) (hx28 : L[k - 1]? = some x26) (hq29 : ((1 : Int) ≤ x26.Month ∧ x26.Month ≤ 1200) ∧ ((0 : Int) ≤ x26.Lent ∧ x26.Lent ≤ 9999) ∧ ((0 : Int) ≤ x26.Copied ∧ x26.Copied ≤ 9999) ∧ ((0 : Int) ≤ x26.Given ∧ x26.Given ≤ 999) ∧ ((0 : Int) ≤ x26.Fines ∧ x26.Fines ≤ 99999)) (h34 : x23.Lent < x26.Lent) (h35 : ((b : Int) - (a : Int)) < ((k : Int) - (k : Int))) : nL - (k + 1) < nL - k := by
  omega
theorem z_c_impl_BestRun_38 (L : List LibRow) (nL : Nat) (hbdL : (nL : Int) ≤ 9223372036854775807) (hleL : nL = L.length) (h5 : RowsOK L) (hq9 : L.length ≤ 12) (h10 : ¬ ((nL : Int) = 0)) (k : Nat) (a : Nat) (b : Nat) (c : Nat) (hi20 : k ≤ nL ∧ best L k = (a, b, c) ∧ a ≤ b ∧ (b < k ∨ b = 0) ∧ (c < k ∨ c = 0)) (h21 : (k : Int) < (nL : Int)) (h22 : 0 < (k : Int)) (x23 : LibRow) (hx24 : L[k]? = some x23) (hq25 : ((1 : Int) ≤ x23.Month ∧ x23.Month ≤ 1200) ∧ ((0 : Int) ≤ x23.Lent ∧ x23.Lent ≤ 9999) ∧ ((0 : Int) ≤ x23.Copied ∧ x23.Copied ≤ 9999) ∧ ((0 : Int) ≤ x23.Given ∧ x23.Given ≤ 999) ∧ ((0 : Int) ≤ x23.Fines ∧ x23.Fines ≤ 99999)) (x26 : LibRow) (hx28 : L[k - 1]? = some x26) (hq29 : ((1 : Int) ≤ x26.Month ∧ x26.Month ≤ 1200) ∧ ((0 : Int) ≤ x26.Lent ∧ x26.Lent ≤ 9999) ∧ ((0 : Int) ≤ x26.Copied ∧ x26.Copied ≤ 9999) ∧ ((0 : Int) ≤ x26.Given ∧ x26.Given ≤ 999) ∧ ((0 : Int) ≤ x26.Fines ∧ x26.Fines ≤ 99999)) (h34 : x23.Lent < x26.Lent) (h35 : ¬ (((b : Int) - (a : Int)) < ((k : Int) - (k : Int)))) : k + 1 ≤ nL ∧ best L (k + 1) = (a, b, k) ∧ a ≤ b ∧ (b < k + 1 ∨ b = 0) ∧ (k < k + 1 ∨ k = 0) := by
  obtain ⟨h1, h2, h3, h4, h5⟩ := ‹_ ∧ best L _ = _ ∧ _›; refine ⟨by omega, ?_, by omega, by omega, by omega⟩; first | exact best_fall h2 ‹_› ‹_› ‹_› ‹_› (by omega) | exact best_fallN h2 ‹_› ‹_› ‹_› ‹_› (by omega) | exact best_go h2 (by first | exact nofall0 ‹_› | exact nofall1 ‹_› ‹_› ‹_›) (by omega) | exact best_stay h2 (by first | exact nofall0 ‹_› | exact nofall1 ‹_› ‹_› ‹_›) (by omega)
theorem z_c_impl_BestRun_39 (L : List LibRow) (nL : Nat) (hbdL : (nL : Int) ≤ 9223372036854775807) (hleL : nL = L.length) (h5 : RowsOK L) (hq9 : L.length ≤ 12) (h10 : ¬ ((nL : Int) = 0)) (k : Nat) (a : Nat) (b : Nat) (c : Nat) (hi20 : k ≤ nL ∧ best L k = (a, b, c) ∧ a ≤ b ∧ (b < k ∨ b = 0) ∧ (c < k ∨ c = 0)) (h21 : (k : Int) < (nL : Int)) (h22 : 0 < (k : Int)) (x23 : LibRow) (hx24 : L[k]? = some x23) (hq25 : ((1 : Int) ≤ x23.Month ∧ x23.Month ≤ 1200) ∧ ((0 : Int) ≤ x23.Lent ∧ x23.Lent ≤ 9999) ∧ ((0 : Int) ≤ x23.Copied ∧ x23.Copied ≤ 9999) ∧ ((0 : Int) ≤ x23.Given ∧ x23.Given ≤ 999) ∧ ((0 : Int) ≤ x23.Fines ∧ x23.Fines ≤ 99999)) (x26 : LibRow) (hx28 : L[k - 1]? = some x26) (hq29 : ((1 : Int) ≤ x26.Month ∧ x26.Month ≤ 1200) ∧ ((0 : Int) ≤ x26.Lent ∧ x26.Lent ≤ 9999) ∧ ((0 : Int) ≤ x26.Copied ∧ x26.Copied ≤ 9999) ∧ ((0 : Int) ≤ x26.Given ∧ x26.Given ≤ 999) ∧ ((0 : Int) ≤ x26.Fines ∧ x26.Fines ≤ 99999)) (h34 : x23.Lent < x26.Lent) (h35 : ¬ (((b : Int) - (a : Int)) < ((k : Int) - (k : Int)))) : nL - (k + 1) < nL - k := by
  omega
theorem z_c_impl_BestRun_41 (L : List LibRow) (nL : Nat) (hbdL : (nL : Int) ≤ 9223372036854775807) (hleL : nL = L.length) (h5 : RowsOK L) (hq9 : L.length ≤ 12) (h10 : ¬ ((nL : Int) = 0)) (k : Nat) (a : Nat) (b : Nat) (c : Nat) (hi20 : k ≤ nL ∧ best L k = (a, b, c) ∧ a ≤ b ∧ (b < k ∨ b = 0) ∧ (c < k ∨ c = 0)) (h21 : (k : Int) < (nL : Int)) (h22 : 0 < (k : Int)) (x23 : LibRow) (hx24 : L[k]? = some x23) (hq25 : ((1 : Int) ≤ x23.Month ∧ x23.Month ≤ 1200) ∧ ((0 : Int) ≤ x23.Lent ∧ x23.Lent ≤ 9999) ∧ ((0 : Int) ≤ x23.Copied ∧ x23.Copied ≤ 9999) ∧ ((0 : Int) ≤ x23.Given ∧ x23.Given ≤ 999) ∧ ((0 : Int) ≤ x23.Fines ∧ x23.Fines ≤ 99999)) (x26 : LibRow) (hx28 : L[k - 1]? = some x26) (hq29 : ((1 : Int) ≤ x26.Month ∧ x26.Month ≤ 1200) ∧ ((0 : Int) ≤ x26.Lent ∧ x26.Lent ≤ 9999) ∧ ((0 : Int) ≤ x26.Copied ∧ x26.Copied ≤ 9999) ∧ ((0 : Int) ≤ x26.Given ∧ x26.Given ≤ 999) ∧ ((0 : Int) ≤ x26.Fines ∧ x26.Fines ≤ 99999)) (h34 : ¬ (x23.Lent < x26.Lent)) (h40 : ((b : Int) - (a : Int)) < ((k : Int) - (c : Int))) : k + 1 ≤ nL ∧ best L (k + 1) = (c, k, c) ∧ c ≤ k ∧ (k < k + 1 ∨ k = 0) ∧ (c < k + 1 ∨ c = 0) := by
  obtain ⟨h1, h2, h3, h4, h5⟩ := ‹_ ∧ best L _ = _ ∧ _›; refine ⟨by omega, ?_, by omega, by omega, by omega⟩; first | exact best_fall h2 ‹_› ‹_› ‹_› ‹_› (by omega) | exact best_fallN h2 ‹_› ‹_› ‹_› ‹_› (by omega) | exact best_go h2 (by first | exact nofall0 ‹_› | exact nofall1 ‹_› ‹_› ‹_›) (by omega) | exact best_stay h2 (by first | exact nofall0 ‹_› | exact nofall1 ‹_› ‹_› ‹_›) (by omega)
theorem z_c_impl_BestRun_42 (L : List LibRow) (nL : Nat) (hbdL : (nL : Int) ≤ 9223372036854775807) (hleL : nL = L.length) (h5 : RowsOK L) (hq9 : L.length ≤ 12) (h10 : ¬ ((nL : Int) = 0)) (k : Nat) (a : Nat) (b : Nat) (c : Nat) (hi20 : k ≤ nL ∧ best L k = (a, b, c) ∧ a ≤ b ∧ (b < k ∨ b = 0) ∧ (c < k ∨ c = 0)) (h21 : (k : Int) < (nL : Int)) (h22 : 0 < (k : Int)) (x23 : LibRow) (hx24 : L[k]? = some x23) (hq25 : ((1 : Int) ≤ x23.Month ∧ x23.Month ≤ 1200) ∧ ((0 : Int) ≤ x23.Lent ∧ x23.Lent ≤ 9999) ∧ ((0 : Int) ≤ x23.Copied ∧ x23.Copied ≤ 9999) ∧ ((0 : Int) ≤ x23.Given ∧ x23.Given ≤ 999) ∧ ((0 : Int) ≤ x23.Fines ∧ x23.Fines ≤ 99999)) (x26 : LibRow) (hx28 : L[k - 1]? = some x26) (hq29 : ((1 : Int) ≤ x26.Month ∧ x26.Month ≤ 1200) ∧ ((0 : Int) ≤ x26.Lent ∧ x26.Lent ≤ 9999) ∧ ((0 : Int) ≤ x26.Copied ∧ x26.Copied ≤ 9999) ∧ ((0 : Int) ≤ x26.Given ∧ x26.Given ≤ 999) ∧ ((0 : Int) ≤ x26.Fines ∧ x26.Fines ≤ 99999)) (h34 : ¬ (x23.Lent < x26.Lent)) (h40 : ((b : Int) - (a : Int)) < ((k : Int) - (c : Int))) : nL - (k + 1) < nL - k := by
  omega
theorem z_c_impl_BestRun_43 (L : List LibRow) (nL : Nat) (hbdL : (nL : Int) ≤ 9223372036854775807) (hleL : nL = L.length) (h5 : RowsOK L) (hq9 : L.length ≤ 12) (h10 : ¬ ((nL : Int) = 0)) (k : Nat) (a : Nat) (b : Nat) (c : Nat) (hi20 : k ≤ nL ∧ best L k = (a, b, c) ∧ a ≤ b ∧ (b < k ∨ b = 0) ∧ (c < k ∨ c = 0)) (h21 : (k : Int) < (nL : Int)) (h22 : 0 < (k : Int)) (x23 : LibRow) (hx24 : L[k]? = some x23) (hq25 : ((1 : Int) ≤ x23.Month ∧ x23.Month ≤ 1200) ∧ ((0 : Int) ≤ x23.Lent ∧ x23.Lent ≤ 9999) ∧ ((0 : Int) ≤ x23.Copied ∧ x23.Copied ≤ 9999) ∧ ((0 : Int) ≤ x23.Given ∧ x23.Given ≤ 999) ∧ ((0 : Int) ≤ x23.Fines ∧ x23.Fines ≤ 99999)) (x26 : LibRow) (hx28 : L[k - 1]? = some x26) (hq29 : ((1 : Int) ≤ x26.Month ∧ x26.Month ≤ 1200) ∧ ((0 : Int) ≤ x26.Lent ∧ x26.Lent ≤ 9999) ∧ ((0 : Int) ≤ x26.Copied ∧ x26.Copied ≤ 9999) ∧ ((0 : Int) ≤ x26.Given ∧ x26.Given ≤ 999) ∧ ((0 : Int) ≤ x26.Fines ∧ x26.Fines ≤ 99999)) (h34 : ¬ (x23.Lent < x26.Lent)) (h40 : ¬ (((b : Int) - (a : Int)) < ((k : Int) - (c : Int)))) : k + 1 ≤ nL ∧ best L (k + 1) = (a, b, c) ∧ a ≤ b ∧ (b < k + 1 ∨ b = 0) ∧ (c < k + 1 ∨ c = 0) := by
  obtain ⟨h1, h2, h3, h4, h5⟩ := ‹_ ∧ best L _ = _ ∧ _›; refine ⟨by omega, ?_, by omega, by omega, by omega⟩; first | exact best_fall h2 ‹_› ‹_› ‹_› ‹_› (by omega) | exact best_fallN h2 ‹_› ‹_› ‹_› ‹_› (by omega) | exact best_go h2 (by first | exact nofall0 ‹_› | exact nofall1 ‹_› ‹_› ‹_›) (by omega) | exact best_stay h2 (by first | exact nofall0 ‹_› | exact nofall1 ‹_› ‹_› ‹_›) (by omega)
theorem z_c_impl_BestRun_44 (L : List LibRow) (nL : Nat) (hbdL : (nL : Int) ≤ 9223372036854775807) (hleL : nL = L.length) (h5 : RowsOK L) (hq9 : L.length ≤ 12) (h10 : ¬ ((nL : Int) = 0)) (k : Nat) (a : Nat) (b : Nat) (c : Nat) (hi20 : k ≤ nL ∧ best L k = (a, b, c) ∧ a ≤ b ∧ (b < k ∨ b = 0) ∧ (c < k ∨ c = 0)) (h21 : (k : Int) < (nL : Int)) (h22 : 0 < (k : Int)) (x23 : LibRow) (hx24 : L[k]? = some x23) (hq25 : ((1 : Int) ≤ x23.Month ∧ x23.Month ≤ 1200) ∧ ((0 : Int) ≤ x23.Lent ∧ x23.Lent ≤ 9999) ∧ ((0 : Int) ≤ x23.Copied ∧ x23.Copied ≤ 9999) ∧ ((0 : Int) ≤ x23.Given ∧ x23.Given ≤ 999) ∧ ((0 : Int) ≤ x23.Fines ∧ x23.Fines ≤ 99999)) (x26 : LibRow) (hx28 : L[k - 1]? = some x26) (hq29 : ((1 : Int) ≤ x26.Month ∧ x26.Month ≤ 1200) ∧ ((0 : Int) ≤ x26.Lent ∧ x26.Lent ≤ 9999) ∧ ((0 : Int) ≤ x26.Copied ∧ x26.Copied ≤ 9999) ∧ ((0 : Int) ≤ x26.Given ∧ x26.Given ≤ 999) ∧ ((0 : Int) ≤ x26.Fines ∧ x26.Fines ≤ 99999)) (h34 : ¬ (x23.Lent < x26.Lent)) (h40 : ¬ (((b : Int) - (a : Int)) < ((k : Int) - (c : Int)))) : nL - (k + 1) < nL - k := by
  omega
theorem z_c_impl_BestRun_50 (L : List LibRow) (nL : Nat) (hbdL : (nL : Int) ≤ 9223372036854775807) (hleL : nL = L.length) (h5 : RowsOK L) (hq9 : L.length ≤ 12) (h10 : ¬ ((nL : Int) = 0)) (k : Nat) (a : Nat) (b : Nat) (c : Nat) (hi20 : k ≤ nL ∧ best L k = (a, b, c) ∧ a ≤ b ∧ (b < k ∨ b = 0) ∧ (c < k ∨ c = 0)) (h21 : (k : Int) < (nL : Int)) (h22 : ¬ (0 < (k : Int))) (h49 : ((b : Int) - (a : Int)) < ((k : Int) - (c : Int))) : k + 1 ≤ nL ∧ best L (k + 1) = (c, k, c) ∧ c ≤ k ∧ (k < k + 1 ∨ k = 0) ∧ (c < k + 1 ∨ c = 0) := by
  obtain ⟨h1, h2, h3, h4, h5⟩ := ‹_ ∧ best L _ = _ ∧ _›; refine ⟨by omega, ?_, by omega, by omega, by omega⟩; first | exact best_fall h2 ‹_› ‹_› ‹_› ‹_› (by omega) | exact best_fallN h2 ‹_› ‹_› ‹_› ‹_› (by omega) | exact best_go h2 (by first | exact nofall0 ‹_› | exact nofall1 ‹_› ‹_› ‹_›) (by omega) | exact best_stay h2 (by first | exact nofall0 ‹_› | exact nofall1 ‹_› ‹_› ‹_›) (by omega)
theorem z_c_impl_BestRun_51 (L : List LibRow) (nL : Nat) (hbdL : (nL : Int) ≤ 9223372036854775807) (hleL : nL = L.length) (h5 : RowsOK L) (hq9 : L.length ≤ 12) (h10 : ¬ ((nL : Int) = 0)) (k : Nat) (a : Nat) (b : Nat) (c : Nat) (hi20 : k ≤ nL ∧ best L k = (a, b, c) ∧ a ≤ b ∧ (b < k ∨ b = 0) ∧ (c < k ∨ c = 0)) (h21 : (k : Int) < (nL : Int)) (h22 : ¬ (0 < (k : Int))) (h49 : ((b : Int) - (a : Int)) < ((k : Int) - (c : Int))) : nL - (k + 1) < nL - k := by
  omega
theorem z_c_impl_BestRun_52 (L : List LibRow) (nL : Nat) (hbdL : (nL : Int) ≤ 9223372036854775807) (hleL : nL = L.length) (h5 : RowsOK L) (hq9 : L.length ≤ 12) (h10 : ¬ ((nL : Int) = 0)) (k : Nat) (a : Nat) (b : Nat) (c : Nat) (hi20 : k ≤ nL ∧ best L k = (a, b, c) ∧ a ≤ b ∧ (b < k ∨ b = 0) ∧ (c < k ∨ c = 0)) (h21 : (k : Int) < (nL : Int)) (h22 : ¬ (0 < (k : Int))) (h49 : ¬ (((b : Int) - (a : Int)) < ((k : Int) - (c : Int)))) : k + 1 ≤ nL ∧ best L (k + 1) = (a, b, c) ∧ a ≤ b ∧ (b < k + 1 ∨ b = 0) ∧ (c < k + 1 ∨ c = 0) := by
  obtain ⟨h1, h2, h3, h4, h5⟩ := ‹_ ∧ best L _ = _ ∧ _›; refine ⟨by omega, ?_, by omega, by omega, by omega⟩; first | exact best_fall h2 ‹_› ‹_› ‹_› ‹_› (by omega) | exact best_fallN h2 ‹_› ‹_› ‹_› ‹_› (by omega) | exact best_go h2 (by first | exact nofall0 ‹_› | exact nofall1 ‹_› ‹_› ‹_›) (by omega) | exact best_stay h2 (by first | exact nofall0 ‹_› | exact nofall1 ‹_› ‹_› ‹_›) (by omega)
theorem z_c_impl_BestRun_53 (L : List LibRow) (nL : Nat) (hbdL : (nL : Int) ≤ 9223372036854775807) (hleL : nL = L.length) (h5 : RowsOK L) (hq9 : L.length ≤ 12) (h10 : ¬ ((nL : Int) = 0)) (k : Nat) (a : Nat) (b : Nat) (c : Nat) (hi20 : k ≤ nL ∧ best L k = (a, b, c) ∧ a ≤ b ∧ (b < k ∨ b = 0) ∧ (c < k ∨ c = 0)) (h21 : (k : Int) < (nL : Int)) (h22 : ¬ (0 < (k : Int))) (h49 : ¬ (((b : Int) - (a : Int)) < ((k : Int) - (c : Int)))) : nL - (k + 1) < nL - k := by
  omega
theorem z_c_impl_BestRun_64 (L : List LibRow) (nL : Nat) (hbdL : (nL : Int) ≤ 9223372036854775807) (hleL : nL = L.length) (h5 : RowsOK L) (hq9 : L.length ≤ 12) (h10 : ¬ ((nL : Int) = 0)) (k : Nat) (a : Nat) (b : Nat) (c : Nat) (hi20 : k ≤ nL ∧ best L k = (a, b, c) ∧ a ≤ b ∧ (b < k ∨ b = 0) ∧ (c < k ∨ c = 0)) (h21 : ¬ ((k : Int) < (nL : Int))) (x54 : LibRow) (hx55 : L[a]? = some x54) (hq56 : ((1 : Int) ≤ x54.Month ∧ x54.Month ≤ 1200) ∧ ((0 : Int) ≤ x54.Lent ∧ x54.Lent ≤ 9999) ∧ ((0 : Int) ≤ x54.Copied ∧ x54.Copied ≤ 9999) ∧ ((0 : Int) ≤ x54.Given ∧ x54.Given ≤ 999) ∧ ((0 : Int) ≤ x54.Fines ∧ x54.Fines ≤ 99999)) (x57 : LibRow) (hx58 : L[b]? = some x57) (hq59 : ((1 : Int) ≤ x57.Month ∧ x57.Month ≤ 1200) ∧ ((0 : Int) ≤ x57.Lent ∧ x57.Lent ≤ 9999) ∧ ((0 : Int) ≤ x57.Copied ∧ x57.Copied ≤ 9999) ∧ ((0 : Int) ≤ x57.Given ∧ x57.Given ≤ 999) ∧ ((0 : Int) ≤ x57.Fines ∧ x57.Fines ≤ 99999)) : x54.Month = bestF L := by
  subst hleL; obtain ⟨h1, h2, h3, h4, h5⟩ := ‹_ ∧ best L _ = _ ∧ _›; exact best_resF ‹RowsOK L› h2 ‹_› h1 ‹_› trivial
theorem z_c_impl_BestRun_65 (L : List LibRow) (nL : Nat) (hbdL : (nL : Int) ≤ 9223372036854775807) (hleL : nL = L.length) (h5 : RowsOK L) (hq9 : L.length ≤ 12) (h10 : ¬ ((nL : Int) = 0)) (k : Nat) (a : Nat) (b : Nat) (c : Nat) (hi20 : k ≤ nL ∧ best L k = (a, b, c) ∧ a ≤ b ∧ (b < k ∨ b = 0) ∧ (c < k ∨ c = 0)) (h21 : ¬ ((k : Int) < (nL : Int))) (x54 : LibRow) (hx55 : L[a]? = some x54) (hq56 : ((1 : Int) ≤ x54.Month ∧ x54.Month ≤ 1200) ∧ ((0 : Int) ≤ x54.Lent ∧ x54.Lent ≤ 9999) ∧ ((0 : Int) ≤ x54.Copied ∧ x54.Copied ≤ 9999) ∧ ((0 : Int) ≤ x54.Given ∧ x54.Given ≤ 999) ∧ ((0 : Int) ≤ x54.Fines ∧ x54.Fines ≤ 99999)) (x57 : LibRow) (hx58 : L[b]? = some x57) (hq59 : ((1 : Int) ≤ x57.Month ∧ x57.Month ≤ 1200) ∧ ((0 : Int) ≤ x57.Lent ∧ x57.Lent ≤ 9999) ∧ ((0 : Int) ≤ x57.Copied ∧ x57.Copied ≤ 9999) ∧ ((0 : Int) ≤ x57.Given ∧ x57.Given ≤ 999) ∧ ((0 : Int) ≤ x57.Fines ∧ x57.Fines ≤ 99999)) : x57.Month = bestL L := by
  subst hleL; obtain ⟨h1, h2, h3, h4, h5⟩ := ‹_ ∧ best L _ = _ ∧ _›; exact best_resL ‹RowsOK L› h2 ‹_› h1 ‹_› trivial
theorem z_c_impl_BestRun_66 (L : List LibRow) (nL : Nat) (hbdL : (nL : Int) ≤ 9223372036854775807) (hleL : nL = L.length) (h5 : RowsOK L) (hq9 : L.length ≤ 12) (h10 : ¬ ((nL : Int) = 0)) (k : Nat) (a : Nat) (b : Nat) (c : Nat) (hi20 : k ≤ nL ∧ best L k = (a, b, c) ∧ a ≤ b ∧ (b < k ∨ b = 0) ∧ (c < k ∨ c = 0)) (h21 : ¬ ((k : Int) < (nL : Int))) (x54 : LibRow) (hx55 : L[a]? = some x54) (hq56 : ((1 : Int) ≤ x54.Month ∧ x54.Month ≤ 1200) ∧ ((0 : Int) ≤ x54.Lent ∧ x54.Lent ≤ 9999) ∧ ((0 : Int) ≤ x54.Copied ∧ x54.Copied ≤ 9999) ∧ ((0 : Int) ≤ x54.Given ∧ x54.Given ≤ 999) ∧ ((0 : Int) ≤ x54.Fines ∧ x54.Fines ≤ 99999)) (x57 : LibRow) (hx58 : L[b]? = some x57) (hq59 : ((1 : Int) ≤ x57.Month ∧ x57.Month ≤ 1200) ∧ ((0 : Int) ≤ x57.Lent ∧ x57.Lent ≤ 9999) ∧ ((0 : Int) ≤ x57.Copied ∧ x57.Copied ≤ 9999) ∧ ((0 : Int) ≤ x57.Given ∧ x57.Given ≤ 999) ∧ ((0 : Int) ≤ x57.Fines ∧ x57.Fines ≤ 99999)) : RowsOK L ∧ 0 < L.length := by
  exact ⟨by assumption, by omega⟩
theorem c_impl_BestRun (w : World) {AL : Option Addr} {nL cL BL : Nat} (L : List LibRow) (hL : SlR w BL encLibRow 5 AL nL cL L) : Calls Try.prog 22 #[.slice AL nL cL] w fun e w' => e = .returned (.tuple (List.toArray [.int .i64 (bestF L), .int .i64 (bestL L), .bool (decide (RowsOK L ∧ 0 < L.length))])) ∧ Lo w w' := by
  refine calls_W 59 Try.func22 rfl rfl rfl ?_
  have hbdL := hL.bound
  have hleL := hL.len
  have hBbL := hL.bd
  refine W.seq ?_
  refine W.regS (SR.q' (r_as (v := .int .i64 0) rfl) <| SR.q' (r_as (v := .int .i64 0) rfl) <| SR.q' (r_as (v := .bool false) rfl) <| SR.nil ?_)
  refine W.seq ?_
  refine W.seq ?_
  refine W.regS (SR.q' (r_mv (v := .slice _ _ _) rfl) <| SR.call ent17 (c_impl_AreLibRows w L ((hL))) rfl ?_)
  rintro e w1 ⟨rfl, hk2⟩
  refine ⟨_, rfl, ?_⟩
  have hz3 := hk2.size
  have hB4 := (Lo.refl w).lo hk2
  refine SR.q' (r_not rfl) <| SR.q' (r_mv (v := .bool _) rfl) <| SR.splitN (fun h5 => ?_) (fun h5 => ?_)
  · refine SR.s' rfl <| SR.s' rfl <| SR.s' rfl <| SR.q' (r_pick true rfl (v := .bool true) rfl) <| SR.nil ?_
    refine W.cond_t rfl ?_
    refine W.seq ?_
    refine W.regS (SR.q' (r_as (v := .int .i64 0) rfl) <| SR.q' (r_as (v := .int .i64 0) rfl) <| SR.q' (r_as (v := .bool false) rfl) <| SR.nil ?_)
    refine W.ret ?_
    refine ret3 rfl (v := .int .i64 _) (v' := .int .i64 _) (v'' := .bool _) rfl rfl rfl ?_
    exact ⟨eR (eT3 (eI (z_c_impl_BestRun_6 L nL hbdL hleL h5)) (eI (z_c_impl_BestRun_7 L nL hbdL hleL h5)) (eDF (z_c_impl_BestRun_8 L nL hbdL hleL h5))), hB4⟩
  · have hq9 := rows_len h5
    refine SR.g' rfl (r_mv (v := .slice _ _ _) rfl) <| SR.g' rfl (r_len und31 rfl) <| SR.g' rfl (r_eq rfl rfl) <| SR.q' (r_pick false rfl (v := .bool _) rfl) <| SR.nil ?_
    refine W.cond_d rfl (fun h10 => ?_) (fun h10 => ?_)
    · refine W.seq ?_
      refine W.regS (SR.q' (r_as (v := .int .i64 0) rfl) <| SR.q' (r_as (v := .int .i64 0) rfl) <| SR.q' (r_as (v := .bool false) rfl) <| SR.nil ?_)
      refine W.ret ?_
      refine ret3 rfl (v := .int .i64 _) (v' := .int .i64 _) (v'' := .bool _) rfl rfl rfl ?_
      exact ⟨eR (eT3 (eI (z_c_impl_BestRun_11 L nL hbdL hleL h5 hq9 h10)) (eI (z_c_impl_BestRun_12 L nL hbdL hleL h5 hq9 h10)) (eDF (z_c_impl_BestRun_13 L nL hbdL hleL h5 hq9 h10))), hB4⟩
    · refine W.skip ?_
      refine W.seq ?_
      refine W.regS (SR.q' (r_as (v := .int .i64 0) rfl) <| SR.q' (r_as (v := .int .i64 0) rfl) <| SR.q' (r_as (v := .int .i64 0) rfl) <| SR.nil ?_)
      refine W.seq ?_
      refine W.seq ?_
      refine W.regS (SR.q' (r_mv (v := .slice _ _ _) rfl) <| SR.q' (r_len und31 rfl) <| SR.q' (r_mv (v := .int .i64 0) rfl) <| SR.nil ?_)
      refine W.block ?_
      refine W.loop (σ := Nat × Nat × Nat × Nat) (fun g => [(0, .slice AL nL cL), (2, .int .i64 0), (3, .int .i64 0), (4, .bool false), (5, .int .i64 (g.2.1 : Int)), (6, .int .i64 (g.2.2.1 : Int)), (7, .int .i64 (g.2.2.2 : Int)), (18, .int .i64 (nL : Int)), (19, .int .i64 (g.1 : Int))]) (fun g w' => (Lo w w') ∧ (SlR w' BL encLibRow 5 AL nL cL L) ∧ (g.1 ≤ nL ∧ best L g.1 = (g.2.1, g.2.2.1, g.2.2.2) ∧ g.2.1 ≤ g.2.2.1 ∧ (g.2.2.1 < g.1 ∨ g.2.2.1 = 0) ∧ (g.2.2.2 < g.1 ∨ g.2.2.2 = 0))) (fun g => nL - g.1) (0, 0, 0, 0) ?_ ?_ ?_
      · exact ⟨rfl, rfl, rfl, rfl, rfl, rfl, rfl, rfl, rfl, trivial⟩
      · exact ⟨hB4, (hL).lo hk2, (z_c_impl_BestRun_14 L nL hbdL hleL h5 hq9 h10)⟩
      · rintro ⟨k, a, b, c⟩ f15 w16 hP18
        obtain ⟨hB17, hm19, hi20⟩ : (Lo w w16) ∧ (SlR w16 BL encLibRow 5 AL nL cL L) ∧ (k ≤ nL ∧ best L k = (a, b, c) ∧ a ≤ b ∧ (b < k ∨ b = 0) ∧ (c < k ∨ c = 0)) := hP18
        refine (?_ : W _ _ _ _ _ (act _ (sets f15 [(0, .slice AL nL cL), (2, .int .i64 0), (3, .int .i64 0), (4, .bool false), (5, .int .i64 (a : Int)), (6, .int .i64 (b : Int)), (7, .int .i64 (c : Int)), (18, .int .i64 (nL : Int)), (19, .int .i64 (k : Int))])) _)
        have hzw16 := hB17.size
        refine W.seq ?_
        refine W.regS (SR.q' (r_lt rfl rfl) <| SR.nil ?_)
        refine W.seq ?_
        refine W.cond_d rfl (fun h21 => ?_) (fun h21 => ?_)
        · refine W.skip ?_
          refine W.seq ?_
          refine W.block ?_
          refine W.seq ?_
          refine W.regS (SR.q' (r_mv (v := .int .i64 _) rfl) <| SR.q' (r_as (v := .int .i64 _) rfl) <| SR.nil ?_)
          refine W.seq ?_
          refine W.seq ?_
          refine W.regD mo (by kernel_rfl) (QR.q' (fun w' hw' => r_mv (v := .int .i64 _) rfl) <| QR.q' (fun w' hw' => r_gt rfl rfl) <| QR.q' (fun w' hw' => r_mv (v := .bool _) rfl) <| QR.splitD (fun h22 => ?_) (fun h22 => ?_))
          · refine QR.g' rfl (fun w' hw' => r_mv (v := .slice _ _ _) rfl) <| QR.g' rfl (fun w' hw' => r_mv (v := .int .i64 _) rfl) <| ?_
            obtain ⟨x23, hx24⟩ := (hm19).get (i := k) (by omega)
            have hq25 := rows_rng h5 hx24
            refine QR.g' rfl (fun w' hw' => r_ixR tsl31 (((hm19).lo hw')) rfl rfl (by omega)) <| QR.g' rfl (fun w' hw' => r_fa fa25_1 rfl) <| QR.g' rfl (fun w' hw' => r_ld (v := .int .i64 x23.Lent) sca3 rfl ((((hm19).lo hw')).cell hx24 rfl)) <| QR.g' rfl (fun w' hw' => r_mv (v := .slice _ _ _) rfl) <| QR.g' rfl (fun w' hw' => r_mv (v := .int .i64 _) rfl) <| QR.g' rfl (fun w' hw' => r_sub rfl rfl (by omega)) <| ?_
            obtain ⟨x26, hx27⟩ := (hm19).get (i := ((k : Int) - 1).toNat) (by omega)
            have hx28 : L[k - 1]? = some x26 := (show ((k : Int) - 1).toNat = k - 1 from by omega) ▸ hx27
            have hq29 := rows_rng h5 hx28
            refine QR.g' rfl (fun w' hw' => r_ixR tsl31 (((hm19).lo hw')) rfl rfl (by omega)) <| QR.g' rfl (fun w' hw' => r_fa fa25_1 rfl) <| QR.g' rfl (fun w' hw' => r_ld (v := .int .i64 x26.Lent) sca3 rfl ((((hm19).lo hw')).cell hx27 rfl)) <| QR.g' rfl (fun w' hw' => r_lt rfl rfl) <| QR.q' (fun w' hw' => r_pick true rfl (v := .bool _) rfl) <| QR.nil ?_
            intro w30 hk31
            have hz32 := hk31.size
            have hB33 := hB17.lo hk31
            refine W.cond_d rfl (fun h34 => ?_) (fun h34 => ?_)
            · refine W.regS (SR.q' (r_mv (v := .int .i64 _) rfl) <| SR.q' (r_as (v := .int .i64 _) rfl) <| SR.nil ?_)
              refine W.seq ?_
              refine W.regS (SR.q' (r_mv (v := .int .i64 _) rfl) <| SR.q' (r_mv (v := .int .i64 _) rfl) <| SR.q' (r_sub rfl rfl (by omega)) <| SR.q' (r_mv (v := .int .i64 _) rfl) <| SR.q' (r_mv (v := .int .i64 _) rfl) <| SR.q' (r_sub rfl rfl (by omega)) <| SR.q' (r_gt rfl rfl) <| SR.nil ?_)
              refine W.cond_d rfl (fun h35 => ?_) (fun h35 => ?_)
              · refine W.regS (SR.q' (r_mv (v := .int .i64 _) rfl) <| SR.q' (r_mv (v := .int .i64 _) rfl) <| SR.q' (r_as (v := .int .i64 _) rfl) <| SR.q' (r_as (v := .int .i64 _) rfl) <| SR.nil ?_)
                refine W.regS (SR.q' (r_add rfl rfl (by omega)) <| SR.q' (r_mv (v := .int .i64 _) rfl) <| SR.nil ?_)
                refine ⟨(k + 1, k, k, k), _, rfl, ⟨rfl, rfl, rfl, rfl, rfl, rfl, rfl, rfl, rfl, trivial⟩, ⟨hB33, (hm19).lo hk31, ?_⟩, ?_⟩
                · exact (z_c_impl_BestRun_36 L nL hbdL hleL h5 hq9 h10 k a b c hi20 h21 h22 x23 hx24 hq25 x26 hx28 hq29 h34 h35)
                · exact (z_c_impl_BestRun_37 L nL hbdL hleL h5 hq9 h10 k a b c hi20 h21 h22 x23 hx24 hq25 x26 hx28 hq29 h34 h35)
              · refine W.skip ?_
                refine W.regS (SR.q' (r_add rfl rfl (by omega)) <| SR.q' (r_mv (v := .int .i64 _) rfl) <| SR.nil ?_)
                refine ⟨(k + 1, a, b, k), _, rfl, ⟨rfl, rfl, rfl, rfl, rfl, rfl, rfl, rfl, rfl, trivial⟩, ⟨hB33, (hm19).lo hk31, ?_⟩, ?_⟩
                · exact (z_c_impl_BestRun_38 L nL hbdL hleL h5 hq9 h10 k a b c hi20 h21 h22 x23 hx24 hq25 x26 hx28 hq29 h34 h35)
                · exact (z_c_impl_BestRun_39 L nL hbdL hleL h5 hq9 h10 k a b c hi20 h21 h22 x23 hx24 hq25 x26 hx28 hq29 h34 h35)
            · refine W.skip ?_
              refine W.seq ?_
              refine W.regS (SR.q' (r_mv (v := .int .i64 _) rfl) <| SR.q' (r_mv (v := .int .i64 _) rfl) <| SR.q' (r_sub rfl rfl (by omega)) <| SR.q' (r_mv (v := .int .i64 _) rfl) <| SR.q' (r_mv (v := .int .i64 _) rfl) <| SR.q' (r_sub rfl rfl (by omega)) <| SR.q' (r_gt rfl rfl) <| SR.nil ?_)
              refine W.cond_d rfl (fun h40 => ?_) (fun h40 => ?_)
              · refine W.regS (SR.q' (r_mv (v := .int .i64 _) rfl) <| SR.q' (r_mv (v := .int .i64 _) rfl) <| SR.q' (r_as (v := .int .i64 _) rfl) <| SR.q' (r_as (v := .int .i64 _) rfl) <| SR.nil ?_)
                refine W.regS (SR.q' (r_add rfl rfl (by omega)) <| SR.q' (r_mv (v := .int .i64 _) rfl) <| SR.nil ?_)
                refine ⟨(k + 1, c, k, c), _, rfl, ⟨rfl, rfl, rfl, rfl, rfl, rfl, rfl, rfl, rfl, trivial⟩, ⟨hB33, (hm19).lo hk31, ?_⟩, ?_⟩
                · exact (z_c_impl_BestRun_41 L nL hbdL hleL h5 hq9 h10 k a b c hi20 h21 h22 x23 hx24 hq25 x26 hx28 hq29 h34 h40)
                · exact (z_c_impl_BestRun_42 L nL hbdL hleL h5 hq9 h10 k a b c hi20 h21 h22 x23 hx24 hq25 x26 hx28 hq29 h34 h40)
              · refine W.skip ?_
                refine W.regS (SR.q' (r_add rfl rfl (by omega)) <| SR.q' (r_mv (v := .int .i64 _) rfl) <| SR.nil ?_)
                refine ⟨(k + 1, a, b, c), _, rfl, ⟨rfl, rfl, rfl, rfl, rfl, rfl, rfl, rfl, rfl, trivial⟩, ⟨hB33, (hm19).lo hk31, ?_⟩, ?_⟩
                · exact (z_c_impl_BestRun_43 L nL hbdL hleL h5 hq9 h10 k a b c hi20 h21 h22 x23 hx24 hq25 x26 hx28 hq29 h34 h40)
                · exact (z_c_impl_BestRun_44 L nL hbdL hleL h5 hq9 h10 k a b c hi20 h21 h22 x23 hx24 hq25 x26 hx28 hq29 h34 h40)
          · refine QR.s' rfl <| QR.s' rfl <| QR.s' rfl <| QR.s' rfl <| QR.s' rfl <| QR.s' rfl <| QR.s' rfl <| QR.s' rfl <| QR.s' rfl <| QR.s' rfl <| QR.s' rfl <| QR.s' rfl <| QR.q' (fun w' hw' => r_pick false rfl (v := .bool false) rfl) <| QR.nil ?_
            intro w45 hk46
            have hz47 := hk46.size
            have hB48 := hB17.lo hk46
            refine W.cond_f rfl ?_
            refine W.skip ?_
            refine W.seq ?_
            refine W.regS (SR.q' (r_mv (v := .int .i64 _) rfl) <| SR.q' (r_mv (v := .int .i64 _) rfl) <| SR.q' (r_sub rfl rfl (by omega)) <| SR.q' (r_mv (v := .int .i64 _) rfl) <| SR.q' (r_mv (v := .int .i64 _) rfl) <| SR.q' (r_sub rfl rfl (by omega)) <| SR.q' (r_gt rfl rfl) <| SR.nil ?_)
            refine W.cond_d rfl (fun h49 => ?_) (fun h49 => ?_)
            · refine W.regS (SR.q' (r_mv (v := .int .i64 _) rfl) <| SR.q' (r_mv (v := .int .i64 _) rfl) <| SR.q' (r_as (v := .int .i64 _) rfl) <| SR.q' (r_as (v := .int .i64 _) rfl) <| SR.nil ?_)
              refine W.regS (SR.q' (r_add rfl rfl (by omega)) <| SR.q' (r_mv (v := .int .i64 _) rfl) <| SR.nil ?_)
              refine ⟨(k + 1, c, k, c), _, rfl, ⟨rfl, rfl, rfl, rfl, rfl, rfl, rfl, rfl, rfl, trivial⟩, ⟨hB48, (hm19).lo hk46, ?_⟩, ?_⟩
              · exact (z_c_impl_BestRun_50 L nL hbdL hleL h5 hq9 h10 k a b c hi20 h21 h22 h49)
              · exact (z_c_impl_BestRun_51 L nL hbdL hleL h5 hq9 h10 k a b c hi20 h21 h22 h49)
            · refine W.skip ?_
              refine W.regS (SR.q' (r_add rfl rfl (by omega)) <| SR.q' (r_mv (v := .int .i64 _) rfl) <| SR.nil ?_)
              refine ⟨(k + 1, a, b, c), _, rfl, ⟨rfl, rfl, rfl, rfl, rfl, rfl, rfl, rfl, rfl, trivial⟩, ⟨hB48, (hm19).lo hk46, ?_⟩, ?_⟩
              · exact (z_c_impl_BestRun_52 L nL hbdL hleL h5 hq9 h10 k a b c hi20 h21 h22 h49)
              · exact (z_c_impl_BestRun_53 L nL hbdL hleL h5 hq9 h10 k a b c hi20 h21 h22 h49)
        · refine W.exit (xin_here ?_)
          refine W.seq ?_
          refine W.regD mo (by kernel_rfl) (QR.q' (fun w' hw' => r_mv (v := .slice _ _ _) rfl) <| QR.q' (fun w' hw' => r_mv (v := .int .i64 _) rfl) <| ?_)
          obtain ⟨x54, hx55⟩ := (hm19).get (i := a) (by omega)
          have hq56 := rows_rng h5 hx55
          refine QR.q' (fun w' hw' => r_ixR tsl31 (((hm19).lo hw')) rfl rfl (by omega)) <| QR.q' (fun w' hw' => r_fa fa25_0 rfl) <| QR.q' (fun w' hw' => r_ld (v := .int .i64 x54.Month) sca3 rfl ((((hm19).lo hw')).cell hx55 rfl)) <| QR.q' (fun w' hw' => r_mv (v := .slice _ _ _) rfl) <| QR.q' (fun w' hw' => r_mv (v := .int .i64 _) rfl) <| ?_
          obtain ⟨x57, hx58⟩ := (hm19).get (i := b) (by omega)
          have hq59 := rows_rng h5 hx58
          refine QR.q' (fun w' hw' => r_ixR tsl31 (((hm19).lo hw')) rfl rfl (by omega)) <| QR.q' (fun w' hw' => r_fa fa25_0 rfl) <| QR.q' (fun w' hw' => r_ld (v := .int .i64 x57.Month) sca3 rfl ((((hm19).lo hw')).cell hx58 rfl)) <| QR.q' (fun w' hw' => r_as (v := .int .i64 _) rfl) <| QR.q' (fun w' hw' => r_as (v := .int .i64 _) rfl) <| QR.q' (fun w' hw' => r_as (v := .bool true) rfl) <| QR.nil ?_
          intro w60 hk61
          have hz62 := hk61.size
          have hB63 := hB17.lo hk61
          refine W.ret ?_
          refine ret3 rfl (v := .int .i64 _) (v' := .int .i64 _) (v'' := .bool _) rfl rfl rfl ?_
          exact ⟨eR (eT3 (eI (z_c_impl_BestRun_64 L nL hbdL hleL h5 hq9 h10 k a b c hi20 h21 x54 hx55 hq56 x57 hx58 hq59)) (eI (z_c_impl_BestRun_65 L nL hbdL hleL h5 hq9 h10 k a b c hi20 h21 x54 hx55 hq56 x57 hx58 hq59)) (eDT (z_c_impl_BestRun_66 L nL hbdL hleL h5 hq9 h10 k a b c hi20 h21 x54 hx55 hq56 x57 hx58 hq59))), hB63⟩

theorem z_c_laws_FnExactBestRun_50 (L : List LibRow) (nL : Nat) (hbdL : (nL : Int) ≤ 9223372036854775807) (hleL : nL = L.length) (h5 : ¬ ((szN L.length 1048576) < 0)) (hq6 : ((L.length : Nat) : Int) ≤ 1048576 ∧ szN L.length 1048576 = 1048576 - (L.length : Int)) (n10 : Nat) (hl15 : n10 = (L).length) (hl16 : (n10 : Int) ≤ 9223372036854775807) (n24 : Nat) (hl29 : n24 = (L).length) (hl30 : (n24 : Int) ≤ 9223372036854775807) (n38 : Nat) (hl43 : n38 = (L).length) (hl44 : (n38 : Int) ≤ 9223372036854775807) (h49 : ¬ (L = L)) : false = true := by
  first | (simp_all; done) | omega
theorem c_laws_FnExactBestRun (w : World) {AL : Option Addr} {nL cL BL : Nat} (L : List LibRow) (hL : SlR w BL encLibRow 5 AL nL cL L) : Calls Try.prog 6 #[.slice AL nL cL] w fun e w' => e = .returned (.bool true) ∧ Lo w w' := by
  refine calls_W 49 Try.func6 rfl rfl rfl ?_
  have hbdL := hL.bound
  have hleL := hL.len
  have hBbL := hL.bd
  refine W.seq ?_
  refine W.regS (SR.q' (r_as (v := .bool false) rfl) <| SR.nil ?_)
  refine W.seq ?_
  refine W.regS (SR.q' (r_as (v := .int .i64 1048576) rfl) <| SR.nil ?_)
  refine W.seq ?_
  refine W.regS (SR.q' (r_mv (v := .slice _ _ _) rfl) <| SR.q' (r_mv (v := .int .i64 _) rfl) <| SR.call ent14 (c_laws_szLibRowS w L ((hL)) 1048576 (by omega) (by omega)) rfl ?_)
  rintro e w1 ⟨rfl, hk2⟩
  refine ⟨_, rfl, ?_⟩
  have hz3 := hk2.size
  have hB4 := (Lo.refl w).lo hk2
  refine SR.q' (r_as (v := .int .i64 _) rfl) <| SR.nil ?_
  refine W.seq ?_
  refine W.seq ?_
  refine W.regS (SR.q' (r_mv (v := .int .i64 _) rfl) <| SR.q' (r_lt rfl rfl) <| SR.nil ?_)
  refine W.cond_d rfl (fun h5 => ?_) (fun h5 => ?_)
  · refine W.seq ?_
    refine W.regS (SR.q' (r_as (v := .bool true) rfl) <| SR.nil ?_)
    refine W.ret ?_
    refine ret1 rfl (v := .bool _) rfl ?_
    exact ⟨eR rfl, hB4⟩
  · have hq6 := szN_ok h5
    refine W.skip ?_
    refine W.seq ?_
    refine W.regS (SR.q' (r_mv (v := .slice _ _ _) rfl) <| SR.call ent16 (c_laws_toLibRowS w1 L (((hL).lo hk2)) (by omega)) rfl ?_)
    rintro e w7 ⟨A9, n10, c11, rfl, hO12, hk8⟩
    refine ⟨_, rfl, ?_⟩
    have hz13 := hk8.size
    have hB14 := hB4.lo hk8
    have hl15 := hO12.len
    have hl16 := hO12.rd.bound
    refine SR.call ent21 (c_spec_BestRun w7 L (((hO12).rd))) rfl ?_
    rintro e w17 ⟨rfl, hk18⟩
    refine ⟨_, rfl, ?_⟩
    have hz19 := hk18.size
    have hB20 := hB14.lo hk18
    refine SR.q' (r_mv (v := .tuple (List.toArray _)) rfl) <| SR.q' (r_ext (v := .int .i64 _) rfl rfl) <| SR.q' (r_ext (v := .int .i64 _) rfl rfl) <| SR.q' (r_ext (v := .bool _) rfl rfl) <| SR.q' (r_as (v := .int .i64 _) rfl) <| SR.q' (r_as (v := .int .i64 _) rfl) <| SR.q' (r_as (v := .bool _) rfl) <| SR.nil ?_
    refine W.seq ?_
    refine W.regS (SR.q' (r_mv (v := .slice _ _ _) rfl) <| SR.call ent16 (c_laws_toLibRowS w17 L (((((hL).lo hk2).lo hk8).lo hk18)) (by omega)) rfl ?_)
    rintro e w21 ⟨A23, n24, c25, rfl, hO26, hk22⟩
    refine ⟨_, rfl, ?_⟩
    have hz27 := hk22.size
    have hB28 := hB20.lo hk22
    have hl29 := hO26.len
    have hl30 := hO26.rd.bound
    refine SR.q' (r_as (v := .slice _ _ _) rfl) <| SR.nil ?_
    refine W.seq ?_
    refine W.regS (SR.q' (r_mv (v := .slice _ _ _) rfl) <| SR.call ent22 (c_impl_BestRun w21 L (((hO26).rd))) rfl ?_)
    rintro e w31 ⟨rfl, hk32⟩
    refine ⟨_, rfl, ?_⟩
    have hz33 := hk32.size
    have hB34 := hB28.lo hk32
    refine SR.q' (r_mv (v := .tuple (List.toArray _)) rfl) <| SR.q' (r_ext (v := .int .i64 _) rfl rfl) <| SR.q' (r_ext (v := .int .i64 _) rfl rfl) <| SR.q' (r_ext (v := .bool _) rfl rfl) <| SR.q' (r_as (v := .int .i64 _) rfl) <| SR.q' (r_as (v := .int .i64 _) rfl) <| SR.q' (r_as (v := .bool _) rfl) <| SR.nil ?_
    refine W.seq ?_
    refine W.seq ?_
    refine W.regS (SR.q' (r_mv (v := .int .i64 _) rfl) <| SR.q' (r_mv (v := .int .i64 _) rfl) <| SR.q' (r_ne_s rfl rfl) <| SR.q' (r_mv (v := .bool _) rfl) <| SR.g' rfl (r_mv (v := .int .i64 _) rfl) <| SR.g' rfl (r_mv (v := .int .i64 _) rfl) <| SR.g' rfl (r_ne_s rfl rfl) <| SR.q' (r_pick false rfl (v := .bool _) rfl) <| SR.q' (r_mv (v := .bool _) rfl) <| SR.g' rfl (r_mv (v := .bool _) rfl) <| SR.g' rfl (r_mv (v := .bool _) rfl) <| SR.g' rfl (r_neb_s und4 rfl rfl) <| SR.q' (r_pick false rfl (v := .bool _) rfl) <| SR.nil ?_)
    refine W.cond_f rfl ?_
    refine W.skip ?_
    refine W.seq ?_
    refine W.seq ?_
    refine W.regS (SR.q' (r_mv (v := .slice _ _ _) rfl) <| SR.q' (r_mv (v := .slice _ _ _) rfl) <| SR.call ent16 (c_laws_toLibRowS w31 L (((((((hL).lo hk2).lo hk8).lo hk18).lo hk22).lo hk32)) (by omega)) rfl ?_)
    rintro e w35 ⟨A37, n38, c39, rfl, hO40, hk36⟩
    refine ⟨_, rfl, ?_⟩
    have hz41 := hk36.size
    have hB42 := hB34.lo hk36
    have hl43 := hO40.len
    have hl44 := hO40.rd.bound
    refine SR.call ent18 (c_laws_eqLibRowS w35 L (((((hO26).lo hk32).lo hk36).rd)) L (((hO40).rd))) rfl ?_
    rintro e w45 ⟨rfl, hk46⟩
    refine ⟨_, rfl, ?_⟩
    have hz47 := hk46.size
    have hB48 := hB42.lo hk46
    refine SR.q' (r_not rfl) <| SR.nil ?_
    refine W.cond_n rfl (fun h49 => ?_) (fun h49 => ?_)
    · refine W.seq ?_
      refine W.regS (SR.q' (r_as (v := .bool false) rfl) <| SR.nil ?_)
      refine W.ret ?_
      refine ret1 rfl (v := .bool _) rfl ?_
      exact ⟨eR (eB (z_c_laws_FnExactBestRun_50 L nL hbdL hleL h5 hq6 n10 hl15 hl16 n24 hl29 hl30 n38 hl43 hl44 h49)), hB48⟩
    · refine W.skip ?_
      refine W.seq ?_
      refine W.regS (SR.q' (r_as (v := .bool true) rfl) <| SR.nil ?_)
      refine W.ret ?_
      refine ret1 rfl (v := .bool _) rfl ?_
      exact ⟨eR rfl, hB48⟩

theorem z_c_laws_eqIntS_2 (L : List Int) (nL : Nat) (hbdL : (nL : Int) ≤ 9223372036854775807) (hleL : nL = L.length) (M : List Int) (nM : Nat) (hbdM : (nM : Int) ≤ 9223372036854775807) (hleM : nM = M.length) (h1 : ¬ ((nL : Int) = (nM : Int))) : ¬ (L = M) := by
  first | (intro e; subst e; omega) | exact ne_at ‹L[_]? = some _› ‹M[_]? = some _› ‹_› | exact take_end (And.right ‹_ ∧ L.take _ = M.take _›) hleL hleM (by omega) ‹_›
theorem z_c_laws_eqIntS_3 (L : List Int) (nL : Nat) (hbdL : (nL : Int) ≤ 9223372036854775807) (hleL : nL = L.length) (M : List Int) (nM : Nat) (hbdM : (nM : Int) ≤ 9223372036854775807) (hleM : nM = M.length) (h1 : (nL : Int) = (nM : Int)) : 0 ≤ nL ∧ L.take 0 = M.take 0 := by
  simp
theorem z_c_laws_eqIntS_21 (L : List Int) (nL : Nat) (hbdL : (nL : Int) ≤ 9223372036854775807) (hleL : nL = L.length) (M : List Int) (nM : Nat) (hbdM : (nM : Int) ≤ 9223372036854775807) (hleM : nM = M.length) (h1 : (nL : Int) = (nM : Int)) (k : Nat) (hi10 : k ≤ nL ∧ L.take k = M.take k) (h11 : (k : Int) < (nL : Int)) (x12 : Int) (hx13 : L[k]? = some x12) (x14 : Int) (hx15 : M[k]? = some x14) (h20 : ¬ (x12 = x14)) : ¬ (L = M) := by
  first | (intro e; subst e; omega) | exact ne_at ‹L[_]? = some _› ‹M[_]? = some _› ‹_› | exact take_end (And.right ‹_ ∧ L.take _ = M.take _›) hleL hleM (by omega) ‹_›
theorem z_c_laws_eqIntS_22 (L : List Int) (nL : Nat) (hbdL : (nL : Int) ≤ 9223372036854775807) (hleL : nL = L.length) (M : List Int) (nM : Nat) (hbdM : (nM : Int) ≤ 9223372036854775807) (hleM : nM = M.length) (h1 : (nL : Int) = (nM : Int)) (k : Nat) (hi10 : k ≤ nL ∧ L.take k = M.take k) (h11 : (k : Int) < (nL : Int)) (x12 : Int) (hx13 : L[k]? = some x12) (x14 : Int) (hx15 : M[k]? = some x14) (h20 : x12 = x14) : k + 1 ≤ nL ∧ L.take (k + 1) = M.take (k + 1) := by
  exact ⟨by omega, take_next (And.right ‹_ ∧ L.take _ = M.take _›) ‹L[_]? = some _› ‹M[_]? = some _› ‹_›⟩
theorem z_c_laws_eqIntS_23 (L : List Int) (nL : Nat) (hbdL : (nL : Int) ≤ 9223372036854775807) (hleL : nL = L.length) (M : List Int) (nM : Nat) (hbdM : (nM : Int) ≤ 9223372036854775807) (hleM : nM = M.length) (h1 : (nL : Int) = (nM : Int)) (k : Nat) (hi10 : k ≤ nL ∧ L.take k = M.take k) (h11 : (k : Int) < (nL : Int)) (x12 : Int) (hx13 : L[k]? = some x12) (x14 : Int) (hx15 : M[k]? = some x14) (h20 : x12 = x14) : nL - (k + 1) < nL - k := by
  omega
theorem z_c_laws_eqIntS_24 (L : List Int) (nL : Nat) (hbdL : (nL : Int) ≤ 9223372036854775807) (hleL : nL = L.length) (M : List Int) (nM : Nat) (hbdM : (nM : Int) ≤ 9223372036854775807) (hleM : nM = M.length) (h1 : (nL : Int) = (nM : Int)) (k : Nat) (hi10 : k ≤ nL ∧ L.take k = M.take k) (h11 : ¬ ((k : Int) < (nL : Int))) : L = M := by
  first | (intro e; subst e; omega) | exact ne_at ‹L[_]? = some _› ‹M[_]? = some _› ‹_› | exact take_end (And.right ‹_ ∧ L.take _ = M.take _›) hleL hleM (by omega) ‹_›
theorem c_laws_eqIntS (w : World) {AL : Option Addr} {nL cL BL : Nat} (L : List Int) (hL : SlR w BL encI 1 AL nL cL L) {AM : Option Addr} {nM cM BM : Nat} (M : List Int) (hM : SlR w BM encI 1 AM nM cM M) : Calls Try.prog 27 #[.slice AL nL cL, .slice AM nM cM] w fun e w' => e = .returned (.bool (decide (L = M))) ∧ Lo w w' := by
  refine calls_W 26 Try.func27 rfl rfl rfl ?_
  have hbdL := hL.bound
  have hleL := hL.len
  have hBbL := hL.bd
  have hbdM := hM.bound
  have hleM := hM.len
  have hBbM := hM.bd
  refine W.seq ?_
  refine W.regS (SR.q' (r_as (v := .bool false) rfl) <| SR.nil ?_)
  refine W.seq ?_
  refine W.seq ?_
  refine W.regS (SR.q' (r_mv (v := .slice _ _ _) rfl) <| SR.q' (r_len und39 rfl) <| SR.q' (r_mv (v := .slice _ _ _) rfl) <| SR.q' (r_len und39 rfl) <| SR.q' (r_ne rfl rfl) <| SR.nil ?_)
  refine W.cond_n rfl (fun h1 => ?_) (fun h1 => ?_)
  · refine W.seq ?_
    refine W.regS (SR.q' (r_as (v := .bool false) rfl) <| SR.nil ?_)
    refine W.ret ?_
    refine ret1 rfl (v := .bool _) rfl ?_
    exact ⟨eR (eDF (z_c_laws_eqIntS_2 L nL hbdL hleL M nM hbdM hleM h1)), (Lo.refl w)⟩
  · refine W.skip ?_
    refine W.seq ?_
    refine W.seq ?_
    refine W.regS (SR.q' (r_as (v := .int .i64 0) rfl) <| SR.nil ?_)
    refine W.block ?_
    refine W.loop (σ := Nat) (fun g => [(0, .slice AL nL cL), (1, .slice AM nM cM), (5, .int .i64 (g : Int))]) (fun g w' => (Lo w w') ∧ (SlR w' BL encI 1 AL nL cL L) ∧ (SlR w' BM encI 1 AM nM cM M) ∧ (g ≤ nL ∧ L.take g = M.take g)) (fun g => nL - g) 0 ?_ ?_ ?_
    · exact ⟨rfl, rfl, rfl, trivial⟩
    · exact ⟨(Lo.refl w), hL, hM, (z_c_laws_eqIntS_3 L nL hbdL hleL M nM hbdM hleM h1)⟩
    · rintro k f4 w5 hP7
      obtain ⟨hB6, hm8, hm9, hi10⟩ : (Lo w w5) ∧ (SlR w5 BL encI 1 AL nL cL L) ∧ (SlR w5 BM encI 1 AM nM cM M) ∧ (k ≤ nL ∧ L.take k = M.take k) := hP7
      refine (?_ : W _ _ _ _ _ (act _ (sets f4 [(0, .slice AL nL cL), (1, .slice AM nM cM), (5, .int .i64 (k : Int))])) _)
      have hzw5 := hB6.size
      refine W.seq ?_
      refine W.seq ?_
      refine W.regS (SR.q' (r_mv (v := .int .i64 _) rfl) <| SR.q' (r_mv (v := .slice _ _ _) rfl) <| SR.q' (r_len und39 rfl) <| SR.q' (r_lt rfl rfl) <| SR.nil ?_)
      refine W.cond_d rfl (fun h11 => ?_) (fun h11 => ?_)
      · refine W.skip ?_
        refine W.seq ?_
        refine W.block ?_
        refine W.seq ?_
        refine W.regD mo (by kernel_rfl) (QR.q' (fun w' hw' => r_mv (v := .slice _ _ _) rfl) <| QR.q' (fun w' hw' => r_mv (v := .int .i64 _) rfl) <| ?_)
        obtain ⟨x12, hx13⟩ := (hm8).get (i := k) (by omega)
        refine QR.q' (fun w' hw' => r_ixR tsl39 (((hm8).lo hw')) rfl rfl (by omega)) <| QR.q' (fun w' hw' => r_ld (v := .int .i64 x12) sca3 rfl ((((hm8).lo hw')).cell0 hx13 rfl)) <| QR.q' (fun w' hw' => r_mv (v := .slice _ _ _) rfl) <| QR.q' (fun w' hw' => r_mv (v := .int .i64 _) rfl) <| ?_
        obtain ⟨x14, hx15⟩ := (hm9).get (i := k) (by omega)
        refine QR.q' (fun w' hw' => r_ixR tsl39 (((hm9).lo hw')) rfl rfl (by omega)) <| QR.q' (fun w' hw' => r_ld (v := .int .i64 x14) sca3 rfl ((((hm9).lo hw')).cell0 hx15 rfl)) <| QR.q' (fun w' hw' => r_ne rfl rfl) <| QR.nil ?_
        intro w16 hk17
        have hz18 := hk17.size
        have hB19 := hB6.lo hk17
        refine W.cond_n rfl (fun h20 => ?_) (fun h20 => ?_)
        · refine W.seq ?_
          refine W.regS (SR.q' (r_as (v := .bool false) rfl) <| SR.nil ?_)
          refine W.ret ?_
          refine ret1 rfl (v := .bool _) rfl ?_
          exact ⟨eR (eDF (z_c_laws_eqIntS_21 L nL hbdL hleL M nM hbdM hleM h1 k hi10 h11 x12 hx13 x14 hx15 h20)), hB19⟩
        · refine W.skip ?_
          refine W.regS (SR.q' (r_mv (v := .int .i64 _) rfl) <| SR.q' (r_add rfl rfl (by omega)) <| SR.q' (r_as (v := .int .i64 _) rfl) <| SR.nil ?_)
          refine ⟨k + 1, _, rfl, ⟨rfl, rfl, rfl, trivial⟩, ⟨hB19, (hm8).lo hk17, (hm9).lo hk17, ?_⟩, ?_⟩
          · exact (z_c_laws_eqIntS_22 L nL hbdL hleL M nM hbdM hleM h1 k hi10 h11 x12 hx13 x14 hx15 h20)
          · exact (z_c_laws_eqIntS_23 L nL hbdL hleL M nM hbdM hleM h1 k hi10 h11 x12 hx13 x14 hx15 h20)
      · refine W.exit (xin_here ?_)
        refine W.seq ?_
        refine W.regS (SR.q' (r_as (v := .bool true) rfl) <| SR.nil ?_)
        refine W.ret ?_
        refine ret1 rfl (v := .bool _) rfl ?_
        exact ⟨eR (eDT (z_c_laws_eqIntS_24 L nL hbdL hleL M nM hbdM hleM h1 k hi10 h11)), hB6⟩

theorem z_c_laws_markIntS_1 (L : List Int) (nL : Nat) (hbdL : (nL : Int) ≤ 9223372036854775807) (hleL : nL = L.length) (k : Int) (hp0 : 0 ≤ k) (hp1 : k ≤ 1000000000) (hp2 : (nL : Int) ≤ 1048576) : 0 ≤ nL := by
  omega
theorem z_c_laws_markIntS_2 (L : List Int) (nL : Nat) (hbdL : (nL : Int) ≤ 9223372036854775807) (hleL : nL = L.length) (k : Int) (hp0 : 0 ≤ k) (hp1 : k ≤ 1000000000) (hp2 : (nL : Int) ≤ 1048576) : L = mkL mkInt 1 0 k ++ L.drop 0 := by
  exact mkL_init
theorem z_c_laws_markIntS_19 (L : List Int) (nL : Nat) (hbdL : (nL : Int) ≤ 9223372036854775807) (hleL : nL = L.length) (k : Int) (hp0 : 0 ≤ k) (hp1 : k ≤ 1000000000) (hp2 : (nL : Int) ≤ 1048576) (i : Nat) (hi8 : i ≤ nL) (h9 : (i : Int) < (nL : Int)) (x10 : Int) (hx11 : (mkL mkInt 1 i k ++ L.drop i)[i]? = some x10) : (mkL mkInt 1 i k ++ L.drop i).set ((i : Int).toNat) (k + 1 * (i : Int)) = mkL mkInt 1 (i + 1) k ++ L.drop (i + 1) := by
  exact mkL_set (by omega) (by first | (simp [mkInt]; done) | (simp [mkInt]; omega))
theorem z_c_laws_markIntS_20 (L : List Int) (nL : Nat) (hbdL : (nL : Int) ≤ 9223372036854775807) (hleL : nL = L.length) (k : Int) (hp0 : 0 ≤ k) (hp1 : k ≤ 1000000000) (hp2 : (nL : Int) ≤ 1048576) (i : Nat) (hi8 : i ≤ nL) (h9 : (i : Int) < (nL : Int)) (x10 : Int) (hx11 : (mkL mkInt 1 i k ++ L.drop i)[i]? = some x10) : i + 1 ≤ nL := by
  omega
theorem z_c_laws_markIntS_21 (L : List Int) (nL : Nat) (hbdL : (nL : Int) ≤ 9223372036854775807) (hleL : nL = L.length) (k : Int) (hp0 : 0 ≤ k) (hp1 : k ≤ 1000000000) (hp2 : (nL : Int) ≤ 1048576) (i : Nat) (hi8 : i ≤ nL) (h9 : (i : Int) < (nL : Int)) (x10 : Int) (hx11 : (mkL mkInt 1 i k ++ L.drop i)[i]? = some x10) : nL - (i + 1) < nL - i := by
  omega
theorem z_c_laws_markIntS_22 (L : List Int) (nL : Nat) (hbdL : (nL : Int) ≤ 9223372036854775807) (hleL : nL = L.length) (k : Int) (hp0 : 0 ≤ k) (hp1 : k ≤ 1000000000) (hp2 : (nL : Int) ≤ 1048576) (i : Nat) (hi8 : i ≤ nL) (h9 : ¬ ((i : Int) < (nL : Int))) : k + 1 * (i : Int) = k + 1 * (L.length : Int) := by
  first | omega | exact mkL_end hleL (by assumption) (by omega)
theorem z_c_laws_markIntS_23 (L : List Int) (nL : Nat) (hbdL : (nL : Int) ≤ 9223372036854775807) (hleL : nL = L.length) (k : Int) (hp0 : 0 ≤ k) (hp1 : k ≤ 1000000000) (hp2 : (nL : Int) ≤ 1048576) (i : Nat) (hi8 : i ≤ nL) (h9 : ¬ ((i : Int) < (nL : Int))) : mkL mkInt 1 i k ++ L.drop i = mkL mkInt 1 L.length k := by
  first | omega | exact mkL_end hleL (by assumption) (by omega)
theorem c_laws_markIntS (w : World) {AL : Option Addr} {nL cL BL : Nat} (L : List Int) (hL : SlO w BL encI 1 3 AL nL cL L) (k : Int) (hp0 : 0 ≤ k) (hp1 : k ≤ 1000000000) (hp2 : (nL : Int) ≤ 1048576) : Calls Try.prog 29 #[.slice AL nL cL, .int .i64 k] w fun e w' => e = .returned (.int .i64 (k + 1 * (L.length : Int))) ∧ SlO w' BL encI 1 3 AL nL cL (mkL mkInt 1 L.length k) ∧ Kp (fun b => AL = some ⟨b, 0, none⟩) w w' := by
  refine calls_W 19 Try.func29 rfl rfl rfl ?_
  have hbdL := hL.rd.bound
  have hleL := hL.len
  have hBbL := hL.bd
  refine W.seq ?_
  refine W.regS (SR.q' (r_as (v := .int .i64 0) rfl) <| SR.nil ?_)
  refine W.seq ?_
  refine W.seq ?_
  refine W.regS (SR.q' (r_as (v := .int .i64 0) rfl) <| SR.nil ?_)
  refine W.block ?_
  refine W.loop (σ := Nat) (fun g => [(0, .slice AL nL cL), (1, .int .i64 (k + 1 * (g : Int))), (4, .int .i64 0), (5, .int .i64 (g : Int))]) (fun g w' => (Kp (fun b => AL = some ⟨b, 0, none⟩) w w') ∧ (SlO w' BL encI 1 3 AL nL cL (mkL mkInt 1 g k ++ L.drop g)) ∧ (g ≤ nL)) (fun g => nL - g) 0 ?_ ?_ ?_
  · exact ⟨rfl, (eI (by omega)), rfl, (eI (by omega)), trivial⟩
  · exact ⟨(Kp.refl w : Kp (fun b => AL = some ⟨b, 0, none⟩) w w), (SlO.eqv (hL) (z_c_laws_markIntS_2 L nL hbdL hleL k hp0 hp1 hp2)), (z_c_laws_markIntS_1 L nL hbdL hleL k hp0 hp1 hp2)⟩
  · rintro i f3 w4 hP6
    obtain ⟨hB5, hm7, hi8⟩ : (Kp (fun b => AL = some ⟨b, 0, none⟩) w w4) ∧ (SlO w4 BL encI 1 3 AL nL cL (mkL mkInt 1 i k ++ L.drop i)) ∧ (i ≤ nL) := hP6
    refine (?_ : W _ _ _ _ _ (act _ (sets f3 [(0, .slice AL nL cL), (1, .int .i64 (k + 1 * (i : Int))), (4, .int .i64 0), (5, .int .i64 (i : Int))])) _)
    have hzw4 := hB5.size
    refine W.seq ?_
    refine W.seq ?_
    refine W.regS (SR.q' (r_mv (v := .int .i64 _) rfl) <| SR.q' (r_mv (v := .slice _ _ _) rfl) <| SR.q' (r_len und39 rfl) <| SR.q' (r_lt rfl rfl) <| SR.nil ?_)
    refine W.cond_d rfl (fun h9 => ?_) (fun h9 => ?_)
    · refine W.skip ?_
      refine W.seq ?_
      refine W.block ?_
      refine W.seq ?_
      refine W.regS (SR.q' (r_mv (v := .slice _ _ _) rfl) <| SR.q' (r_mv (v := .int .i64 _) rfl) <| SR.q' (r_mv (v := .int .i64 _) rfl) <| ?_)
      obtain ⟨x10, hx11⟩ := ((hm7).rd).get (i := i) (by omega)
      refine SR.q' (r_ixR tsl39 ((hm7).rd) rfl rfl (by omega)) <| SR.storeO (o := 0) (vs := [.int .i64 (k + 1 * (i : Int))]) (x1 := k + 1 * (i : Int)) sca3.2 rfl rfl rfl rfl (hm7) hx11 rfl (Nat.le_of_ble_eq_true rfl) rfl ?_
      intro w12 hk13 hs14 hO15
      have hz16 := hk13.size
      have hB17 := hB5.step hk13 (fun i hi e' => by have := ((hm7)).base_le e'; first | omega | (exfalso; omega))
      have hx18 : ((mkL mkInt 1 i k ++ L.drop i).set ((i : Int).toNat) (k + 1 * (i : Int)))[(i : Int).toNat]? = some (k + 1 * (i : Int)) := List.getElem?_set_self (List.getElem?_eq_some_iff.1 hx11).1
      refine SR.nil ?_
      refine W.regS (SR.q' (r_mv (v := .int .i64 _) rfl) <| SR.q' (r_add rfl rfl (by omega)) <| SR.q' (r_as (v := .int .i64 _) rfl) <| SR.nil ?_)
      refine W.regS (SR.q' (r_mv (v := .int .i64 _) rfl) <| SR.q' (r_add rfl rfl (by omega)) <| SR.q' (r_as (v := .int .i64 _) rfl) <| SR.nil ?_)
      refine ⟨i + 1, _, rfl, ⟨rfl, (eI (by omega)), rfl, (eI (by omega)), trivial⟩, ⟨hB17, (SlO.eqv (hO15) (z_c_laws_markIntS_19 L nL hbdL hleL k hp0 hp1 hp2 i hi8 h9 x10 hx11)), ?_⟩, ?_⟩
      · exact (z_c_laws_markIntS_20 L nL hbdL hleL k hp0 hp1 hp2 i hi8 h9 x10 hx11)
      · exact (z_c_laws_markIntS_21 L nL hbdL hleL k hp0 hp1 hp2 i hi8 h9 x10 hx11)
    · refine W.exit (xin_here ?_)
      refine W.seq ?_
      refine W.regS (SR.q' (r_mv (v := .int .i64 _) rfl) <| SR.q' (r_as (v := .int .i64 _) rfl) <| SR.nil ?_)
      refine W.ret ?_
      refine ret1 rfl (v := .int .i64 _) rfl ?_
      exact ⟨eR (eI (z_c_laws_markIntS_22 L nL hbdL hleL k hp0 hp1 hp2 i hi8 h9)), (SlO.eqv (hm7) (z_c_laws_markIntS_23 L nL hbdL hleL k hp0 hp1 hp2 i hi8 h9)), hB5⟩

theorem z_c_laws_heldIntS_1 (L : List Int) (nL : Nat) (hbdL : (nL : Int) ≤ 9223372036854775807) (hleL : nL = L.length) (k : Int) (m : Nat) (hp0 : 0 ≤ k) (hp1 : k ≤ 1000000000) (hp2 : (nL : Int) ≤ 1048576) (hp3 : L = mkL mkInt 1 m k) : 0 ≤ nL := by
  omega
theorem z_c_laws_heldIntS_12 (L : List Int) (nL : Nat) (hbdL : (nL : Int) ≤ 9223372036854775807) (hleL : nL = L.length) (k : Int) (m : Nat) (hp0 : 0 ≤ k) (hp1 : k ≤ 1000000000) (hp2 : (nL : Int) ≤ 1048576) (hp3 : L = mkL mkInt 1 m k) (i : Nat) (hi7 : i ≤ nL) (h8 : (i : Int) < (nL : Int)) (x9 : Int) (hx10 : L[i]? = some x9) (h11 : ¬ (x9 = (k + 1 * (i : Int)))) : (-1) = k + 1 * (m : Int) := by
  first | omega | (rw [hp3, mkL_len] at hleL; omega) | (exfalso; subst hp3; obtain rfl := mkL_get ‹_[_]? = some _›; first | (simp_all [mkInt]; done) | (simp only [mkInt] at *; omega))
theorem z_c_laws_heldIntS_13 (L : List Int) (nL : Nat) (hbdL : (nL : Int) ≤ 9223372036854775807) (hleL : nL = L.length) (k : Int) (m : Nat) (hp0 : 0 ≤ k) (hp1 : k ≤ 1000000000) (hp2 : (nL : Int) ≤ 1048576) (hp3 : L = mkL mkInt 1 m k) (i : Nat) (hi7 : i ≤ nL) (h8 : (i : Int) < (nL : Int)) (x9 : Int) (hx10 : L[i]? = some x9) (h11 : x9 = (k + 1 * (i : Int))) : i + 1 ≤ nL := by
  omega
theorem z_c_laws_heldIntS_14 (L : List Int) (nL : Nat) (hbdL : (nL : Int) ≤ 9223372036854775807) (hleL : nL = L.length) (k : Int) (m : Nat) (hp0 : 0 ≤ k) (hp1 : k ≤ 1000000000) (hp2 : (nL : Int) ≤ 1048576) (hp3 : L = mkL mkInt 1 m k) (i : Nat) (hi7 : i ≤ nL) (h8 : (i : Int) < (nL : Int)) (x9 : Int) (hx10 : L[i]? = some x9) (h11 : x9 = (k + 1 * (i : Int))) : nL - (i + 1) < nL - i := by
  omega
theorem z_c_laws_heldIntS_15 (L : List Int) (nL : Nat) (hbdL : (nL : Int) ≤ 9223372036854775807) (hleL : nL = L.length) (k : Int) (m : Nat) (hp0 : 0 ≤ k) (hp1 : k ≤ 1000000000) (hp2 : (nL : Int) ≤ 1048576) (hp3 : L = mkL mkInt 1 m k) (i : Nat) (hi7 : i ≤ nL) (h8 : ¬ ((i : Int) < (nL : Int))) : k + 1 * (i : Int) = k + 1 * (m : Int) := by
  first | omega | (rw [hp3, mkL_len] at hleL; omega) | (exfalso; subst hp3; obtain rfl := mkL_get ‹_[_]? = some _›; first | (simp_all [mkInt]; done) | (simp only [mkInt] at *; omega))
theorem c_laws_heldIntS (w : World) {AL : Option Addr} {nL cL BL : Nat} (L : List Int) (hL : SlR w BL encI 1 AL nL cL L) (k : Int) (m : Nat) (hp0 : 0 ≤ k) (hp1 : k ≤ 1000000000) (hp2 : (nL : Int) ≤ 1048576) (hp3 : L = mkL mkInt 1 m k) : Calls Try.prog 30 #[.slice AL nL cL, .int .i64 k] w fun e w' => e = .returned (.int .i64 (k + 1 * (m : Int))) ∧ Lo w w' := by
  refine calls_W 21 Try.func30 rfl rfl rfl ?_
  have hbdL := hL.bound
  have hleL := hL.len
  have hBbL := hL.bd
  refine W.seq ?_
  refine W.regS (SR.q' (r_as (v := .int .i64 0) rfl) <| SR.nil ?_)
  refine W.seq ?_
  refine W.seq ?_
  refine W.regS (SR.q' (r_as (v := .int .i64 0) rfl) <| SR.nil ?_)
  refine W.block ?_
  refine W.loop (σ := Nat) (fun g => [(0, .slice AL nL cL), (1, .int .i64 (k + 1 * (g : Int))), (5, .int .i64 (g : Int))]) (fun g w' => (Lo w w') ∧ (SlR w' BL encI 1 AL nL cL L) ∧ (g ≤ nL)) (fun g => nL - g) 0 ?_ ?_ ?_
  · exact ⟨rfl, (eI (by omega)), (eI (by omega)), trivial⟩
  · exact ⟨(Lo.refl w), hL, (z_c_laws_heldIntS_1 L nL hbdL hleL k m hp0 hp1 hp2 hp3)⟩
  · rintro i f2 w3 hP5
    obtain ⟨hB4, hm6, hi7⟩ : (Lo w w3) ∧ (SlR w3 BL encI 1 AL nL cL L) ∧ (i ≤ nL) := hP5
    refine (?_ : W _ _ _ _ _ (act _ (sets f2 [(0, .slice AL nL cL), (1, .int .i64 (k + 1 * (i : Int))), (5, .int .i64 (i : Int))])) _)
    have hzw3 := hB4.size
    refine W.seq ?_
    refine W.seq ?_
    refine W.regS (SR.q' (r_mv (v := .int .i64 _) rfl) <| SR.q' (r_mv (v := .slice _ _ _) rfl) <| SR.q' (r_len und39 rfl) <| SR.q' (r_lt rfl rfl) <| SR.nil ?_)
    refine W.cond_d rfl (fun h8 => ?_) (fun h8 => ?_)
    · refine W.skip ?_
      refine W.seq ?_
      refine W.block ?_
      refine W.seq ?_
      refine W.seq ?_
      refine W.regS (SR.q' (r_mv (v := .slice _ _ _) rfl) <| SR.q' (r_mv (v := .int .i64 _) rfl) <| ?_)
      obtain ⟨x9, hx10⟩ := (hm6).get (i := i) (by omega)
      refine SR.q' (r_ixR tsl39 (hm6) rfl rfl (by omega)) <| SR.q' (r_ld (v := .int .i64 x9) sca3 rfl ((hm6).cell0 hx10 rfl)) <| SR.q' (r_mv (v := .int .i64 _) rfl) <| SR.q' (r_ne rfl rfl) <| SR.nil ?_
      refine W.cond_n rfl (fun h11 => ?_) (fun h11 => ?_)
      · refine W.seq ?_
        refine W.regS (SR.q' (r_as (v := .int .i64 (-1)) rfl) <| SR.nil ?_)
        refine W.ret ?_
        refine ret1 rfl (v := .int .i64 _) rfl ?_
        exact ⟨eR (eI (z_c_laws_heldIntS_12 L nL hbdL hleL k m hp0 hp1 hp2 hp3 i hi7 h8 x9 hx10 h11)), hB4⟩
      · refine W.skip ?_
        refine W.regS (SR.q' (r_mv (v := .int .i64 _) rfl) <| SR.q' (r_add rfl rfl (by omega)) <| SR.q' (r_as (v := .int .i64 _) rfl) <| SR.nil ?_)
        refine W.regS (SR.q' (r_mv (v := .int .i64 _) rfl) <| SR.q' (r_add rfl rfl (by omega)) <| SR.q' (r_as (v := .int .i64 _) rfl) <| SR.nil ?_)
        refine ⟨i + 1, _, rfl, ⟨rfl, (eI (by omega)), (eI (by omega)), trivial⟩, ⟨hB4, hm6, ?_⟩, ?_⟩
        · exact (z_c_laws_heldIntS_13 L nL hbdL hleL k m hp0 hp1 hp2 hp3 i hi7 h8 x9 hx10 h11)
        · exact (z_c_laws_heldIntS_14 L nL hbdL hleL k m hp0 hp1 hp2 hp3 i hi7 h8 x9 hx10 h11)
    · refine W.exit (xin_here ?_)
      refine W.seq ?_
      refine W.regS (SR.q' (r_mv (v := .int .i64 _) rfl) <| SR.q' (r_as (v := .int .i64 _) rfl) <| SR.nil ?_)
      refine W.ret ?_
      refine ret1 rfl (v := .int .i64 _) rfl ?_
      exact ⟨eR (eI (z_c_laws_heldIntS_15 L nL hbdL hleL k m hp0 hp1 hp2 hp3 i hi7 h8)), hB4⟩
end Go.Proofs.Ytkbmbbdhojfnpaa
