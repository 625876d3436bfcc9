/- Walks, printed by a program of this claim's author. -/
import Derived.Test.YtmigipacjadpeaaChecked
import Derived.Test.YtmigipacjadpeaaLa
import Derived.Test.YtmigipacjadpeaaLb
import Derived.Test.YtmigipacjadpeaaFo
import Derived.Test.YtmigipacjadpeaaFs
import Derived.Test.YtmigipacjadpeaaFq
import Derived.Test.YtmigipacjadpeaaFp
import Derived.Test.YtmigipacjadpeaaFu
import Derived.Test.YtmigipacjadpeaaFt
import Derived.Test.YtmigipacjadpeaaG31
namespace Go.Proofs.Ytmigipacjadpeaa
open Go Go.RowKit Fw
set_option maxRecDepth 10000
set_option linter.unusedVariables false
theorem ent20 : Ent Try.prog 20 := ent_of Try.func20 (by decide +kernel) rfl
theorem ent22 : Ent Try.prog 22 := ent_of Try.func22 (by decide +kernel) rfl

theorem z_c_spec_MissingMonths_6 (L : List LibRow) (nL : Nat) (hbdL : (nL : Int) ≤ 9223372036854775807) (hleL : nL = L.length) (h5 : ¬ (RowsOK L)) : 0 = missM L := by
  first | assumption | (subst hleL; unfold missM; simp_all; done) | (unfold missM; simp_all; done) | (unfold missM; simp_all; omega)
theorem z_c_spec_MissingMonths_7 (L : List LibRow) (nL : Nat) (hbdL : (nL : Int) ≤ 9223372036854775807) (hleL : nL = L.length) (h5 : ¬ (RowsOK L)) : ¬ (RowsOK L) := by
  first | assumption | (subst hleL; unfold missM; simp_all; done) | (unfold missM; simp_all; done) | (unfold missM; simp_all; omega)
theorem z_c_spec_MissingMonths_10 (L : List LibRow) (nL : Nat) (hbdL : (nL : Int) ≤ 9223372036854775807) (hleL : nL = L.length) (h5 : RowsOK L) (hq8 : L.length ≤ 12) (h9 : (nL : Int) = 0) : 0 = missM L := by
  first | assumption | (subst hleL; unfold missM; simp_all; done) | (unfold missM; simp_all; done) | (unfold missM; simp_all; omega)
theorem z_c_spec_MissingMonths_11 (L : List LibRow) (nL : Nat) (hbdL : (nL : Int) ≤ 9223372036854775807) (hleL : nL = L.length) (h5 : RowsOK L) (hq8 : L.length ≤ 12) (h9 : (nL : Int) = 0) : RowsOK L := by
  first | assumption | (subst hleL; unfold missM; simp_all; done) | (unfold missM; simp_all; done) | (unfold missM; simp_all; omega)
theorem z_c_spec_MissingMonths_23 (L : List LibRow) (nL : Nat) (hbdL : (nL : Int) ≤ 9223372036854775807) (hleL : nL = L.length) (h5 : RowsOK L) (hq8 : L.length ≤ 12) (h9 : ¬ ((nL : Int) = 0)) (x12 : LibRow) (hx14 : L[nL - 1]? = some x12) (hq15 : ((1 : Int) ≤ x12.Month ∧ x12.Month ≤ 1200) ∧ ((0 : Int) ≤ x12.Lent ∧ x12.Lent ≤ 9999) ∧ ((0 : Int) ≤ x12.Copied ∧ x12.Copied ≤ 9999) ∧ ((0 : Int) ≤ x12.Given ∧ x12.Given ≤ 999) ∧ ((0 : Int) ≤ x12.Fines ∧ x12.Fines ≤ 99999)) (x16 : LibRow) (hx17 : L[0]? = some x16) (hq18 : ((1 : Int) ≤ x16.Month ∧ x16.Month ≤ 1200) ∧ ((0 : Int) ≤ x16.Lent ∧ x16.Lent ≤ 9999) ∧ ((0 : Int) ≤ x16.Copied ∧ x16.Copied ≤ 9999) ∧ ((0 : Int) ≤ x16.Given ∧ x16.Given ≤ 999) ∧ ((0 : Int) ≤ x16.Fines ∧ x16.Fines ≤ 99999)) : ((x12.Month - x16.Month) + 1) - (nL : Int) = missM L := by
  first | assumption | (subst hleL; unfold missM; simp_all; done) | (unfold missM; simp_all; done) | (unfold missM; simp_all; omega)
theorem z_c_spec_MissingMonths_24 (L : List LibRow) (nL : Nat) (hbdL : (nL : Int) ≤ 9223372036854775807) (hleL : nL = L.length) (h5 : RowsOK L) (hq8 : L.length ≤ 12) (h9 : ¬ ((nL : Int) = 0)) (x12 : LibRow) (hx14 : L[nL - 1]? = some x12) (hq15 : ((1 : Int) ≤ x12.Month ∧ x12.Month ≤ 1200) ∧ ((0 : Int) ≤ x12.Lent ∧ x12.Lent ≤ 9999) ∧ ((0 : Int) ≤ x12.Copied ∧ x12.Copied ≤ 9999) ∧ ((0 : Int) ≤ x12.Given ∧ x12.Given ≤ 999) ∧ ((0 : Int) ≤ x12.Fines ∧ x12.Fines ≤ 99999)) (x16 : LibRow) (hx17 : L[0]? = some x16) (hq18 : ((1 : Int) ≤ x16.Month ∧ x16.Month ≤ 1200) ∧ ((0 : Int) ≤ x16.Lent ∧ x16.Lent ≤ 9999) ∧ ((0 : Int) ≤ x16.Copied ∧ x16.Copied ≤ 9999) ∧ ((0 : Int) ≤ x16.Given ∧ x16.Given ≤ 999) ∧ ((0 : Int) ≤ x16.Fines ∧ x16.Fines ≤ 99999)) : RowsOK L := by
  first | assumption | (subst hleL; unfold missM; simp_all; done) | (unfold missM; simp_all; done) | (unfold missM; simp_all; omega)
theorem c_spec_MissingMonths (w : World) {AL : Option Addr} {nL cL BL : Nat}  (L : List LibRow) (hL : SlR w BL encLibRow 5 AL nL cL L) : Calls Try.prog 15 #[.slice AL nL cL] w fun e w' => e = .returned (.tuple (List.toArray [.int .i64 (missM L), .bool (decide (RowsOK L))])) ∧ Lo w w' := by
  refine calls_W 26 Try.func15 rfl rfl rfl ?_
  have hbdL := hL.bound
  have hleL := hL.len
  have hBbL := hL.bd
  refine W.seq ?_
  refine W.regS (SR.q' (r_as (v := .int .i64 0) rfl) <| SR.q' (r_as (v := .bool false) rfl) <| SR.nil ?_)
  refine W.seq ?_
  refine W.regS (SR.q' (r_mv (v := .slice _ _ _) rfl) <| SR.q' (r_len und24 rfl) <| SR.q' (r_as (v := .int .i64 _) rfl) <| SR.nil ?_)
  refine W.seq ?_
  refine W.seq ?_
  refine W.regS (SR.q' (r_mv (v := .slice _ _ _) rfl) <| SR.call ent22 (c_spec_l31Good w L ((hL))) rfl ?_)
  rintro e w1 ⟨rfl, hk2⟩
  refine ⟨_, rfl, ?_⟩
  have hz3 := hk2.size
  have hB4 := (Lo.refl w).lo hk2
  refine SR.q' (r_not rfl) <| SR.nil ?_
  refine W.cond_n rfl (fun h5 => ?_) (fun h5 => ?_)
  · refine W.seq ?_
    refine W.regS (SR.q' (r_as (v := .int .i64 0) rfl) <| SR.q' (r_as (v := .bool false) rfl) <| SR.nil ?_)
    refine W.ret ?_
    refine ret2 rfl (v := .int .i64 _) (v' := .bool _) rfl rfl ?_
    exact ⟨eR (eT2 (eI (z_c_spec_MissingMonths_6 L nL hbdL hleL h5)) (eDF (z_c_spec_MissingMonths_7 L nL hbdL hleL h5))), hB4⟩
  · have hq8 := rows_len h5
    refine W.skip ?_
    refine W.seq ?_
    refine W.seq ?_
    refine W.regS (SR.q' (r_mv (v := .int .i64 _) rfl) <| SR.q' (r_eq rfl rfl) <| SR.nil ?_)
    refine W.cond_d rfl (fun h9 => ?_) (fun h9 => ?_)
    · refine W.seq ?_
      refine W.regS (SR.q' (r_as (v := .int .i64 0) rfl) <| SR.q' (r_as (v := .bool true) rfl) <| SR.nil ?_)
      refine W.ret ?_
      refine ret2 rfl (v := .int .i64 _) (v' := .bool _) rfl rfl ?_
      exact ⟨eR (eT2 (eI (z_c_spec_MissingMonths_10 L nL hbdL hleL h5 hq8 h9)) (eDT (z_c_spec_MissingMonths_11 L nL hbdL hleL h5 hq8 h9))), hB4⟩
    · refine W.skip ?_
      refine W.seq ?_
      refine W.regD mo (by kernel_rfl) (QR.q' (fun w' hw' => r_mv (v := .slice _ _ _) rfl) <| QR.q' (fun w' hw' => r_mv (v := .int .i64 _) rfl) <| QR.q' (fun w' hw' => r_sub rfl rfl (by omega)) <| ?_)
      obtain ⟨x12, hx13⟩ := ((hL).lo hk2).get (i := ((nL : Int) - 1).toNat) (by omega)
      have hx14 : L[nL - 1]? = some x12 := (show ((nL : Int) - 1).toNat = nL - 1 from by omega) ▸ hx13
      have hq15 := rows_rng h5 hx14
      refine QR.q' (fun w' hw' => r_ixR tsl24 ((((hL).lo hk2).lo hw')) rfl rfl (by omega)) <| QR.q' (fun w' hw' => r_fa fa29_0 rfl) <| QR.q' (fun w' hw' => r_ld (v := .int .i64 x12.Month) sca3 rfl (((((hL).lo hk2).lo hw')).cell hx13 rfl)) <| QR.q' (fun w' hw' => r_mv (v := .slice _ _ _) rfl) <| ?_
      obtain ⟨x16, hx17⟩ := ((hL).lo hk2).get (i := 0) (by omega)
      have hq18 := rows_rng h5 hx17
      refine QR.q' (fun w' hw' => r_ixR tsl24 ((((hL).lo hk2).lo hw')) rfl rfl (by omega)) <| QR.q' (fun w' hw' => r_fa fa29_0 rfl) <| QR.q' (fun w' hw' => r_ld (v := .int .i64 x16.Month) sca3 rfl (((((hL).lo hk2).lo hw')).cell hx17 rfl)) <| QR.q' (fun w' hw' => r_sub rfl rfl (by omega)) <| QR.q' (fun w' hw' => r_add rfl rfl (by omega)) <| QR.q' (fun w' hw' => r_mv (v := .int .i64 _) rfl) <| QR.q' (fun w' hw' => r_sub rfl rfl (by omega)) <| QR.q' (fun w' hw' => r_as (v := .int .i64 _) rfl) <| QR.q' (fun w' hw' => r_as (v := .bool true) rfl) <| QR.nil ?_
      intro w19 hk20
      have hz21 := hk20.size
      have hB22 := hB4.lo hk20
      refine W.ret ?_
      refine ret2 rfl (v := .int .i64 _) (v' := .bool _) rfl rfl ?_
      exact ⟨eR (eT2 (eI (z_c_spec_MissingMonths_23 L nL hbdL hleL h5 hq8 h9 x12 hx14 hq15 x16 hx17 hq18)) (eDT (z_c_spec_MissingMonths_24 L nL hbdL hleL h5 hq8 h9 x12 hx14 hq15 x16 hx17 hq18))), hB22⟩

theorem z_c_impl_MissingMonths_6 (L : List LibRow) (nL : Nat) (hbdL : (nL : Int) ≤ 9223372036854775807) (hleL : nL = L.length) (h5 : ¬ (RowsOK L)) : 0 = missM L := by
  first | assumption | (subst hleL; unfold missM; simp_all; done) | (unfold missM; simp_all; done) | (unfold missM; simp_all; omega)
theorem z_c_impl_MissingMonths_7 (L : List LibRow) (nL : Nat) (hbdL : (nL : Int) ≤ 9223372036854775807) (hleL : nL = L.length) (h5 : ¬ (RowsOK L)) : ¬ (RowsOK L) := by
  first | assumption | (subst hleL; unfold missM; simp_all; done) | (unfold missM; simp_all; done) | (unfold missM; simp_all; omega)
theorem z_c_impl_MissingMonths_10 (L : List LibRow) (nL : Nat) (hbdL : (nL : Int) ≤ 9223372036854775807) (hleL : nL = L.length) (h5 : RowsOK L) (hq8 : L.length ≤ 12) (h9 : (nL : Int) = 0) : 0 = missM L := by
  first | assumption | (subst hleL; unfold missM; simp_all; done) | (unfold missM; simp_all; done) | (unfold missM; simp_all; omega)
theorem z_c_impl_MissingMonths_11 (L : List LibRow) (nL : Nat) (hbdL : (nL : Int) ≤ 9223372036854775807) (hleL : nL = L.length) (h5 : RowsOK L) (hq8 : L.length ≤ 12) (h9 : (nL : Int) = 0) : RowsOK L := by
  first | assumption | (subst hleL; unfold missM; simp_all; done) | (unfold missM; simp_all; done) | (unfold missM; simp_all; omega)
theorem z_c_impl_MissingMonths_23 (L : List LibRow) (nL : Nat) (hbdL : (nL : Int) ≤ 9223372036854775807) (hleL : nL = L.length) (h5 : RowsOK L) (hq8 : L.length ≤ 12) (h9 : ¬ ((nL : Int) = 0)) (x12 : LibRow) (hx14 : L[nL - 1]? = some x12) (hq15 : ((1 : Int) ≤ x12.Month ∧ x12.Month ≤ 1200) ∧ ((0 : Int) ≤ x12.Lent ∧ x12.Lent ≤ 9999) ∧ ((0 : Int) ≤ x12.Copied ∧ x12.Copied ≤ 9999) ∧ ((0 : Int) ≤ x12.Given ∧ x12.Given ≤ 999) ∧ ((0 : Int) ≤ x12.Fines ∧ x12.Fines ≤ 99999)) (x16 : LibRow) (hx17 : L[0]? = some x16) (hq18 : ((1 : Int) ≤ x16.Month ∧ x16.Month ≤ 1200) ∧ ((0 : Int) ≤ x16.Lent ∧ x16.Lent ≤ 9999) ∧ ((0 : Int) ≤ x16.Copied ∧ x16.Copied ≤ 9999) ∧ ((0 : Int) ≤ x16.Given ∧ x16.Given ≤ 999) ∧ ((0 : Int) ≤ x16.Fines ∧ x16.Fines ≤ 99999)) : ((x12.Month - x16.Month) + 1) - (nL : Int) = missM L := by
  first | assumption | (subst hleL; unfold missM; simp_all; done) | (unfold missM; simp_all; done) | (unfold missM; simp_all; omega)
theorem z_c_impl_MissingMonths_24 (L : List LibRow) (nL : Nat) (hbdL : (nL : Int) ≤ 9223372036854775807) (hleL : nL = L.length) (h5 : RowsOK L) (hq8 : L.length ≤ 12) (h9 : ¬ ((nL : Int) = 0)) (x12 : LibRow) (hx14 : L[nL - 1]? = some x12) (hq15 : ((1 : Int) ≤ x12.Month ∧ x12.Month ≤ 1200) ∧ ((0 : Int) ≤ x12.Lent ∧ x12.Lent ≤ 9999) ∧ ((0 : Int) ≤ x12.Copied ∧ x12.Copied ≤ 9999) ∧ ((0 : Int) ≤ x12.Given ∧ x12.Given ≤ 999) ∧ ((0 : Int) ≤ x12.Fines ∧ x12.Fines ≤ 99999)) (x16 : LibRow) (hx17 : L[0]? = some x16) (hq18 : ((1 : Int) ≤ x16.Month ∧ x16.Month ≤ 1200) ∧ ((0 : Int) ≤ x16.Lent ∧ x16.Lent ≤ 9999) ∧ ((0 : Int) ≤ x16.Copied ∧ x16.Copied ≤ 9999) ∧ ((0 : Int) ≤ x16.Given ∧ x16.Given ≤ 999) ∧ ((0 : Int) ≤ x16.Fines ∧ x16.Fines ≤ 99999)) : RowsOK L := by
  first | assumption | (subst hleL; unfold missM; simp_all; done) | (unfold missM; simp_all; done) | (unfold missM; simp_all; omega)
theorem c_impl_MissingMonths (w : World) {AL : Option Addr} {nL cL BL : Nat}  (L : List LibRow) (hL : SlR w BL encLibRow 5 AL nL cL L) : Calls Try.prog 14 #[.slice AL nL cL] w fun e w' => e = .returned (.tuple (List.toArray [.int .i64 (missM L), .bool (decide (RowsOK L))])) ∧ Lo w w' := by
  refine calls_W 26 Try.func14 rfl rfl rfl ?_
  have hbdL := hL.bound
  have hleL := hL.len
  have hBbL := hL.bd
  refine W.seq ?_
  refine W.regS (SR.q' (r_as (v := .int .i64 0) rfl) <| SR.q' (r_as (v := .bool false) rfl) <| SR.nil ?_)
  refine W.seq ?_
  refine W.seq ?_
  refine W.regS (SR.q' (r_mv (v := .slice _ _ _) rfl) <| SR.call ent20 (c_impl_AreLibRows w L ((hL))) rfl ?_)
  rintro e w1 ⟨rfl, hk2⟩
  refine ⟨_, rfl, ?_⟩
  have hz3 := hk2.size
  have hB4 := (Lo.refl w).lo hk2
  refine SR.q' (r_not rfl) <| SR.nil ?_
  refine W.cond_n rfl (fun h5 => ?_) (fun h5 => ?_)
  · refine W.seq ?_
    refine W.regS (SR.q' (r_as (v := .int .i64 0) rfl) <| SR.q' (r_as (v := .bool false) rfl) <| SR.nil ?_)
    refine W.ret ?_
    refine ret2 rfl (v := .int .i64 _) (v' := .bool _) rfl rfl ?_
    exact ⟨eR (eT2 (eI (z_c_impl_MissingMonths_6 L nL hbdL hleL h5)) (eDF (z_c_impl_MissingMonths_7 L nL hbdL hleL h5))), hB4⟩
  · have hq8 := rows_len h5
    refine W.skip ?_
    refine W.seq ?_
    refine W.seq ?_
    refine W.regS (SR.q' (r_mv (v := .slice _ _ _) rfl) <| SR.q' (r_len und24 rfl) <| SR.q' (r_eq rfl rfl) <| SR.nil ?_)
    refine W.cond_d rfl (fun h9 => ?_) (fun h9 => ?_)
    · refine W.seq ?_
      refine W.regS (SR.q' (r_as (v := .int .i64 0) rfl) <| SR.q' (r_as (v := .bool true) rfl) <| SR.nil ?_)
      refine W.ret ?_
      refine ret2 rfl (v := .int .i64 _) (v' := .bool _) rfl rfl ?_
      exact ⟨eR (eT2 (eI (z_c_impl_MissingMonths_10 L nL hbdL hleL h5 hq8 h9)) (eDT (z_c_impl_MissingMonths_11 L nL hbdL hleL h5 hq8 h9))), hB4⟩
    · refine W.skip ?_
      refine W.seq ?_
      refine W.regD mo (by kernel_rfl) (QR.q' (fun w' hw' => r_mv (v := .slice _ _ _) rfl) <| QR.q' (fun w' hw' => r_mv (v := .slice _ _ _) rfl) <| QR.q' (fun w' hw' => r_len und24 rfl) <| QR.q' (fun w' hw' => r_sub rfl rfl (by omega)) <| ?_)
      obtain ⟨x12, hx13⟩ := ((hL).lo hk2).get (i := ((nL : Int) - 1).toNat) (by omega)
      have hx14 : L[nL - 1]? = some x12 := (show ((nL : Int) - 1).toNat = nL - 1 from by omega) ▸ hx13
      have hq15 := rows_rng h5 hx14
      refine QR.q' (fun w' hw' => r_ixR tsl24 ((((hL).lo hk2).lo hw')) rfl rfl (by omega)) <| QR.q' (fun w' hw' => r_fa fa29_0 rfl) <| QR.q' (fun w' hw' => r_ld (v := .int .i64 x12.Month) sca3 rfl (((((hL).lo hk2).lo hw')).cell hx13 rfl)) <| QR.q' (fun w' hw' => r_mv (v := .slice _ _ _) rfl) <| ?_
      obtain ⟨x16, hx17⟩ := ((hL).lo hk2).get (i := 0) (by omega)
      have hq18 := rows_rng h5 hx17
      refine QR.q' (fun w' hw' => r_ixR tsl24 ((((hL).lo hk2).lo hw')) rfl rfl (by omega)) <| QR.q' (fun w' hw' => r_fa fa29_0 rfl) <| QR.q' (fun w' hw' => r_ld (v := .int .i64 x16.Month) sca3 rfl (((((hL).lo hk2).lo hw')).cell hx17 rfl)) <| QR.q' (fun w' hw' => r_sub rfl rfl (by omega)) <| QR.q' (fun w' hw' => r_add rfl rfl (by omega)) <| QR.q' (fun w' hw' => r_mv (v := .slice _ _ _) rfl) <| QR.q' (fun w' hw' => r_len und24 rfl) <| QR.q' (fun w' hw' => r_sub rfl rfl (by omega)) <| QR.q' (fun w' hw' => r_as (v := .int .i64 _) rfl) <| QR.q' (fun w' hw' => r_as (v := .bool true) rfl) <| QR.nil ?_
      intro w19 hk20
      have hz21 := hk20.size
      have hB22 := hB4.lo hk20
      refine W.ret ?_
      refine ret2 rfl (v := .int .i64 _) (v' := .bool _) rfl rfl ?_
      exact ⟨eR (eT2 (eI (z_c_impl_MissingMonths_23 L nL hbdL hleL h5 hq8 h9 x12 hx14 hq15 x16 hx17 hq18)) (eDT (z_c_impl_MissingMonths_24 L nL hbdL hleL h5 hq8 h9 x12 hx14 hq15 x16 hx17 hq18))), hB22⟩

theorem z_c_spec_BestRun_6 (L : List LibRow) (nL : Nat) (hbdL : (nL : Int) ≤ 9223372036854775807) (hleL : nL = L.length) (h5 : ¬ (RowsOK L)) : 0 = bestF L := by
  first | (simp_all [bestF, bestL]; done) | (simp_all; done)
theorem z_c_spec_BestRun_7 (L : List LibRow) (nL : Nat) (hbdL : (nL : Int) ≤ 9223372036854775807) (hleL : nL = L.length) (h5 : ¬ (RowsOK L)) : 0 = bestL L := by
  first | (simp_all [bestF, bestL]; done) | (simp_all; done)
theorem z_c_spec_BestRun_8 (L : List LibRow) (nL : Nat) (hbdL : (nL : Int) ≤ 9223372036854775807) (hleL : nL = L.length) (h5 : ¬ (RowsOK L)) : ¬ (RowsOK L ∧ 0 < L.length) := by
  first | (simp_all [bestF, bestL]; done) | (simp_all; done)
theorem z_c_spec_BestRun_11 (L : List LibRow) (nL : Nat) (hbdL : (nL : Int) ≤ 9223372036854775807) (hleL : nL = L.length) (h5 : RowsOK L) (hq9 : L.length ≤ 12) (h10 : (nL : Int) = 0) : 0 = bestF L := by
  first | (simp_all [bestF, bestL]; done) | (simp_all; done)
theorem z_c_spec_BestRun_12 (L : List LibRow) (nL : Nat) (hbdL : (nL : Int) ≤ 9223372036854775807) (hleL : nL = L.length) (h5 : RowsOK L) (hq9 : L.length ≤ 12) (h10 : (nL : Int) = 0) : 0 = bestL L := by
  first | (simp_all [bestF, bestL]; done) | (simp_all; done)
theorem z_c_spec_BestRun_13 (L : List LibRow) (nL : Nat) (hbdL : (nL : Int) ≤ 9223372036854775807) (hleL : nL = L.length) (h5 : RowsOK L) (hq9 : L.length ≤ 12) (h10 : (nL : Int) = 0) : ¬ (RowsOK L ∧ 0 < L.length) := by
  first | (simp_all [bestF, bestL]; done) | (simp_all; done)
theorem z_c_spec_BestRun_14 (L : List LibRow) (nL : Nat) (hbdL : (nL : Int) ≤ 9223372036854775807) (hleL : nL = L.length) (h5 : RowsOK L) (hq9 : L.length ≤ 12) (h10 : ¬ ((nL : Int) = 0)) : 0 ≤ nL ∧ best L 0 = (0, 0, 0) ∧ 0 ≤ 0 ∧ (0 < 0 ∨ 0 = 0) ∧ (0 < 0 ∨ 0 = 0) := by
  simp [best]
theorem z_c_spec_BestRun_36 (L : List LibRow) (nL : Nat) (hbdL : (nL : Int) ≤ 9223372036854775807) (hleL : nL = L.length) (h5 : RowsOK L) (hq9 : L.length ≤ 12) (h10 : ¬ ((nL : Int) = 0)) (k : Nat) (a : Nat) (b : Nat) (c : Nat) (hi20 : k ≤ nL ∧ best L k = (a, b, c) ∧ a ≤ b ∧ (b < k ∨ b = 0) ∧ (c < k ∨ c = 0)) (h21 : (k : Int) < (nL : Int)) (h22 : 0 < (k : Int)) (x23 : LibRow) (hx24 : L[k]? = some x23) (hq25 : ((1 : Int) ≤ x23.Month ∧ x23.Month ≤ 1200) ∧ ((0 : Int) ≤ x23.Lent ∧ x23.Lent ≤ 9999) ∧ ((0 : Int) ≤ x23.Copied ∧ x23.Copied ≤ 9999) ∧ ((0 : Int) ≤ x23.Given ∧ x23.Given ≤ 999) ∧ ((0 : Int) ≤ x23.Fines ∧ x23.Fines ≤ 99999)) (x26 : LibRow) (hx28 : L[k - 1]? = some x26) (hq29 : ((1 : Int) ≤ x26.Month ∧ x26.Month ≤ 1200) ∧ ((0 : Int) ≤ x26.Lent ∧ x26.Lent ≤ 9999) ∧ ((0 : Int) ≤ x26.Copied ∧ x26.Copied ≤ 9999) ∧ ((0 : Int) ≤ x26.Given ∧ x26.Given ≤ 999) ∧ ((0 : Int) ≤ x26.Fines ∧ x26.Fines ≤ 99999)) (h34 : x23.Lent < x26.Lent) (h35 : ((b : Int) - (a : Int)) < ((k : Int) - (k : Int))) : k + 1 ≤ nL ∧ best L (k + 1) = (k, k, k) ∧ k ≤ k ∧ (k < k + 1 ∨ k = 0) ∧ (k < k + 1 ∨ k = 0) := by
  obtain ⟨h1, h2, h3, h4, h5⟩ := ‹_ ∧ best L _ = _ ∧ _›; refine ⟨by omega, ?_, by omega, by omega, by omega⟩; first | exact best_fall h2 ‹_› ‹_› ‹_› ‹_› (by omega) | exact best_fallN h2 ‹_› ‹_› ‹_› ‹_› (by omega) | exact best_go h2 (by first | exact nofall0 ‹_› | exact nofall1 ‹_› ‹_› ‹_›) (by omega) | exact best_stay h2 (by first | exact nofall0 ‹_› | exact nofall1 ‹_› ‹_› ‹_›) (by omega)
theorem z_c_spec_BestRun_37 (L : List LibRow) (nL : Nat) (hbdL : (nL : Int) ≤ 9223372036854775807) (hleL : nL = L.length) (h5 : RowsOK L) (hq9 : L.length ≤ 12) (h10 : ¬ ((nL : Int) = 0)) (k : Nat) (a : Nat) (b : Nat) (c : Nat) (hi20 : k ≤ nL ∧ best L k = (a, b, c) ∧ a ≤ b ∧ (b < k ∨ b = 0) ∧ (c < k ∨ c = 0)) (h21 : (k : Int) < (nL : Int)) (h22 : 0 < (k : Int)) (x23 : LibRow) (hx24 : L[k]? = some x23) (hq25 : ((1 : Int) ≤ x23.Month ∧ x23.Month ≤ 1200) ∧ ((0 : Int) ≤ x23.Lent ∧ x23.Lent ≤ 9999) ∧ ((0 : Int) ≤ x23.Copied ∧ x23.Copied ≤ 9999) ∧ ((0 : Int) ≤ x23.Given ∧ x23.Given ≤ 999) ∧ ((0 : Int) ≤ x23.Fines ∧ x23.Fines ≤ 99999)) (x26 : LibRow) (hx28 : L[k - 1]? = some x26) (hq29 : ((1 : Int) ≤ x26.Month ∧ x26.Month ≤ 1200) ∧ ((0 : Int) ≤ x26.Lent ∧ x26.Lent ≤ 9999) ∧ ((0 : Int) ≤ x26.Copied ∧ x26.Copied ≤ 9999) ∧ ((0 : Int) ≤ x26.Given ∧ x26.Given ≤ 999) ∧ ((0 : Int) ≤ x26.Fines ∧ x26.Fines ≤ 99999)) (h34 : x23.Lent < x26.Lent) (h35 : ((b : Int) - (a : Int)) < ((k : Int) - (k : Int))) : nL - (k + 1) < nL - k := by
  omega
theorem z_c_spec_BestRun_38 (L : List LibRow) (nL : Nat) (hbdL : (nL : Int) ≤ 9223372036854775807) (hleL : nL = L.length) (h5 : RowsOK L) (hq9 : L.length ≤ 12) (h10 : ¬ ((nL : Int) = 0)) (k : Nat) (a : Nat) (b : Nat) (c : Nat) (hi20 : k ≤ nL ∧ best L k = (a, b, c) ∧ a ≤ b ∧ (b < k ∨ b = 0) ∧ (c < k ∨ c = 0)) (h21 : (k : Int) < (nL : Int)) (h22 : 0 < (k : Int)) (x23 : LibRow) (hx24 : L[k]? = some x23) (hq25 : ((1 : Int) ≤ x23.Month ∧ x23.Month ≤ 1200) ∧ ((0 : Int) ≤ x23.Lent ∧ x23.Lent ≤ 9999) ∧ ((0 : Int) ≤ x23.Copied ∧ x23.Copied ≤ 9999) ∧ ((0 : Int) ≤ x23.Given ∧ x23.Given ≤ 999) ∧ ((0 : Int) ≤ x23.Fines ∧ x23.Fines ≤ 99999)) (x26 : LibRow) (hx28 : L[k - 1]? = some x26) (hq29 : ((1 : Int) ≤ x26.Month ∧ x26.Month ≤ 1200) ∧ ((0 : Int) ≤ x26.Lent ∧ x26.Lent ≤ 9999) ∧ ((0 : Int) ≤ x26.Copied ∧ x26.Copied ≤ 9999) ∧ ((0 : Int) ≤ x26.Given ∧ x26.Given ≤ 999) ∧ ((0 : Int) ≤ x26.Fines ∧ x26.Fines ≤ 99999)) (h34 : x23.Lent < x26.Lent) (h35 : ¬ (((b : Int) - (a : Int)) < ((k : Int) - (k : Int)))) : k + 1 ≤ nL ∧ best L (k + 1) = (a, b, k) ∧ a ≤ b ∧ (b < k + 1 ∨ b = 0) ∧ (k < k + 1 ∨ k = 0) := by
  obtain ⟨h1, h2, h3, h4, h5⟩ := ‹_ ∧ best L _ = _ ∧ _›; refine ⟨by omega, ?_, by omega, by omega, by omega⟩; first | exact best_fall h2 ‹_› ‹_› ‹_› ‹_› (by omega) | exact best_fallN h2 ‹_› ‹_› ‹_› ‹_› (by omega) | exact best_go h2 (by first | exact nofall0 ‹_› | exact nofall1 ‹_› ‹_› ‹_›) (by omega) | exact best_stay h2 (by first | exact nofall0 ‹_› | exact nofall1 ‹_› ‹_› ‹_›) (by omega)
theorem z_c_spec_BestRun_39 (L : List LibRow) (nL : Nat) (hbdL : (nL : Int) ≤ 9223372036854775807) (hleL : nL = L.length) (h5 : RowsOK L) (hq9 : L.length ≤ 12) (h10 : ¬ ((nL : Int) = 0)) (k : Nat) (a : Nat) (b : Nat) (c : Nat) (hi20 : k ≤ nL ∧ best L k = (a, b, c) ∧ a ≤ b ∧ (b < k ∨ b = 0) ∧ (c < k ∨ c = 0)) (h21 : (k : Int) < (nL : Int)) (h22 : 0 < (k : Int)) (x23 : LibRow) (hx24 : L[k]? = some x23) (hq25 : ((1 : Int) ≤ x23.Month ∧ x23.Month ≤ 1200) ∧ ((0 : Int) ≤ x23.Lent ∧ x23.Lent ≤ 9999) ∧ ((0 : Int) ≤ x23.Copied ∧ x23.Copied ≤ 9999) ∧ ((0 : Int) ≤ x23.Given ∧ x23.Given ≤ 999) ∧ ((0 : Int) ≤ x23.Fines ∧ x23.Fines ≤ 99999)) (x26 : LibRow) (hx28 : L[k - 1]? = some x26) (hq29 : ((1 : Int) ≤ x26.Month ∧ x26.Month ≤ 1200) ∧ ((0 : Int) ≤ x26.Lent ∧ x26.Lent ≤ 9999) ∧ ((0 : Int) ≤ x26.Copied ∧ x26.Copied ≤ 9999) ∧ ((0 : Int) ≤ x26.Given ∧ x26.Given ≤ 999) ∧ ((0 : Int) ≤ x26.Fines ∧ x26.Fines ≤ 99999)) (h34 : x23.Lent < x26.Lent) (h35 : ¬ (((b : Int) - (a : Int)) < ((k : Int) - (k : Int)))) : nL - (k + 1) < nL - k := by
  omega
theorem z_c_spec_BestRun_41 (L : List LibRow) (nL : Nat) (hbdL : (nL : Int) ≤ 9223372036854775807) (hleL : nL = L.length) (h5 : RowsOK L) (hq9 : L.length ≤ 12) (h10 : ¬ ((nL : Int) = 0)) (k : Nat) (a : Nat) (b : Nat) (c : Nat) (hi20 : k ≤ nL ∧ best L k = (a, b, c) ∧ a ≤ b ∧ (b < k ∨ b = 0) ∧ (c < k ∨ c = 0)) (h21 : (k : Int) < (nL : Int)) (h22 : 0 < (k : Int)) (x23 : LibRow) (hx24 : L[k]? = some x23) (hq25 : ((1 : Int) ≤ x23.Month ∧ x23.Month ≤ 1200) ∧ ((0 : Int) ≤ x23.Lent ∧ x23.Lent ≤ 9999) ∧ ((0 : Int) ≤ x23.Copied ∧ x23.Copied ≤ 9999) ∧ ((0 : Int) ≤ x23.Given ∧ x23.Given ≤ 999) ∧ ((0 : Int) ≤ x23.Fines ∧ x23.Fines ≤ 99999)) (x26 : LibRow) (hx28 : L[k - 1]? = some x26) (hq29 : ((1 : Int) ≤ x26.Month ∧ x26.Month ≤ 1200) ∧ ((0 : Int) ≤ x26.Lent ∧ x26.Lent ≤ 9999) ∧ ((0 : Int) ≤ x26.Copied ∧ x26.Copied ≤ 9999) ∧ ((0 : Int) ≤ x26.Given ∧ x26.Given ≤ 999) ∧ ((0 : Int) ≤ x26.Fines ∧ x26.Fines ≤ 99999)) (h34 : ¬ (x23.Lent < x26.Lent)) (h40 : ((b : Int) - (a : Int)) < ((k : Int) - (c : Int))) : k + 1 ≤ nL ∧ best L (k + 1) = (c, k, c) ∧ c ≤ k ∧ (k < k + 1 ∨ k = 0) ∧ (c < k + 1 ∨ c = 0) := by
  obtain ⟨h1, h2, h3, h4, h5⟩ := ‹_ ∧ best L _ = _ ∧ _›; refine ⟨by omega, ?_, by omega, by omega, by omega⟩; first | exact best_fall h2 ‹_› ‹_› ‹_› ‹_› (by omega) | exact best_fallN h2 ‹_› ‹_› ‹_› ‹_› (by omega) | exact best_go h2 (by first | exact nofall0 ‹_› | exact nofall1 ‹_› ‹_› ‹_›) (by omega) | exact best_stay h2 (by first | exact nofall0 ‹_› | exact nofall1 ‹_› ‹_› ‹_›) (by omega)
theorem z_c_spec_BestRun_42 (L : List LibRow) (nL : Nat) (hbdL : (nL : Int) ≤ 9223372036854775807) (hleL : nL = L.length) (h5 : RowsOK L) (hq9 : L.length ≤ 12) (h10 : ¬ ((nL : Int) = 0)) (k : Nat) (a : Nat) (b : Nat) (c : Nat) (hi20 : k ≤ nL ∧ best L k = (a, b, c) ∧ a ≤ b ∧ (b < k ∨ b = 0) ∧ (c < k ∨ c = 0)) (h21 : (k : Int) < (nL : Int)) (h22 : 0 < (k : Int)) (x23 : LibRow) (hx24 : L[k]? = some x23) (hq25 : ((1 : Int) ≤ x23.Month ∧ x23.Month ≤ 1200) ∧ ((0 : Int) ≤ x23.Lent ∧ x23.Lent ≤ 9999) ∧ ((0 : Int) ≤ x23.Copied ∧ x23.Copied ≤ 9999) ∧ ((0 : Int) ≤ x23.Given ∧ x23.Given ≤ 999) ∧ ((0 : Int) ≤ x23.Fines ∧ x23.Fines ≤ 99999)) (x26 : LibRow) (hx28 : L[k - 1]? = some x26) (hq29 : ((1 : Int) ≤ x26.Month ∧ x26.Month ≤ 1200) ∧ ((0 : Int) ≤ x26.Lent ∧ x26.Lent ≤ 9999) ∧ ((0 : Int) ≤ x26.Copied ∧ x26.Copied ≤ 9999) ∧ ((0 : Int) ≤ x26.Given ∧ x26.Given ≤ 999) ∧ ((0 : Int) ≤ x26.Fines ∧ x26.Fines ≤ 99999)) (h34 : ¬ (x23.Lent < x26.Lent)) (h40 : ((b : Int) - (a : Int)) < ((k : Int) - (c : Int))) : nL - (k + 1) < nL - k := by
  omega
theorem z_c_spec_BestRun_43 (L : List LibRow) (nL : Nat) (hbdL : (nL : Int) ≤ 9223372036854775807) (hleL : nL = L.length) (h5 : RowsOK L) (hq9 : L.length ≤ 12) (h10 : ¬ ((nL : Int) = 0)) (k : Nat) (a : Nat) (b : Nat) (c : Nat) (hi20 : k ≤ nL ∧ best L k = (a, b, c) ∧ a ≤ b ∧ (b < k ∨ b = 0) ∧ (c < k ∨ c = 0)) (h21 : (k : Int) < (nL : Int)) (h22 : 0 < (k : Int)) (x23 : LibRow) (hx24 : L[k]? = some x23) (hq25 : ((1 : Int) ≤ x23.Month ∧ x23.Month ≤ 1200) ∧ ((0 : Int) ≤ x23.Lent ∧ x23.Lent ≤ 9999) ∧ ((0 : Int) ≤ x23.Copied ∧ x23.Copied ≤ 9999) ∧ ((0 : Int) ≤ x23.Given ∧ x23.Given ≤ 999) ∧ ((0 : Int) ≤ x23.Fines ∧ x23.Fines ≤ 99999)) (x26 : LibRow) (hx28 : L[k - 1]? = some x26) (hq29 : ((1 : Int) ≤ x26.Month ∧ x26.Month ≤ 1200) ∧ ((0 : Int) ≤ x26.Lent ∧ x26.Lent ≤ 9999) ∧ ((0 : Int) ≤ x26.Copied ∧ x26.Copied ≤ 9999) ∧ ((0 : Int) ≤ x26.Given ∧ x26.Given ≤ 999) ∧ ((0 : Int) ≤ x26.Fines ∧ x26.Fines ≤ 99999)) (h34 : ¬ (x23.Lent < x26.Lent)) (h40 : ¬ (((b : Int) - (a : Int)) < ((k : Int) - (c : Int)))) : k + 1 ≤ nL ∧ best L (k + 1) = (a, b, c) ∧ a ≤ b ∧ (b < k + 1 ∨ b = 0) ∧ (c < k + 1 ∨ c = 0) := by
  obtain ⟨h1, h2, h3, h4, h5⟩ := ‹_ ∧ best L _ = _ ∧ _›; refine ⟨by omega, ?_, by omega, by omega, by omega⟩; first | exact best_fall h2 ‹_› ‹_› ‹_› ‹_› (by omega) | exact best_fallN h2 ‹_› ‹_› ‹_› ‹_› (by omega) | exact best_go h2 (by first | exact nofall0 ‹_› | exact nofall1 ‹_› ‹_› ‹_›) (by omega) | exact best_stay h2 (by first | exact nofall0 ‹_› | exact nofall1 ‹_› ‹_› ‹_›) (by omega)
theorem z_c_spec_BestRun_44 (L : List LibRow) (nL : Nat) (hbdL : (nL : Int) ≤ 9223372036854775807) (hleL : nL = L.length) (h5 : RowsOK L) (hq9 : L.length ≤ 12) (h10 : ¬ ((nL : Int) = 0)) (k : Nat) (a : Nat) (b : Nat) (c : Nat) (hi20 : k ≤ nL ∧ best L k = (a, b, c) ∧ a ≤ b ∧ (b < k ∨ b = 0) ∧ (c < k ∨ c = 0)) (h21 : (k : Int) < (nL : Int)) (h22 : 0 < (k : Int)) (x23 : LibRow) (hx24 : L[k]? = some x23) (hq25 : ((1 : Int) ≤ x23.Month ∧ x23.Month ≤ 1200) ∧ ((0 : Int) ≤ x23.Lent ∧ x23.Lent ≤ 9999) ∧ ((0 : Int) ≤ x23.Copied ∧ x23.Copied ≤ 9999) ∧ ((0 : Int) ≤ x23.Given ∧ x23.Given ≤ 999) ∧ ((0 : Int) ≤ x23.Fines ∧ x23.Fines ≤ 99999)) (x26 : LibRow) (hx28 : L[k - 1]? = some x26) (hq29 : ((1 : Int) ≤ x26.Month ∧ x26.Month ≤ 1200) ∧ ((0 : Int) ≤ x26.Lent ∧ x26.Lent ≤ 9999) ∧ ((0 : Int) ≤ x26.Copied ∧ x26.Copied ≤ 9999) ∧ ((0 : Int) ≤ x26.Given ∧ x26.Given ≤ 999) ∧ ((0 : Int) ≤ x26.Fines ∧ x26.Fines ≤ 99999)) (h34 : ¬ (x23.Lent < x26.Lent)) (h40 : ¬ (((b : Int) - (a : Int)) < ((k : Int) - (c : Int)))) : nL - (k + 1) < nL - k := by
  omega
theorem z_c_spec_BestRun_50 (L : List LibRow) (nL : Nat) (hbdL : (nL : Int) ≤ 9223372036854775807) (hleL : nL = L.length) (h5 : RowsOK L) (hq9 : L.length ≤ 12) (h10 : ¬ ((nL : Int) = 0)) (k : Nat) (a : Nat) (b : Nat) (c : Nat) (hi20 : k ≤ nL ∧ best L k = (a, b, c) ∧ a ≤ b ∧ (b < k ∨ b = 0) ∧ (c < k ∨ c = 0)) (h21 : (k : Int) < (nL : Int)) (h22 : ¬ (0 < (k : Int))) (h49 : ((b : Int) - (a : Int)) < ((k : Int) - (c : Int))) : k + 1 ≤ nL ∧ best L (k + 1) = (c, k, c) ∧ c ≤ k ∧ (k < k + 1 ∨ k = 0) ∧ (c < k + 1 ∨ c = 0) := by
  obtain ⟨h1, h2, h3, h4, h5⟩ := ‹_ ∧ best L _ = _ ∧ _›; refine ⟨by omega, ?_, by omega, by omega, by omega⟩; first | exact best_fall h2 ‹_› ‹_› ‹_› ‹_› (by omega) | exact best_fallN h2 ‹_› ‹_› ‹_› ‹_› (by omega) | exact best_go h2 (by first | exact nofall0 ‹_› | exact nofall1 ‹_› ‹_› ‹_›) (by omega) | exact best_stay h2 (by first | exact nofall0 ‹_› | exact nofall1 ‹_› ‹_› ‹_›) (by omega)
theorem z_c_spec_BestRun_51 (L : List LibRow) (nL : Nat) (hbdL : (nL : Int) ≤ 9223372036854775807) (hleL : nL = L.length) (h5 : RowsOK L) (hq9 : L.length ≤ 12) (h10 : ¬ ((nL : Int) = 0)) (k : Nat) (a : Nat) (b : Nat) (c : Nat) (hi20 : k ≤ nL ∧ best L k = (a, b, c) ∧ a ≤ b ∧ (b < k ∨ b = 0) ∧ (c < k ∨ c = 0)) (h21 : (k : Int) < (nL : Int)) (h22 : ¬ (0 < (k : Int))) (h49 : ((b : Int) - (a : Int)) < ((k : Int) - (c : Int))) : nL - (k + 1) < nL - k := by
  omega
theorem z_c_spec_BestRun_52 (L : List LibRow) (nL : Nat) (hbdL : (nL : Int) ≤ 9223372036854775807) (hleL : nL = L.length) (h5 : RowsOK L) (hq9 : L.length ≤ 12) (h10 : ¬ ((nL : Int) = 0)) (k : Nat) (a : Nat) (b : Nat) (c : Nat) (hi20 : k ≤ nL ∧ best L k = (a, b, c) ∧ a ≤ b ∧ (b < k ∨ b = 0) ∧ (c < k ∨ c = 0)) (h21 : (k : Int) < (nL : Int)) (h22 : ¬ (0 < (k : Int))) (h49 : ¬ (((b : Int) - (a : Int)) < ((k : Int) - (c : Int)))) : k + 1 ≤ nL ∧ best L (k + 1) = (a, b, c) ∧ a ≤ b ∧ (b < k + 1 ∨ b = 0) ∧ (c < k + 1 ∨ c = 0) := by
  obtain ⟨h1, h2, h3, h4, h5⟩ := ‹_ ∧ best L _ = _ ∧ _›; refine ⟨by omega, ?_, by omega, by omega, by omega⟩; first | exact best_fall h2 ‹_› ‹_› ‹_› ‹_› (by omega) | exact best_fallN h2 ‹_› ‹_› ‹_› ‹_› (by omega) | exact best_go h2 (by first | exact nofall0 ‹_› | exact nofall1 ‹_› ‹_› ‹_›) (by omega) | exact best_stay h2 (by first | exact nofall0 ‹_› | exact nofall1 ‹_› ‹_› ‹_›) (by omega)
theorem z_c_spec_BestRun_53 (L : List LibRow) (nL : Nat) (hbdL : (nL : Int) ≤ 9223372036854775807) (hleL : nL = L.length) (h5 : RowsOK L) (hq9 : L.length ≤ 12) (h10 : ¬ ((nL : Int) = 0)) (k : Nat) (a : Nat) (b : Nat) (c : Nat) (hi20 : k ≤ nL ∧ best L k = (a, b, c) ∧ a ≤ b ∧ (b < k ∨ b = 0) ∧ (c < k ∨ c = 0)) (h21 : (k : Int) < (nL : Int)) (h22 : ¬ (0 < (k : Int))) (h49 : ¬ (((b : Int) - (a : Int)) < ((k : Int) - (c : Int)))) : nL - (k + 1) < nL - k := by
  omega
theorem z_c_spec_BestRun_64 (L : List LibRow) (nL : Nat) (hbdL : (nL : Int) ≤ 9223372036854775807) (hleL : nL = L.length) (h5 : RowsOK L) (hq9 : L.length ≤ 12) (h10 : ¬ ((nL : Int) = 0)) (k : Nat) (a : Nat) (b : Nat) (c : Nat) (hi20 : k ≤ nL ∧ best L k = (a, b, c) ∧ a ≤ b ∧ (b < k ∨ b = 0) ∧ (c < k ∨ c = 0)) (h21 : ¬ ((k : Int) < (nL : Int))) (x54 : LibRow) (hx55 : L[a]? = some x54) (hq56 : ((1 : Int) ≤ x54.Month ∧ x54.Month ≤ 1200) ∧ ((0 : Int) ≤ x54.Lent ∧ x54.Lent ≤ 9999) ∧ ((0 : Int) ≤ x54.Copied ∧ x54.Copied ≤ 9999) ∧ ((0 : Int) ≤ x54.Given ∧ x54.Given ≤ 999) ∧ ((0 : Int) ≤ x54.Fines ∧ x54.Fines ≤ 99999)) (x57 : LibRow) (hx58 : L[b]? = some x57) (hq59 : ((1 : Int) ≤ x57.Month ∧ x57.Month ≤ 1200) ∧ ((0 : Int) ≤ x57.Lent ∧ x57.Lent ≤ 9999) ∧ ((0 : Int) ≤ x57.Copied ∧ x57.Copied ≤ 9999) ∧ ((0 : Int) ≤ x57.Given ∧ x57.Given ≤ 999) ∧ ((0 : Int) ≤ x57.Fines ∧ x57.Fines ≤ 99999)) : x54.Month = bestF L := by
  subst hleL; obtain ⟨h1, h2, h3, h4, h5⟩ := ‹_ ∧ best L _ = _ ∧ _›; exact best_resF ‹RowsOK L› h2 ‹_› h1 ‹_› trivial
theorem z_c_spec_BestRun_65 (L : List LibRow) (nL : Nat) (hbdL : (nL : Int) ≤ 9223372036854775807) (hleL : nL = L.length) (h5 : RowsOK L) (hq9 : L.length ≤ 12) (h10 : ¬ ((nL : Int) = 0)) (k : Nat) (a : Nat) (b : Nat) (c : Nat) (hi20 : k ≤ nL ∧ best L k = (a, b, c) ∧ a ≤ b ∧ (b < k ∨ b = 0) ∧ (c < k ∨ c = 0)) (h21 : ¬ ((k : Int) < (nL : Int))) (x54 : LibRow) (hx55 : L[a]? = some x54) (hq56 : ((1 : Int) ≤ x54.Month ∧ x54.Month ≤ 1200) ∧ ((0 : Int) ≤ x54.Lent ∧ x54.Lent ≤ 9999) ∧ ((0 : Int) ≤ x54.Copied ∧ x54.Copied ≤ 9999) ∧ ((0 : Int) ≤ x54.Given ∧ x54.Given ≤ 999) ∧ ((0 : Int) ≤ x54.Fines ∧ x54.Fines ≤ 99999)) (x57 : LibRow) (hx58 : L[b]? = some x57) (hq59 : ((1 : Int) ≤ x57.Month ∧ x57.Month ≤ 1200) ∧ ((0 : Int) ≤ x57.Lent ∧ x57.Lent ≤ 9999) ∧ ((0 : Int) ≤ x57.Copied ∧ x57.Copied ≤ 9999) ∧ ((0 : Int) ≤ x57.Given ∧ x57.Given ≤ 999) ∧ ((0 : Int) ≤ x57.Fines ∧ x57.Fines ≤ 99999)) : x57.Month = bestL L := by
  subst hleL; obtain ⟨h1, h2, h3, h4, h5⟩ := ‹_ ∧ best L _ = _ ∧ _›; exact best_resL ‹RowsOK L› h2 ‹_› h1 ‹_› trivial
theorem z_c_spec_BestRun_66 (L : List LibRow) (nL : Nat) (hbdL : (nL : Int) ≤ 9223372036854775807) (hleL : nL = L.length) (h5 : RowsOK L) (hq9 : L.length ≤ 12) (h10 : ¬ ((nL : Int) = 0)) (k : Nat) (a : Nat) (b : Nat) (c : Nat) (hi20 : k ≤ nL ∧ best L k = (a, b, c) ∧ a ≤ b ∧ (b < k ∨ b = 0) ∧ (c < k ∨ c = 0)) (h21 : ¬ ((k : Int) < (nL : Int))) (x54 : LibRow) (hx55 : L[a]? = some x54) (hq56 : ((1 : Int) ≤ x54.Month ∧ x54.Month ≤ 1200) ∧ ((0 : Int) ≤ x54.Lent ∧ x54.Lent ≤ 9999) ∧ ((0 : Int) ≤ x54.Copied ∧ x54.Copied ≤ 9999) ∧ ((0 : Int) ≤ x54.Given ∧ x54.Given ≤ 999) ∧ ((0 : Int) ≤ x54.Fines ∧ x54.Fines ≤ 99999)) (x57 : LibRow) (hx58 : L[b]? = some x57) (hq59 : ((1 : Int) ≤ x57.Month ∧ x57.Month ≤ 1200) ∧ ((0 : Int) ≤ x57.Lent ∧ x57.Lent ≤ 9999) ∧ ((0 : Int) ≤ x57.Copied ∧ x57.Copied ≤ 9999) ∧ ((0 : Int) ≤ x57.Given ∧ x57.Given ≤ 999) ∧ ((0 : Int) ≤ x57.Fines ∧ x57.Fines ≤ 99999)) : RowsOK L ∧ 0 < L.length := by
  exact ⟨by assumption, by omega⟩
theorem c_spec_BestRun (w : World) {AL : Option Addr} {nL cL BL : Nat}  (L : List LibRow) (hL : SlR w BL encLibRow 5 AL nL cL L) : Calls Try.prog 13 #[.slice AL nL cL] w fun e w' => e = .returned (.tuple (List.toArray [.int .i64 (bestF L), .int .i64 (bestL L), .bool (decide (RowsOK L ∧ 0 < L.length))])) ∧ Lo w w' := by
  refine calls_W 59 Try.func13 rfl rfl rfl ?_
  have hbdL := hL.bound
  have hleL := hL.len
  have hBbL := hL.bd
  refine W.seq ?_
  refine W.regS (SR.q' (r_as (v := .int .i64 0) rfl) <| SR.q' (r_as (v := .int .i64 0) rfl) <| SR.q' (r_as (v := .bool false) rfl) <| SR.nil ?_)
  refine W.seq ?_
  refine W.seq ?_
  refine W.regS (SR.q' (r_mv (v := .slice _ _ _) rfl) <| SR.call ent22 (c_spec_l31Good w L ((hL))) rfl ?_)
  rintro e w1 ⟨rfl, hk2⟩
  refine ⟨_, rfl, ?_⟩
  have hz3 := hk2.size
  have hB4 := (Lo.refl w).lo hk2
  refine SR.q' (r_not rfl) <| SR.q' (r_mv (v := .bool _) rfl) <| SR.splitN (fun h5 => ?_) (fun h5 => ?_)
  · refine SR.s' rfl <| SR.s' rfl <| SR.s' rfl <| SR.q' (r_pick true rfl (v := .bool true) rfl) <| SR.nil ?_
    refine W.cond_t rfl ?_
    refine W.seq ?_
    refine W.regS (SR.q' (r_as (v := .int .i64 0) rfl) <| SR.q' (r_as (v := .int .i64 0) rfl) <| SR.q' (r_as (v := .bool false) rfl) <| SR.nil ?_)
    refine W.ret ?_
    refine ret3 rfl (v := .int .i64 _) (v' := .int .i64 _) (v'' := .bool _) rfl rfl rfl ?_
    exact ⟨eR (eT3 (eI (z_c_spec_BestRun_6 L nL hbdL hleL h5)) (eI (z_c_spec_BestRun_7 L nL hbdL hleL h5)) (eDF (z_c_spec_BestRun_8 L nL hbdL hleL h5))), hB4⟩
  · have hq9 := rows_len h5
    refine SR.g' rfl (r_mv (v := .slice _ _ _) rfl) <| SR.g' rfl (r_len und24 rfl) <| SR.g' rfl (r_eq rfl rfl) <| SR.q' (r_pick false rfl (v := .bool _) rfl) <| SR.nil ?_
    refine W.cond_d rfl (fun h10 => ?_) (fun h10 => ?_)
    · refine W.seq ?_
      refine W.regS (SR.q' (r_as (v := .int .i64 0) rfl) <| SR.q' (r_as (v := .int .i64 0) rfl) <| SR.q' (r_as (v := .bool false) rfl) <| SR.nil ?_)
      refine W.ret ?_
      refine ret3 rfl (v := .int .i64 _) (v' := .int .i64 _) (v'' := .bool _) rfl rfl rfl ?_
      exact ⟨eR (eT3 (eI (z_c_spec_BestRun_11 L nL hbdL hleL h5 hq9 h10)) (eI (z_c_spec_BestRun_12 L nL hbdL hleL h5 hq9 h10)) (eDF (z_c_spec_BestRun_13 L nL hbdL hleL h5 hq9 h10))), hB4⟩
    · refine W.skip ?_
      refine W.seq ?_
      refine W.regS (SR.q' (r_as (v := .int .i64 0) rfl) <| SR.q' (r_as (v := .int .i64 0) rfl) <| SR.q' (r_as (v := .int .i64 0) rfl) <| SR.nil ?_)
      refine W.seq ?_
      refine W.seq ?_
      refine W.regS (SR.q' (r_as (v := .int .i64 0) rfl) <| SR.nil ?_)
      refine W.block ?_
      refine W.loop (σ := Nat × Nat × Nat × Nat) (fun g => [(0, .slice AL nL cL), (2, .int .i64 0), (3, .int .i64 0), (4, .bool false), (5, .int .i64 (g.2.2.2 : Int)), (6, .int .i64 (g.2.1 : Int)), (7, .int .i64 (g.2.2.1 : Int)), (8, .int .i64 (g.1 : Int))]) (fun g w' => (Lo w w') ∧ (SlR w' BL encLibRow 5 AL nL cL L) ∧ (g.1 ≤ nL ∧ best L g.1 = (g.2.1, g.2.2.1, g.2.2.2) ∧ g.2.1 ≤ g.2.2.1 ∧ (g.2.2.1 < g.1 ∨ g.2.2.1 = 0) ∧ (g.2.2.2 < g.1 ∨ g.2.2.2 = 0))) (fun g => nL - g.1) (0, 0, 0, 0) ?_ ?_ ?_
      · exact ⟨rfl, rfl, rfl, rfl, rfl, rfl, rfl, rfl, trivial⟩
      · exact ⟨hB4, (hL).lo hk2, (z_c_spec_BestRun_14 L nL hbdL hleL h5 hq9 h10)⟩
      · rintro ⟨k, a, b, c⟩ f15 w16 hP18
        obtain ⟨hB17, hm19, hi20⟩ : (Lo w w16) ∧ (SlR w16 BL encLibRow 5 AL nL cL L) ∧ (k ≤ nL ∧ best L k = (a, b, c) ∧ a ≤ b ∧ (b < k ∨ b = 0) ∧ (c < k ∨ c = 0)) := hP18
        refine (?_ : W _ _ _ _ _ (act _ (sets f15 [(0, .slice AL nL cL), (2, .int .i64 0), (3, .int .i64 0), (4, .bool false), (5, .int .i64 (c : Int)), (6, .int .i64 (a : Int)), (7, .int .i64 (b : Int)), (8, .int .i64 (k : Int))])) _)
        have hzw16 := hB17.size
        refine W.seq ?_
        refine W.seq ?_
        refine W.regS (SR.q' (r_mv (v := .int .i64 _) rfl) <| SR.q' (r_mv (v := .slice _ _ _) rfl) <| SR.q' (r_len und24 rfl) <| SR.q' (r_lt rfl rfl) <| SR.nil ?_)
        refine W.cond_d rfl (fun h21 => ?_) (fun h21 => ?_)
        · refine W.skip ?_
          refine W.seq ?_
          refine W.block ?_
          refine W.seq ?_
          refine W.seq ?_
          refine W.regD mo (by kernel_rfl) (QR.q' (fun w' hw' => r_mv (v := .int .i64 _) rfl) <| QR.q' (fun w' hw' => r_gt rfl rfl) <| QR.q' (fun w' hw' => r_mv (v := .bool _) rfl) <| QR.splitD (fun h22 => ?_) (fun h22 => ?_))
          · refine QR.g' rfl (fun w' hw' => r_mv (v := .slice _ _ _) rfl) <| QR.g' rfl (fun w' hw' => r_mv (v := .int .i64 _) rfl) <| ?_
            obtain ⟨x23, hx24⟩ := (hm19).get (i := k) (by omega)
            have hq25 := rows_rng h5 hx24
            refine QR.g' rfl (fun w' hw' => r_ixR tsl24 (((hm19).lo hw')) rfl rfl (by omega)) <| QR.g' rfl (fun w' hw' => r_fa fa29_1 rfl) <| QR.g' rfl (fun w' hw' => r_ld (v := .int .i64 x23.Lent) sca3 rfl ((((hm19).lo hw')).cell hx24 rfl)) <| QR.g' rfl (fun w' hw' => r_mv (v := .slice _ _ _) rfl) <| QR.g' rfl (fun w' hw' => r_mv (v := .int .i64 _) rfl) <| QR.g' rfl (fun w' hw' => r_sub rfl rfl (by omega)) <| ?_
            obtain ⟨x26, hx27⟩ := (hm19).get (i := ((k : Int) - 1).toNat) (by omega)
            have hx28 : L[k - 1]? = some x26 := (show ((k : Int) - 1).toNat = k - 1 from by omega) ▸ hx27
            have hq29 := rows_rng h5 hx28
            refine QR.g' rfl (fun w' hw' => r_ixR tsl24 (((hm19).lo hw')) rfl rfl (by omega)) <| QR.g' rfl (fun w' hw' => r_fa fa29_1 rfl) <| QR.g' rfl (fun w' hw' => r_ld (v := .int .i64 x26.Lent) sca3 rfl ((((hm19).lo hw')).cell hx27 rfl)) <| QR.g' rfl (fun w' hw' => r_lt rfl rfl) <| QR.q' (fun w' hw' => r_pick true rfl (v := .bool _) rfl) <| QR.nil ?_
            intro w30 hk31
            have hz32 := hk31.size
            have hB33 := hB17.lo hk31
            refine W.cond_d rfl (fun h34 => ?_) (fun h34 => ?_)
            · refine W.regS (SR.q' (r_mv (v := .int .i64 _) rfl) <| SR.q' (r_as (v := .int .i64 _) rfl) <| SR.nil ?_)
              refine W.seq ?_
              refine W.regS (SR.q' (r_mv (v := .int .i64 _) rfl) <| SR.q' (r_mv (v := .int .i64 _) rfl) <| SR.q' (r_sub rfl rfl (by omega)) <| SR.q' (r_mv (v := .int .i64 _) rfl) <| SR.q' (r_mv (v := .int .i64 _) rfl) <| SR.q' (r_sub rfl rfl (by omega)) <| SR.q' (r_gt rfl rfl) <| SR.nil ?_)
              refine W.cond_d rfl (fun h35 => ?_) (fun h35 => ?_)
              · refine W.seq ?_
                refine W.regS (SR.q' (r_mv (v := .int .i64 _) rfl) <| SR.q' (r_as (v := .int .i64 _) rfl) <| SR.nil ?_)
                refine W.regS (SR.q' (r_mv (v := .int .i64 _) rfl) <| SR.q' (r_as (v := .int .i64 _) rfl) <| SR.nil ?_)
                refine W.regS (SR.q' (r_mv (v := .int .i64 _) rfl) <| SR.q' (r_add rfl rfl (by omega)) <| SR.q' (r_as (v := .int .i64 _) rfl) <| SR.nil ?_)
                refine ⟨(k + 1, k, k, k), _, rfl, ⟨rfl, rfl, rfl, rfl, rfl, rfl, rfl, rfl, trivial⟩, ⟨hB33, (hm19).lo hk31, ?_⟩, ?_⟩
                · exact (z_c_spec_BestRun_36 L nL hbdL hleL h5 hq9 h10 k a b c hi20 h21 h22 x23 hx24 hq25 x26 hx28 hq29 h34 h35)
                · exact (z_c_spec_BestRun_37 L nL hbdL hleL h5 hq9 h10 k a b c hi20 h21 h22 x23 hx24 hq25 x26 hx28 hq29 h34 h35)
              · refine W.skip ?_
                refine W.regS (SR.q' (r_mv (v := .int .i64 _) rfl) <| SR.q' (r_add rfl rfl (by omega)) <| SR.q' (r_as (v := .int .i64 _) rfl) <| SR.nil ?_)
                refine ⟨(k + 1, a, b, k), _, rfl, ⟨rfl, rfl, rfl, rfl, rfl, rfl, rfl, rfl, trivial⟩, ⟨hB33, (hm19).lo hk31, ?_⟩, ?_⟩
                · exact (z_c_spec_BestRun_38 L nL hbdL hleL h5 hq9 h10 k a b c hi20 h21 h22 x23 hx24 hq25 x26 hx28 hq29 h34 h35)
                · exact (z_c_spec_BestRun_39 L nL hbdL hleL h5 hq9 h10 k a b c hi20 h21 h22 x23 hx24 hq25 x26 hx28 hq29 h34 h35)
            · refine W.skip ?_
              refine W.seq ?_
              refine W.regS (SR.q' (r_mv (v := .int .i64 _) rfl) <| SR.q' (r_mv (v := .int .i64 _) rfl) <| SR.q' (r_sub rfl rfl (by omega)) <| SR.q' (r_mv (v := .int .i64 _) rfl) <| SR.q' (r_mv (v := .int .i64 _) rfl) <| SR.q' (r_sub rfl rfl (by omega)) <| SR.q' (r_gt rfl rfl) <| SR.nil ?_)
              refine W.cond_d rfl (fun h40 => ?_) (fun h40 => ?_)
              · refine W.seq ?_
                refine W.regS (SR.q' (r_mv (v := .int .i64 _) rfl) <| SR.q' (r_as (v := .int .i64 _) rfl) <| SR.nil ?_)
                refine W.regS (SR.q' (r_mv (v := .int .i64 _) rfl) <| SR.q' (r_as (v := .int .i64 _) rfl) <| SR.nil ?_)
                refine W.regS (SR.q' (r_mv (v := .int .i64 _) rfl) <| SR.q' (r_add rfl rfl (by omega)) <| SR.q' (r_as (v := .int .i64 _) rfl) <| SR.nil ?_)
                refine ⟨(k + 1, c, k, c), _, rfl, ⟨rfl, rfl, rfl, rfl, rfl, rfl, rfl, rfl, trivial⟩, ⟨hB33, (hm19).lo hk31, ?_⟩, ?_⟩
                · exact (z_c_spec_BestRun_41 L nL hbdL hleL h5 hq9 h10 k a b c hi20 h21 h22 x23 hx24 hq25 x26 hx28 hq29 h34 h40)
                · exact (z_c_spec_BestRun_42 L nL hbdL hleL h5 hq9 h10 k a b c hi20 h21 h22 x23 hx24 hq25 x26 hx28 hq29 h34 h40)
              · refine W.skip ?_
                refine W.regS (SR.q' (r_mv (v := .int .i64 _) rfl) <| SR.q' (r_add rfl rfl (by omega)) <| SR.q' (r_as (v := .int .i64 _) rfl) <| SR.nil ?_)
                refine ⟨(k + 1, a, b, c), _, rfl, ⟨rfl, rfl, rfl, rfl, rfl, rfl, rfl, rfl, trivial⟩, ⟨hB33, (hm19).lo hk31, ?_⟩, ?_⟩
                · exact (z_c_spec_BestRun_43 L nL hbdL hleL h5 hq9 h10 k a b c hi20 h21 h22 x23 hx24 hq25 x26 hx28 hq29 h34 h40)
                · exact (z_c_spec_BestRun_44 L nL hbdL hleL h5 hq9 h10 k a b c hi20 h21 h22 x23 hx24 hq25 x26 hx28 hq29 h34 h40)
          · refine QR.s' rfl <| QR.s' rfl <| QR.s' rfl <| QR.s' rfl <| QR.s' rfl <| QR.s' rfl <| QR.s' rfl <| QR.s' rfl <| QR.s' rfl <| QR.s' rfl <| QR.s' rfl <| QR.s' rfl <| QR.q' (fun w' hw' => r_pick false rfl (v := .bool false) rfl) <| QR.nil ?_
            intro w45 hk46
            have hz47 := hk46.size
            have hB48 := hB17.lo hk46
            refine W.cond_f rfl ?_
            refine W.skip ?_
            refine W.seq ?_
            refine W.regS (SR.q' (r_mv (v := .int .i64 _) rfl) <| SR.q' (r_mv (v := .int .i64 _) rfl) <| SR.q' (r_sub rfl rfl (by omega)) <| SR.q' (r_mv (v := .int .i64 _) rfl) <| SR.q' (r_mv (v := .int .i64 _) rfl) <| SR.q' (r_sub rfl rfl (by omega)) <| SR.q' (r_gt rfl rfl) <| SR.nil ?_)
            refine W.cond_d rfl (fun h49 => ?_) (fun h49 => ?_)
            · refine W.seq ?_
              refine W.regS (SR.q' (r_mv (v := .int .i64 _) rfl) <| SR.q' (r_as (v := .int .i64 _) rfl) <| SR.nil ?_)
              refine W.regS (SR.q' (r_mv (v := .int .i64 _) rfl) <| SR.q' (r_as (v := .int .i64 _) rfl) <| SR.nil ?_)
              refine W.regS (SR.q' (r_mv (v := .int .i64 _) rfl) <| SR.q' (r_add rfl rfl (by omega)) <| SR.q' (r_as (v := .int .i64 _) rfl) <| SR.nil ?_)
              refine ⟨(k + 1, c, k, c), _, rfl, ⟨rfl, rfl, rfl, rfl, rfl, rfl, rfl, rfl, trivial⟩, ⟨hB48, (hm19).lo hk46, ?_⟩, ?_⟩
              · exact (z_c_spec_BestRun_50 L nL hbdL hleL h5 hq9 h10 k a b c hi20 h21 h22 h49)
              · exact (z_c_spec_BestRun_51 L nL hbdL hleL h5 hq9 h10 k a b c hi20 h21 h22 h49)
            · refine W.skip ?_
              refine W.regS (SR.q' (r_mv (v := .int .i64 _) rfl) <| SR.q' (r_add rfl rfl (by omega)) <| SR.q' (r_as (v := .int .i64 _) rfl) <| SR.nil ?_)
              refine ⟨(k + 1, a, b, c), _, rfl, ⟨rfl, rfl, rfl, rfl, rfl, rfl, rfl, rfl, trivial⟩, ⟨hB48, (hm19).lo hk46, ?_⟩, ?_⟩
              · exact (z_c_spec_BestRun_52 L nL hbdL hleL h5 hq9 h10 k a b c hi20 h21 h22 h49)
              · exact (z_c_spec_BestRun_53 L nL hbdL hleL h5 hq9 h10 k a b c hi20 h21 h22 h49)
        · refine W.exit (xin_here ?_)
          refine W.seq ?_
          refine W.regD mo (by kernel_rfl) (QR.q' (fun w' hw' => r_mv (v := .slice _ _ _) rfl) <| QR.q' (fun w' hw' => r_mv (v := .int .i64 _) rfl) <| ?_)
          obtain ⟨x54, hx55⟩ := (hm19).get (i := a) (by omega)
          have hq56 := rows_rng h5 hx55
          refine QR.q' (fun w' hw' => r_ixR tsl24 (((hm19).lo hw')) rfl rfl (by omega)) <| QR.q' (fun w' hw' => r_fa fa29_0 rfl) <| QR.q' (fun w' hw' => r_ld (v := .int .i64 x54.Month) sca3 rfl ((((hm19).lo hw')).cell hx55 rfl)) <| QR.q' (fun w' hw' => r_mv (v := .slice _ _ _) rfl) <| QR.q' (fun w' hw' => r_mv (v := .int .i64 _) rfl) <| ?_
          obtain ⟨x57, hx58⟩ := (hm19).get (i := b) (by omega)
          have hq59 := rows_rng h5 hx58
          refine QR.q' (fun w' hw' => r_ixR tsl24 (((hm19).lo hw')) rfl rfl (by omega)) <| QR.q' (fun w' hw' => r_fa fa29_0 rfl) <| QR.q' (fun w' hw' => r_ld (v := .int .i64 x57.Month) sca3 rfl ((((hm19).lo hw')).cell hx58 rfl)) <| QR.q' (fun w' hw' => r_as (v := .int .i64 _) rfl) <| QR.q' (fun w' hw' => r_as (v := .int .i64 _) rfl) <| QR.q' (fun w' hw' => r_as (v := .bool true) rfl) <| QR.nil ?_
          intro w60 hk61
          have hz62 := hk61.size
          have hB63 := hB17.lo hk61
          refine W.ret ?_
          refine ret3 rfl (v := .int .i64 _) (v' := .int .i64 _) (v'' := .bool _) rfl rfl rfl ?_
          exact ⟨eR (eT3 (eI (z_c_spec_BestRun_64 L nL hbdL hleL h5 hq9 h10 k a b c hi20 h21 x54 hx55 hq56 x57 hx58 hq59)) (eI (z_c_spec_BestRun_65 L nL hbdL hleL h5 hq9 h10 k a b c hi20 h21 x54 hx55 hq56 x57 hx58 hq59)) (eDT (z_c_spec_BestRun_66 L nL hbdL hleL h5 hq9 h10 k a b c hi20 h21 x54 hx55 hq56 x57 hx58 hq59))), hB63⟩

theorem z_c_impl_BestRun_6 (L : List LibRow) (nL : Nat) (hbdL : (nL : Int) ≤ 9223372036854775807) (hleL : nL = L.length) (h5 : ¬ (RowsOK L)) : 0 = bestF L := by
  first | (simp_all [bestF, bestL]; done) | (simp_all; done)
theorem z_c_impl_BestRun_7 (L : List LibRow) (nL : Nat) (hbdL : (nL : Int) ≤ 9223372036854775807) (hleL : nL = L.length) (h5 : ¬ (RowsOK L)) : 0 = bestL L := by
  first | (simp_all [bestF, bestL]; done) | (simp_all; done)
theorem z_c_impl_BestRun_8 (L : List LibRow) (nL : Nat) (hbdL : (nL : Int) ≤ 9223372036854775807) (hleL : nL = L.length) (h5 : ¬ (RowsOK L)) : ¬ (RowsOK L ∧ 0 < L.length) := by
  first | (simp_all [bestF, bestL]; done) | (simp_all; done)
theorem z_c_impl_BestRun_11 (L : List LibRow) (nL : Nat) (hbdL : (nL : Int) ≤ 9223372036854775807) (hleL : nL = L.length) (h5 : RowsOK L) (hq9 : L.length ≤ 12) (h10 : (nL : Int) = 0) : 0 = bestF L := by
  first | (simp_all [bestF, bestL]; done) | (simp_all; done)
theorem z_c_impl_BestRun_12 (L : List LibRow) (nL : Nat) (hbdL : (nL : Int) ≤ 9223372036854775807) (hleL : nL = L.length) (h5 : RowsOK L) (hq9 : L.length ≤ 12) (h10 : (nL : Int) = 0) : 0 = bestL L := by
  first | (simp_all [bestF, bestL]; done) | (simp_all; done)
theorem z_c_impl_BestRun_13 (L : List LibRow) (nL : Nat) (hbdL : (nL : Int) ≤ 9223372036854775807) (hleL : nL = L.length) (h5 : RowsOK L) (hq9 : L.length ≤ 12) (h10 : (nL : Int) = 0) : ¬ (RowsOK L ∧ 0 < L.length) := by
  first | (simp_all [bestF, bestL]; done) | (simp_all; done)
theorem z_c_impl_BestRun_14 (L : List LibRow) (nL : Nat) (hbdL : (nL : Int) ≤ 9223372036854775807) (hleL : nL = L.length) (h5 : RowsOK L) (hq9 : L.length ≤ 12) (h10 : ¬ ((nL : Int) = 0)) : 0 ≤ nL ∧ best L 0 = (0, 0, 0) ∧ 0 ≤ 0 ∧ (0 < 0 ∨ 0 = 0) ∧ (0 < 0 ∨ 0 = 0) := by
  simp [best]
theorem z_c_impl_BestRun_36 (L : List LibRow) (nL : Nat) (hbdL : (nL : Int) ≤ 9223372036854775807) (hleL : nL = L.length) (h5 : RowsOK L) (hq9 : L.length ≤ 12) (h10 : ¬ ((nL : Int) = 0)) (k : Nat) (a : Nat) (b : Nat) (c : Nat) (hi20 : k ≤ nL ∧ best L k = (a, b, c) ∧ a ≤ b ∧ (b < k ∨ b = 0) ∧ (c < k ∨ c = 0)) (h21 : (k : Int) < (nL : Int)) (h22 : 0 < (k : Int)) (x23 : LibRow) (hx24 : L[k]? = some x23) (hq25 : ((1 : Int) ≤ x23.Month ∧ x23.Month ≤ 1200) ∧ ((0 : Int) ≤ x23.Lent ∧ x23.Lent ≤ 9999) ∧ ((0 : Int) ≤ x23.Copied ∧ x23.Copied ≤ 9999) ∧ ((0 : Int) ≤ x23.Given ∧ x23.Given ≤ 999) ∧ ((0 : Int) ≤ x23.Fines ∧ x23.Fines ≤ 99999)) (x26 : LibRow) (hx28 : L[k - 1]? = some x26) (hq29 : ((1 : Int) ≤ x26.Month ∧ x26.Month ≤ 1200) ∧ ((0 : Int) ≤ x26.Lent ∧ x26.Lent ≤ 9999) ∧ ((0 : Int) ≤ x26.Copied ∧ x26.Copied ≤ 9999) ∧ ((0 : Int) ≤ x26.Given ∧ x26.Given ≤ 999) ∧ ((0 : Int) ≤ x26.Fines ∧ x26.Fines ≤ 99999)) (h34 : x23.Lent < x26.Lent) (h35 : ((b : Int) - (a : Int)) < ((k : Int) - (k : Int))) : k + 1 ≤ nL ∧ best L (k + 1) = (k, k, k) ∧ k ≤ k ∧ (k < k + 1 ∨ k = 0) ∧ (k < k + 1 ∨ k = 0) := by
  obtain ⟨h1, h2, h3, h4, h5⟩ := ‹_ ∧ best L _ = _ ∧ _›; refine ⟨by omega, ?_, by omega, by omega, by omega⟩; first | exact best_fall h2 ‹_› ‹_› ‹_› ‹_› (by omega) | exact best_fallN h2 ‹_› ‹_› ‹_› ‹_› (by omega) | exact best_go h2 (by first | exact nofall0 ‹_› | exact nofall1 ‹_› ‹_› ‹_›) (by omega) | exact best_stay h2 (by first | exact nofall0 ‹_› | exact nofall1 ‹_› ‹_› ‹_›) (by omega)
theorem z_c_impl_BestRun_37 (L : List LibRow) (nL : Nat) (hbdL : (nL : Int) ≤ 9223372036854775807) (hleL : nL = L.length) (h5 : RowsOK L) (hq9 : L.length ≤ 12) (h10 : ¬ ((nL : Int) = 0)) (k : Nat) (a : Nat) (b : Nat) (c : Nat) (hi20 : k ≤ nL ∧ best L k = (a, b, c) ∧ a ≤ b ∧ (b < k ∨ b = 0) ∧ (c < k ∨ c = 0)) (h21 : (k : Int) < (nL : Int)) (h22 : 0 < (k : Int)) (x23 : LibRow) (hx24 : L[k]? = some x23) (hq25 : ((1 : Int) ≤ x23.Month ∧ x23.Month ≤ 1200) ∧ ((0 : Int) ≤ x23.Lent ∧ x23.Lent ≤ 9999) ∧ ((0 : Int) ≤ x23.Copied ∧ x23.Copied ≤ 9999) ∧ ((0 : Int) ≤ x23.Given ∧ x23.Given ≤ 999) ∧ ((0 : Int) ≤ x23.Fines ∧ x23.Fines ≤ 99999)) (x26 : LibRow) (hx28 : L[k - 1]? = some x26) (hq29 : ((1 : Int) ≤ x26.Month ∧ x26.Month ≤ 1200) ∧ ((0 : Int) ≤ x26.Lent ∧ x26.Lent ≤ 9999) ∧ ((0 : Int) ≤ x26.Copied ∧ x26.Copied ≤ 9999) ∧ ((0 : Int) ≤ x26.Given ∧ x26.Given ≤ 999) ∧ ((0 : Int) ≤ x26.Fines ∧ x26.Fines ≤ 99999)) (h34 : x23.Lent < x26.Lent) (h35 : ((b : Int) - (a : Int)) < ((k : Int) - (k : Int))) : nL - (k + 1) < nL - k := by
  omega
theorem z_c_impl_BestRun_38 (L : List LibRow) (nL : Nat) (hbdL : (nL : Int) ≤ 9223372036854775807) (hleL : nL = L.length) (h5 : RowsOK L) (hq9 : L.length ≤ 12) (h10 : ¬ ((nL : Int) = 0)) (k : Nat) (a : Nat) (b : Nat) (c : Nat) (hi20 : k ≤ nL ∧ best L k = (a, b, c) ∧ a ≤ b ∧ (b < k ∨ b = 0) ∧ (c < k ∨ c = 0)) (h21 : (k : Int) < (nL : Int)) (h22 : 0 < (k : Int)) (x23 : LibRow) (hx24 : L[k]? = some x23) (hq25 : ((1 : Int) ≤ x23.Month ∧ x23.Month ≤ 1200) ∧ ((0 : Int) ≤ x23.Lent ∧ x23.Lent ≤ 9999) ∧ ((0 : Int) ≤ x23.Copied ∧ x23.Copied ≤ 9999) ∧ ((0 : Int) ≤ x23.Given ∧ x23.Given ≤ 999) ∧ ((0 : Int) ≤ x23.Fines ∧ x23.Fines ≤ 99999)) (x26 : LibRow) (hx28 : L[k - 1]? = some x26) (hq29 : ((1 : Int) ≤ x26.Month ∧ x26.Month ≤ 1200) ∧ ((0 : Int) ≤ x26.Lent ∧ x26.Lent ≤ 9999) ∧ ((0 : Int) ≤ x26.Copied ∧ x26.Copied ≤ 9999) ∧ ((0 : Int) ≤ x26.Given ∧ x26.Given ≤ 999) ∧ ((0 : Int) ≤ x26.Fines ∧ x26.Fines ≤ 99999)) (h34 : x23.Lent < x26.Lent) (h35 : ¬ (((b : Int) - (a : Int)) < ((k : Int) - (k : Int)))) : k + 1 ≤ nL ∧ best L (k + 1) = (a, b, k) ∧ a ≤ b ∧ (b < k + 1 ∨ b = 0) ∧ (k < k + 1 ∨ k = 0) := by
  obtain ⟨h1, h2, h3, h4, h5⟩ := ‹_ ∧ best L _ = _ ∧ _›; refine ⟨by omega, ?_, by omega, by omega, by omega⟩; first | exact best_fall h2 ‹_› ‹_› ‹_› ‹_› (by omega) | exact best_fallN h2 ‹_› ‹_› ‹_› ‹_› (by omega) | exact best_go h2 (by first | exact nofall0 ‹_› | exact nofall1 ‹_› ‹_› ‹_›) (by omega) | exact best_stay h2 (by first | exact nofall0 ‹_› | exact nofall1 ‹_› ‹_› ‹_›) (by omega)
theorem z_c_impl_BestRun_39 (L : List LibRow) (nL : Nat) (hbdL : (nL : Int) ≤ 9223372036854775807) (hleL : nL = L.length) (h5 : RowsOK L) (hq9 : L.length ≤ 12) (h10 : ¬ ((nL : Int) = 0)) (k : Nat) (a : Nat) (b : Nat) (c : Nat) (hi20 : k ≤ nL ∧ best L k = (a, b, c) ∧ a ≤ b ∧ (b < k ∨ b = 0) ∧ (c < k ∨ c = 0)) (h21 : (k : Int) < (nL : Int)) (h22 : 0 < (k : Int)) (x23 : LibRow) (hx24 : L[k]? = some x23) (hq25 : ((1 : Int) ≤ x23.Month ∧ x23.Month ≤ 1200) ∧ ((0 : Int) ≤ x23.Lent ∧ x23.Lent ≤ 9999) ∧ ((0 : Int) ≤ x23.Copied ∧ x23.Copied ≤ 9999) ∧ ((0 : Int) ≤ x23.Given ∧ x23.Given ≤ 999) ∧ ((0 : Int) ≤ x23.Fines ∧ x23.Fines ≤ 99999)) (x26 : LibRow) (hx28 : L[k - 1]? = some x26) (hq29 : ((1 : Int) ≤ x26.Month ∧ x26.Month ≤ 1200) ∧ ((0 : Int) ≤ x26.Lent ∧ x26.Lent ≤ 9999) ∧ ((0 : Int) ≤ x26.Copied ∧ x26.Copied ≤ 9999) ∧ ((0 : Int) ≤ x26.Given ∧ x26.Given ≤ 999) ∧ ((0 : Int) ≤ x26.Fines ∧ x26.Fines ≤ 99999)) (h34 : x23.Lent < x26.Lent) (h35 : ¬ (((b : Int) - (a : Int)) < ((k : Int) - (k : Int)))) : nL - (k + 1) < nL - k := by
  omega
theorem z_c_impl_BestRun_41 (L : List LibRow) (nL : Nat) (hbdL : (nL : Int) ≤ 9223372036854775807) (hleL : nL = L.length) (h5 : RowsOK L) (hq9 : L.length ≤ 12) (h10 : ¬ ((nL : Int) = 0)) (k : Nat) (a : Nat) (b : Nat) (c : Nat) (hi20 : k ≤ nL ∧ best L k = (a, b, c) ∧ a ≤ b ∧ (b < k ∨ b = 0) ∧ (c < k ∨ c = 0)) (h21 : (k : Int) < (nL : Int)) (h22 : 0 < (k : Int)) (x23 : LibRow) (hx24 : L[k]? = some x23) (hq25 : ((1 : Int) ≤ x23.Month ∧ x23.Month ≤ 1200) ∧ ((0 : Int) ≤ x23.Lent ∧ x23.Lent ≤ 9999) ∧ ((0 : Int) ≤ x23.Copied ∧ x23.Copied ≤ 9999) ∧ ((0 : Int) ≤ x23.Given ∧ x23.Given ≤ 999) ∧ ((0 : Int) ≤ x23.Fines ∧ x23.Fines ≤ 99999)) (x26 : LibRow) (hx28 : L[k - 1]? = some x26) (hq29 : ((1 : Int) ≤ x26.Month ∧ x26.Month ≤ 1200) ∧ ((0 : Int) ≤ x26.Lent ∧ x26.Lent ≤ 9999) ∧ ((0 : Int) ≤ x26.Copied ∧ x26.Copied ≤ 9999) ∧ ((0 : Int) ≤ x26.Given ∧ x26.Given ≤ 999) ∧ ((0 : Int) ≤ x26.Fines ∧ x26.Fines ≤ 99999)) (h34 : ¬ (x23.Lent < x26.Lent)) (h40 : ((b : Int) - (a : Int)) < ((k : Int) - (c : Int))) : k + 1 ≤ nL ∧ best L (k + 1) = (c, k, c) ∧ c ≤ k ∧ (k < k + 1 ∨ k = 0) ∧ (c < k + 1 ∨ c = 0) := by
  obtain ⟨h1, h2, h3, h4, h5⟩ := ‹_ ∧ best L _ = _ ∧ _›; refine ⟨by omega, ?_, by omega, by omega, by omega⟩; first | exact best_fall h2 ‹_› ‹_› ‹_› ‹_› (by omega) | exact best_fallN h2 ‹_› ‹_› ‹_› ‹_› (by omega) | exact best_go h2 (by first | exact nofall0 ‹_› | exact nofall1 ‹_› ‹_› ‹_›) (by omega) | exact best_stay h2 (by first | exact nofall0 ‹_› | exact nofall1 ‹_› ‹_› ‹_›) (by omega)
theorem z_c_impl_BestRun_42 (L : List LibRow) (nL : Nat) (hbdL : (nL : Int) ≤ 9223372036854775807) (hleL : nL = L.length) (h5 : RowsOK L) (hq9 : L.length ≤ 12) (h10 : ¬ ((nL : Int) = 0)) (k : Nat) (a : Nat) (b : Nat) (c : Nat) (hi20 : k ≤ nL ∧ best L k = (a, b, c) ∧ a ≤ b ∧ (b < k ∨ b = 0) ∧ (c < k ∨ c = 0)) (h21 : (k : Int) < (nL : Int)) (h22 : 0 < (k : Int)) (x23 : LibRow) (hx24 : L[k]? = some x23) (hq25 : ((1 : Int) ≤ x23.Month ∧ x23.Month ≤ 1200) ∧ ((0 : Int) ≤ x23.Lent ∧ x23.Lent ≤ 9999) ∧ ((0 : Int) ≤ x23.Copied ∧ x23.Copied ≤ 9999) ∧ ((0 : Int) ≤ x23.Given ∧ x23.Given ≤ 999) ∧ ((0 : Int) ≤ x23.Fines ∧ x23.Fines ≤ 99999)) (x26 : LibRow) (hx28 : L[k - 1]? = some x26) (hq29 : ((1 : Int) ≤ x26.Month ∧ x26.Month ≤ 1200) ∧ ((0 : Int) ≤ x26.Lent ∧ x26.Lent ≤ 9999) ∧ ((0 : Int) ≤ x26.Copied ∧ x26.Copied ≤ 9999) ∧ ((0 : Int) ≤ x26.Given ∧ x26.Given ≤ 999) ∧ ((0 : Int) ≤ x26.Fines ∧ x26.Fines ≤ 99999)) (h34 : ¬ (x23.Lent < x26.Lent)) (h40 : ((b : Int) - (a : Int)) < ((k : Int) - (c : Int))) : nL - (k + 1) < nL - k := by
  omega
theorem z_c_impl_BestRun_43 (L : List LibRow) (nL : Nat) (hbdL : (nL : Int) ≤ 9223372036854775807) (hleL : nL = L.length) (h5 : RowsOK L) (hq9 : L.length ≤ 12) (h10 : ¬ ((nL : Int) = 0)) (k : Nat) (a : Nat) (b : Nat) (c : Nat) (hi20 : k ≤ nL ∧ best L k = (a, b, c) ∧ a ≤ b ∧ (b < k ∨ b = 0) ∧ (c < k ∨ c = 0)) (h21 : (k : Int) < (nL : Int)) (h22 : 0 < (k : Int)) (x23 : LibRow) (hx24 : L[k]? = some x23) (hq25 : ((1 : Int) ≤ x23.Month ∧ x23.Month ≤ 1200) ∧ ((0 : Int) ≤ x23.Lent ∧ x23.Lent ≤ 9999) ∧ ((0 : Int) ≤ x23.Copied ∧ x23.Copied ≤ 9999) ∧ ((0 : Int) ≤ x23.Given ∧ x23.Given ≤ 999) ∧ ((0 : Int) ≤ x23.Fines ∧ x23.Fines ≤ 99999)) (x26 : LibRow) (hx28 : L[k - 1]? = some x26) (hq29 : ((1 : Int) ≤ x26.Month ∧ x26.Month ≤ 1200) ∧ ((0 : Int) ≤ x26.Lent ∧ x26.Lent ≤ 9999) ∧ ((0 : Int) ≤ x26.Copied ∧ x26.Copied ≤ 9999) ∧ ((0 : Int) ≤ x26.Given ∧ x26.Given ≤ 999) ∧ ((0 : Int) ≤ x26.Fines ∧ x26.Fines ≤ 99999)) (h34 : ¬ (x23.Lent < x26.Lent)) (h40 : ¬ (((b : Int) - (a : Int)) < ((k : Int) - (c : Int)))) : k + 1 ≤ nL ∧ best L (k + 1) = (a, b, c) ∧ a ≤ b ∧ (b < k + 1 ∨ b = 0) ∧ (c < k + 1 ∨ c = 0) := by
  obtain ⟨h1, h2, h3, h4, h5⟩ := ‹_ ∧ best L _ = _ ∧ _›; refine ⟨by omega, ?_, by omega, by omega, by omega⟩; first | exact best_fall h2 ‹_› ‹_› ‹_› ‹_› (by omega) | exact best_fallN h2 ‹_› ‹_› ‹_› ‹_› (by omega) | exact best_go h2 (by first | exact nofall0 ‹_› | exact nofall1 ‹_› ‹_› ‹_›) (by omega) | exact best_stay h2 (by first | exact nofall0 ‹_› | exact nofall1 ‹_› ‹_› ‹_›) (by omega)
theorem z_c_impl_BestRun_44 (L : List LibRow) (nL : Nat) (hbdL : (nL : Int) ≤ 9223372036854775807) (hleL : nL = L.length) (h5 : RowsOK L) (hq9 : L.length ≤ 12) (h10 : ¬ ((nL : Int) = 0)) (k : Nat) (a : Nat) (b : Nat) (c : Nat) (hi20 : k ≤ nL ∧ best L k = (a, b, c) ∧ a ≤ b ∧ (b < k ∨ b = 0) ∧ (c < k ∨ c = 0)) (h21 : (k : Int) < (nL : Int)) (h22 : 0 < (k : Int)) (x23 : LibRow) (hx24 : L[k]? = some x23) (hq25 : ((1 : Int) ≤ x23.Month ∧ x23.Month ≤ 1200) ∧ ((0 : Int) ≤ x23.Lent ∧ x23.Lent ≤ 9999) ∧ ((0 : Int) ≤ x23.Copied ∧ x23.Copied ≤ 9999) ∧ ((0 : Int) ≤ x23.Given ∧ x23.Given ≤ 999) ∧ ((0 : Int) ≤ x23.Fines ∧ x23.Fines ≤ 99999)) (x26 : LibRow) (hx28 : L[k - 1]? = some x26) (hq29 : ((1 : Int) ≤ x26.Month ∧ x26.Month ≤ 1200) ∧ ((0 : Int) ≤ x26.Lent ∧ x26.Lent ≤ 9999) ∧ ((0 : Int) ≤ x26.Copied ∧ x26.Copied ≤ 9999) ∧ ((0 : Int) ≤ x26.Given ∧ x26.Given ≤ 999) ∧ ((0 : Int) ≤ x26.Fines ∧ x26.Fines ≤ 99999)) (h34 : ¬ (x23.Lent < x26.Lent)) (h40 : ¬ (((b : Int) - (a : Int)) < ((k : Int) - (c : Int)))) : nL - (k + 1) < nL - k := by
  omega
theorem z_c_impl_BestRun_50 (L : List LibRow) (nL : Nat) (hbdL : (nL : Int) ≤ 9223372036854775807) (hleL : nL = L.length) (h5 : RowsOK L) (hq9 : L.length ≤ 12) (h10 : ¬ ((nL : Int) = 0)) (k : Nat) (a : Nat) (b : Nat) (c : Nat) (hi20 : k ≤ nL ∧ best L k = (a, b, c) ∧ a ≤ b ∧ (b < k ∨ b = 0) ∧ (c < k ∨ c = 0)) (h21 : (k : Int) < (nL : Int)) (h22 : ¬ (0 < (k : Int))) (h49 : ((b : Int) - (a : Int)) < ((k : Int) - (c : Int))) : k + 1 ≤ nL ∧ best L (k + 1) = (c, k, c) ∧ c ≤ k ∧ (k < k + 1 ∨ k = 0) ∧ (c < k + 1 ∨ c = 0) := by
  obtain ⟨h1, h2, h3, h4, h5⟩ := ‹_ ∧ best L _ = _ ∧ _›; refine ⟨by omega, ?_, by omega, by omega, by omega⟩; first | exact best_fall h2 ‹_› ‹_› ‹_› ‹_› (by omega) | exact best_fallN h2 ‹_› ‹_› ‹_› ‹_› (by omega) | exact best_go h2 (by first | exact nofall0 ‹_› | exact nofall1 ‹_› ‹_› ‹_›) (by omega) | exact best_stay h2 (by first | exact nofall0 ‹_› | exact nofall1 ‹_› ‹_› ‹_›) (by omega)
theorem z_c_impl_BestRun_51 (L : List LibRow) (nL : Nat) (hbdL : (nL : Int) ≤ 9223372036854775807) (hleL : nL = L.length) (h5 : RowsOK L) (hq9 : L.length ≤ 12) (h10 : ¬ ((nL : Int) = 0)) (k : Nat) (a : Nat) (b : Nat) (c : Nat) (hi20 : k ≤ nL ∧ best L k = (a, b, c) ∧ a ≤ b ∧ (b < k ∨ b = 0) ∧ (c < k ∨ c = 0)) (h21 : (k : Int) < (nL : Int)) (h22 : ¬ (0 < (k : Int))) (h49 : ((b : Int) - (a : Int)) < ((k : Int) - (c : Int))) : nL - (k + 1) < nL - k := by
  omega
theorem z_c_impl_BestRun_52 (L : List LibRow) (nL : Nat) (hbdL : (nL : Int) ≤ 9223372036854775807) (hleL : nL = L.length) (h5 : RowsOK L) (hq9 : L.length ≤ 12) (h10 : ¬ ((nL : Int) = 0)) (k : Nat) (a : Nat) (b : Nat) (c : Nat) (hi20 : k ≤ nL ∧ best L k = (a, b, c) ∧ a ≤ b ∧ (b < k ∨ b = 0) ∧ (c < k ∨ c = 0)) (h21 : (k : Int) < (nL : Int)) (h22 : ¬ (0 < (k : Int))) (h49 : ¬ (((b : Int) - (a : Int)) < ((k : Int) - (c : Int)))) : k + 1 ≤ nL ∧ best L (k + 1) = (a, b, c) ∧ a ≤ b ∧ (b < k + 1 ∨ b = 0) ∧ (c < k + 1 ∨ c = 0) := by
  obtain ⟨h1, h2, h3, h4, h5⟩ := ‹_ ∧ best L _ = _ ∧ _›; refine ⟨by omega, ?_, by omega, by omega, by omega⟩; first | exact best_fall h2 ‹_› ‹_› ‹_› ‹_› (by omega) | exact best_fallN h2 ‹_› ‹_› ‹_› ‹_› (by omega) | exact best_go h2 (by first | exact nofall0 ‹_› | exact nofall1 ‹_› ‹_› ‹_›) (by omega) | exact best_stay h2 (by first | exact nofall0 ‹_› | exact nofall1 ‹_› ‹_› ‹_›) (by omega)
theorem z_c_impl_BestRun_53 (L : List LibRow) (nL : Nat) (hbdL : (nL : Int) ≤ 9223372036854775807) (hleL : nL = L.length) (h5 : RowsOK L) (hq9 : L.length ≤ 12) (h10 : ¬ ((nL : Int) = 0)) (k : Nat) (a : Nat) (b : Nat) (c : Nat) (hi20 : k ≤ nL ∧ best L k = (a, b, c) ∧ a ≤ b ∧ (b < k ∨ b = 0) ∧ (c < k ∨ c = 0)) (h21 : (k : Int) < (nL : Int)) (h22 : ¬ (0 < (k : Int))) (h49 : ¬ (((b : Int) - (a : Int)) < ((k : Int) - (c : Int)))) : nL - (k + 1) < nL - k := by
  omega
theorem z_c_impl_BestRun_64 (L : List LibRow) (nL : Nat) (hbdL : (nL : Int) ≤ 9223372036854775807) (hleL : nL = L.length) (h5 : RowsOK L) (hq9 : L.length ≤ 12) (h10 : ¬ ((nL : Int) = 0)) (k : Nat) (a : Nat) (b : Nat) (c : Nat) (hi20 : k ≤ nL ∧ best L k = (a, b, c) ∧ a ≤ b ∧ (b < k ∨ b = 0) ∧ (c < k ∨ c = 0)) (h21 : ¬ ((k : Int) < (nL : Int))) (x54 : LibRow) (hx55 : L[a]? = some x54) (hq56 : ((1 : Int) ≤ x54.Month ∧ x54.Month ≤ 1200) ∧ ((0 : Int) ≤ x54.Lent ∧ x54.Lent ≤ 9999) ∧ ((0 : Int) ≤ x54.Copied ∧ x54.Copied ≤ 9999) ∧ ((0 : Int) ≤ x54.Given ∧ x54.Given ≤ 999) ∧ ((0 : Int) ≤ x54.Fines ∧ x54.Fines ≤ 99999)) (x57 : LibRow) (hx58 : L[b]? = some x57) (hq59 : ((1 : Int) ≤ x57.Month ∧ x57.Month ≤ 1200) ∧ ((0 : Int) ≤ x57.Lent ∧ x57.Lent ≤ 9999) ∧ ((0 : Int) ≤ x57.Copied ∧ x57.Copied ≤ 9999) ∧ ((0 : Int) ≤ x57.Given ∧ x57.Given ≤ 999) ∧ ((0 : Int) ≤ x57.Fines ∧ x57.Fines ≤ 99999)) : x54.Month = bestF L := by
  subst hleL; obtain ⟨h1, h2, h3, h4, h5⟩ := ‹_ ∧ best L _ = _ ∧ _›; exact best_resF ‹RowsOK L› h2 ‹_› h1 ‹_› trivial
theorem z_c_impl_BestRun_65 (L : List LibRow) (nL : Nat) (hbdL : (nL : Int) ≤ 9223372036854775807) (hleL : nL = L.length) (h5 : RowsOK L) (hq9 : L.length ≤ 12) (h10 : ¬ ((nL : Int) = 0)) (k : Nat) (a : Nat) (b : Nat) (c : Nat) (hi20 : k ≤ nL ∧ best L k = (a, b, c) ∧ a ≤ b ∧ (b < k ∨ b = 0) ∧ (c < k ∨ c = 0)) (h21 : ¬ ((k : Int) < (nL : Int))) (x54 : LibRow) (hx55 : L[a]? = some x54) (hq56 : ((1 : Int) ≤ x54.Month ∧ x54.Month ≤ 1200) ∧ ((0 : Int) ≤ x54.Lent ∧ x54.Lent ≤ 9999) ∧ ((0 : Int) ≤ x54.Copied ∧ x54.Copied ≤ 9999) ∧ ((0 : Int) ≤ x54.Given ∧ x54.Given ≤ 999) ∧ ((0 : Int) ≤ x54.Fines ∧ x54.Fines ≤ 99999)) (x57 : LibRow) (hx58 : L[b]? = some x57) (hq59 : ((1 : Int) ≤ x57.Month ∧ x57.Month ≤ 1200) ∧ ((0 : Int) ≤ x57.Lent ∧ x57.Lent ≤ 9999) ∧ ((0 : Int) ≤ x57.Copied ∧ x57.Copied ≤ 9999) ∧ ((0 : Int) ≤ x57.Given ∧ x57.Given ≤ 999) ∧ ((0 : Int) ≤ x57.Fines ∧ x57.Fines ≤ 99999)) : x57.Month = bestL L := by
  subst hleL; obtain ⟨h1, h2, h3, h4, h5⟩ := ‹_ ∧ best L _ = _ ∧ _›; exact best_resL ‹RowsOK L› h2 ‹_› h1 ‹_› trivial
theorem z_c_impl_BestRun_66 (L : List LibRow) (nL : Nat) (hbdL : (nL : Int) ≤ 9223372036854775807) (hleL : nL = L.length) (h5 : RowsOK L) (hq9 : L.length ≤ 12) (h10 : ¬ ((nL : Int) = 0)) (k : Nat) (a : Nat) (b : Nat) (c : Nat) (hi20 : k ≤ nL ∧ best L k = (a, b, c) ∧ a ≤ b ∧ (b < k ∨ b = 0) ∧ (c < k ∨ c = 0)) (h21 : ¬ ((k : Int) < (nL : Int))) (x54 : LibRow) (hx55 : L[a]? = some x54) (hq56 : ((1 : Int) ≤ x54.Month ∧ x54.Month ≤ 1200) ∧ ((0 : Int) ≤ x54.Lent ∧ x54.Lent ≤ 9999) ∧ ((0 : Int) ≤ x54.Copied ∧ x54.Copied ≤ 9999) ∧ ((0 : Int) ≤ x54.Given ∧ x54.Given ≤ 999) ∧ ((0 : Int) ≤ x54.Fines ∧ x54.Fines ≤ 99999)) (x57 : LibRow) (hx58 : L[b]? = some x57) (hq59 : ((1 : Int) ≤ x57.Month ∧ x57.Month ≤ 1200) ∧ ((0 : Int) ≤ x57.Lent ∧ x57.Lent ≤ 9999) ∧ ((0 : Int) ≤ x57.Copied ∧ x57.Copied ≤ 9999) ∧ ((0 : Int) ≤ x57.Given ∧ x57.Given ≤ 999) ∧ ((0 : Int) ≤ x57.Fines ∧ x57.Fines ≤ 99999)) : RowsOK L ∧ 0 < L.length := by
  exact ⟨by assumption, by omega⟩
theorem c_impl_BestRun (w : World) {AL : Option Addr} {nL cL BL : Nat}  (L : List LibRow) (hL : SlR w BL encLibRow 5 AL nL cL L) : Calls Try.prog 12 #[.slice AL nL cL] w fun e w' => e = .returned (.tuple (List.toArray [.int .i64 (bestF L), .int .i64 (bestL L), .bool (decide (RowsOK L ∧ 0 < L.length))])) ∧ Lo w w' := by
  refine calls_W 59 Try.func12 rfl rfl rfl ?_
  have hbdL := hL.bound
  have hleL := hL.len
  have hBbL := hL.bd
  refine W.seq ?_
  refine W.regS (SR.q' (r_as (v := .int .i64 0) rfl) <| SR.q' (r_as (v := .int .i64 0) rfl) <| SR.q' (r_as (v := .bool false) rfl) <| SR.nil ?_)
  refine W.seq ?_
  refine W.seq ?_
  refine W.regS (SR.q' (r_mv (v := .slice _ _ _) rfl) <| SR.call ent20 (c_impl_AreLibRows w L ((hL))) rfl ?_)
  rintro e w1 ⟨rfl, hk2⟩
  refine ⟨_, rfl, ?_⟩
  have hz3 := hk2.size
  have hB4 := (Lo.refl w).lo hk2
  refine SR.q' (r_not rfl) <| SR.q' (r_mv (v := .bool _) rfl) <| SR.splitN (fun h5 => ?_) (fun h5 => ?_)
  · refine SR.s' rfl <| SR.s' rfl <| SR.s' rfl <| SR.q' (r_pick true rfl (v := .bool true) rfl) <| SR.nil ?_
    refine W.cond_t rfl ?_
    refine W.seq ?_
    refine W.regS (SR.q' (r_as (v := .int .i64 0) rfl) <| SR.q' (r_as (v := .int .i64 0) rfl) <| SR.q' (r_as (v := .bool false) rfl) <| SR.nil ?_)
    refine W.ret ?_
    refine ret3 rfl (v := .int .i64 _) (v' := .int .i64 _) (v'' := .bool _) rfl rfl rfl ?_
    exact ⟨eR (eT3 (eI (z_c_impl_BestRun_6 L nL hbdL hleL h5)) (eI (z_c_impl_BestRun_7 L nL hbdL hleL h5)) (eDF (z_c_impl_BestRun_8 L nL hbdL hleL h5))), hB4⟩
  · have hq9 := rows_len h5
    refine SR.g' rfl (r_mv (v := .slice _ _ _) rfl) <| SR.g' rfl (r_len und24 rfl) <| SR.g' rfl (r_eq rfl rfl) <| SR.q' (r_pick false rfl (v := .bool _) rfl) <| SR.nil ?_
    refine W.cond_d rfl (fun h10 => ?_) (fun h10 => ?_)
    · refine W.seq ?_
      refine W.regS (SR.q' (r_as (v := .int .i64 0) rfl) <| SR.q' (r_as (v := .int .i64 0) rfl) <| SR.q' (r_as (v := .bool false) rfl) <| SR.nil ?_)
      refine W.ret ?_
      refine ret3 rfl (v := .int .i64 _) (v' := .int .i64 _) (v'' := .bool _) rfl rfl rfl ?_
      exact ⟨eR (eT3 (eI (z_c_impl_BestRun_11 L nL hbdL hleL h5 hq9 h10)) (eI (z_c_impl_BestRun_12 L nL hbdL hleL h5 hq9 h10)) (eDF (z_c_impl_BestRun_13 L nL hbdL hleL h5 hq9 h10))), hB4⟩
    · refine W.skip ?_
      refine W.seq ?_
      refine W.regS (SR.q' (r_as (v := .int .i64 0) rfl) <| SR.q' (r_as (v := .int .i64 0) rfl) <| SR.q' (r_as (v := .int .i64 0) rfl) <| SR.nil ?_)
      refine W.seq ?_
      refine W.seq ?_
      refine W.regS (SR.q' (r_mv (v := .slice _ _ _) rfl) <| SR.q' (r_len und24 rfl) <| SR.q' (r_mv (v := .int .i64 0) rfl) <| SR.nil ?_)
      refine W.block ?_
      refine W.loop (σ := Nat × Nat × Nat × Nat) (fun g => [(0, .slice AL nL cL), (2, .int .i64 0), (3, .int .i64 0), (4, .bool false), (5, .int .i64 (g.2.1 : Int)), (6, .int .i64 (g.2.2.1 : Int)), (7, .int .i64 (g.2.2.2 : Int)), (18, .int .i64 (nL : Int)), (19, .int .i64 (g.1 : Int))]) (fun g w' => (Lo w w') ∧ (SlR w' BL encLibRow 5 AL nL cL L) ∧ (g.1 ≤ nL ∧ best L g.1 = (g.2.1, g.2.2.1, g.2.2.2) ∧ g.2.1 ≤ g.2.2.1 ∧ (g.2.2.1 < g.1 ∨ g.2.2.1 = 0) ∧ (g.2.2.2 < g.1 ∨ g.2.2.2 = 0))) (fun g => nL - g.1) (0, 0, 0, 0) ?_ ?_ ?_
      · exact ⟨rfl, rfl, rfl, rfl, rfl, rfl, rfl, rfl, rfl, trivial⟩
      · exact ⟨hB4, (hL).lo hk2, (z_c_impl_BestRun_14 L nL hbdL hleL h5 hq9 h10)⟩
      · rintro ⟨k, a, b, c⟩ f15 w16 hP18
        obtain ⟨hB17, hm19, hi20⟩ : (Lo w w16) ∧ (SlR w16 BL encLibRow 5 AL nL cL L) ∧ (k ≤ nL ∧ best L k = (a, b, c) ∧ a ≤ b ∧ (b < k ∨ b = 0) ∧ (c < k ∨ c = 0)) := hP18
        refine (?_ : W _ _ _ _ _ (act _ (sets f15 [(0, .slice AL nL cL), (2, .int .i64 0), (3, .int .i64 0), (4, .bool false), (5, .int .i64 (a : Int)), (6, .int .i64 (b : Int)), (7, .int .i64 (c : Int)), (18, .int .i64 (nL : Int)), (19, .int .i64 (k : Int))])) _)
        have hzw16 := hB17.size
        refine W.seq ?_
        refine W.regS (SR.q' (r_lt rfl rfl) <| SR.nil ?_)
        refine W.seq ?_
        refine W.cond_d rfl (fun h21 => ?_) (fun h21 => ?_)
        · refine W.skip ?_
          refine W.seq ?_
          refine W.block ?_
          refine W.seq ?_
          refine W.regS (SR.q' (r_mv (v := .int .i64 _) rfl) <| SR.q' (r_as (v := .int .i64 _) rfl) <| SR.nil ?_)
          refine W.seq ?_
          refine W.seq ?_
          refine W.regD mo (by kernel_rfl) (QR.q' (fun w' hw' => r_mv (v := .int .i64 _) rfl) <| QR.q' (fun w' hw' => r_gt rfl rfl) <| QR.q' (fun w' hw' => r_mv (v := .bool _) rfl) <| QR.splitD (fun h22 => ?_) (fun h22 => ?_))
          · refine QR.g' rfl (fun w' hw' => r_mv (v := .slice _ _ _) rfl) <| QR.g' rfl (fun w' hw' => r_mv (v := .int .i64 _) rfl) <| ?_
            obtain ⟨x23, hx24⟩ := (hm19).get (i := k) (by omega)
            have hq25 := rows_rng h5 hx24
            refine QR.g' rfl (fun w' hw' => r_ixR tsl24 (((hm19).lo hw')) rfl rfl (by omega)) <| QR.g' rfl (fun w' hw' => r_fa fa29_1 rfl) <| QR.g' rfl (fun w' hw' => r_ld (v := .int .i64 x23.Lent) sca3 rfl ((((hm19).lo hw')).cell hx24 rfl)) <| QR.g' rfl (fun w' hw' => r_mv (v := .slice _ _ _) rfl) <| QR.g' rfl (fun w' hw' => r_mv (v := .int .i64 _) rfl) <| QR.g' rfl (fun w' hw' => r_sub rfl rfl (by omega)) <| ?_
            obtain ⟨x26, hx27⟩ := (hm19).get (i := ((k : Int) - 1).toNat) (by omega)
            have hx28 : L[k - 1]? = some x26 := (show ((k : Int) - 1).toNat = k - 1 from by omega) ▸ hx27
            have hq29 := rows_rng h5 hx28
            refine QR.g' rfl (fun w' hw' => r_ixR tsl24 (((hm19).lo hw')) rfl rfl (by omega)) <| QR.g' rfl (fun w' hw' => r_fa fa29_1 rfl) <| QR.g' rfl (fun w' hw' => r_ld (v := .int .i64 x26.Lent) sca3 rfl ((((hm19).lo hw')).cell hx27 rfl)) <| QR.g' rfl (fun w' hw' => r_lt rfl rfl) <| QR.q' (fun w' hw' => r_pick true rfl (v := .bool _) rfl) <| QR.nil ?_
            intro w30 hk31
            have hz32 := hk31.size
            have hB33 := hB17.lo hk31
            refine W.cond_d rfl (fun h34 => ?_) (fun h34 => ?_)
            · refine W.regS (SR.q' (r_mv (v := .int .i64 _) rfl) <| SR.q' (r_as (v := .int .i64 _) rfl) <| SR.nil ?_)
              refine W.seq ?_
              refine W.regS (SR.q' (r_mv (v := .int .i64 _) rfl) <| SR.q' (r_mv (v := .int .i64 _) rfl) <| SR.q' (r_sub rfl rfl (by omega)) <| SR.q' (r_mv (v := .int .i64 _) rfl) <| SR.q' (r_mv (v := .int .i64 _) rfl) <| SR.q' (r_sub rfl rfl (by omega)) <| SR.q' (r_gt rfl rfl) <| SR.nil ?_)
              refine W.cond_d rfl (fun h35 => ?_) (fun h35 => ?_)
              · refine W.regS (SR.q' (r_mv (v := .int .i64 _) rfl) <| SR.q' (r_mv (v := .int .i64 _) rfl) <| SR.q' (r_as (v := .int .i64 _) rfl) <| SR.q' (r_as (v := .int .i64 _) rfl) <| SR.nil ?_)
                refine W.regS (SR.q' (r_add rfl rfl (by omega)) <| SR.q' (r_mv (v := .int .i64 _) rfl) <| SR.nil ?_)
                refine ⟨(k + 1, k, k, k), _, rfl, ⟨rfl, rfl, rfl, rfl, rfl, rfl, rfl, rfl, rfl, trivial⟩, ⟨hB33, (hm19).lo hk31, ?_⟩, ?_⟩
                · exact (z_c_impl_BestRun_36 L nL hbdL hleL h5 hq9 h10 k a b c hi20 h21 h22 x23 hx24 hq25 x26 hx28 hq29 h34 h35)
                · exact (z_c_impl_BestRun_37 L nL hbdL hleL h5 hq9 h10 k a b c hi20 h21 h22 x23 hx24 hq25 x26 hx28 hq29 h34 h35)
              · refine W.skip ?_
                refine W.regS (SR.q' (r_add rfl rfl (by omega)) <| SR.q' (r_mv (v := .int .i64 _) rfl) <| SR.nil ?_)
                refine ⟨(k + 1, a, b, k), _, rfl, ⟨rfl, rfl, rfl, rfl, rfl, rfl, rfl, rfl, rfl, trivial⟩, ⟨hB33, (hm19).lo hk31, ?_⟩, ?_⟩
                · exact (z_c_impl_BestRun_38 L nL hbdL hleL h5 hq9 h10 k a b c hi20 h21 h22 x23 hx24 hq25 x26 hx28 hq29 h34 h35)
                · exact (z_c_impl_BestRun_39 L nL hbdL hleL h5 hq9 h10 k a b c hi20 h21 h22 x23 hx24 hq25 x26 hx28 hq29 h34 h35)
            · refine W.skip ?_
              refine W.seq ?_
              refine W.regS (SR.q' (r_mv (v := .int .i64 _) rfl) <| SR.q' (r_mv (v := .int .i64 _) rfl) <| SR.q' (r_sub rfl rfl (by omega)) <| SR.q' (r_mv (v := .int .i64 _) rfl) <| SR.q' (r_mv (v := .int .i64 _) rfl) <| SR.q' (r_sub rfl rfl (by omega)) <| SR.q' (r_gt rfl rfl) <| SR.nil ?_)
              refine W.cond_d rfl (fun h40 => ?_) (fun h40 => ?_)
              · refine W.regS (SR.q' (r_mv (v := .int .i64 _) rfl) <| SR.q' (r_mv (v := .int .i64 _) rfl) <| SR.q' (r_as (v := .int .i64 _) rfl) <| SR.q' (r_as (v := .int .i64 _) rfl) <| SR.nil ?_)
                refine W.regS (SR.q' (r_add rfl rfl (by omega)) <| SR.q' (r_mv (v := .int .i64 _) rfl) <| SR.nil ?_)
                refine ⟨(k + 1, c, k, c), _, rfl, ⟨rfl, rfl, rfl, rfl, rfl, rfl, rfl, rfl, rfl, trivial⟩, ⟨hB33, (hm19).lo hk31, ?_⟩, ?_⟩
                · exact (z_c_impl_BestRun_41 L nL hbdL hleL h5 hq9 h10 k a b c hi20 h21 h22 x23 hx24 hq25 x26 hx28 hq29 h34 h40)
                · exact (z_c_impl_BestRun_42 L nL hbdL hleL h5 hq9 h10 k a b c hi20 h21 h22 x23 hx24 hq25 x26 hx28 hq29 h34 h40)
              · refine W.skip ?_
                refine W.regS (SR.q' (r_add rfl rfl (by omega)) <| SR.q' (r_mv (v := .int .i64 _) rfl) <| SR.nil ?_)
                refine ⟨(k + 1, a, b, c), _, rfl, ⟨rfl, rfl, rfl, rfl, rfl, rfl, rfl, rfl, rfl, trivial⟩, ⟨hB33, (hm19).lo hk31, ?_⟩, ?_⟩
                · exact (z_c_impl_BestRun_43 L nL hbdL hleL h5 hq9 h10 k a b c hi20 h21 h22 x23 hx24 hq25 x26 hx28 hq29 h34 h40)
                · exact (z_c_impl_BestRun_44 L nL hbdL hleL h5 hq9 h10 k a b c hi20 h21 h22 x23 hx24 hq25 x26 hx28 hq29 h34 h40)
          · refine QR.s' rfl <| QR.s' rfl <| QR.s' rfl <| QR.s' rfl <| QR.s' rfl <| QR.s' rfl <| QR.s' rfl <| QR.s' rfl <| QR.s' rfl <| QR.s' rfl <| QR.s' rfl <| QR.s' rfl <| QR.q' (fun w' hw' => r_pick false rfl (v := .bool false) rfl) <| QR.nil ?_
            intro w45 hk46
            have hz47 := hk46.size
            have hB48 := hB17.lo hk46
            refine W.cond_f rfl ?_
            refine W.skip ?_
            refine W.seq ?_
            refine W.regS (SR.q' (r_mv (v := .int .i64 _) rfl) <| SR.q' (r_mv (v := .int .i64 _) rfl) <| SR.q' (r_sub rfl rfl (by omega)) <| SR.q' (r_mv (v := .int .i64 _) rfl) <| SR.q' (r_mv (v := .int .i64 _) rfl) <| SR.q' (r_sub rfl rfl (by omega)) <| SR.q' (r_gt rfl rfl) <| SR.nil ?_)
            refine W.cond_d rfl (fun h49 => ?_) (fun h49 => ?_)
            · refine W.regS (SR.q' (r_mv (v := .int .i64 _) rfl) <| SR.q' (r_mv (v := .int .i64 _) rfl) <| SR.q' (r_as (v := .int .i64 _) rfl) <| SR.q' (r_as (v := .int .i64 _) rfl) <| SR.nil ?_)
              refine W.regS (SR.q' (r_add rfl rfl (by omega)) <| SR.q' (r_mv (v := .int .i64 _) rfl) <| SR.nil ?_)
              refine ⟨(k + 1, c, k, c), _, rfl, ⟨rfl, rfl, rfl, rfl, rfl, rfl, rfl, rfl, rfl, trivial⟩, ⟨hB48, (hm19).lo hk46, ?_⟩, ?_⟩
              · exact (z_c_impl_BestRun_50 L nL hbdL hleL h5 hq9 h10 k a b c hi20 h21 h22 h49)
              · exact (z_c_impl_BestRun_51 L nL hbdL hleL h5 hq9 h10 k a b c hi20 h21 h22 h49)
            · refine W.skip ?_
              refine W.regS (SR.q' (r_add rfl rfl (by omega)) <| SR.q' (r_mv (v := .int .i64 _) rfl) <| SR.nil ?_)
              refine ⟨(k + 1, a, b, c), _, rfl, ⟨rfl, rfl, rfl, rfl, rfl, rfl, rfl, rfl, rfl, trivial⟩, ⟨hB48, (hm19).lo hk46, ?_⟩, ?_⟩
              · exact (z_c_impl_BestRun_52 L nL hbdL hleL h5 hq9 h10 k a b c hi20 h21 h22 h49)
              · exact (z_c_impl_BestRun_53 L nL hbdL hleL h5 hq9 h10 k a b c hi20 h21 h22 h49)
        · refine W.exit (xin_here ?_)
          refine W.seq ?_
          refine W.regD mo (by kernel_rfl) (QR.q' (fun w' hw' => r_mv (v := .slice _ _ _) rfl) <| QR.q' (fun w' hw' => r_mv (v := .int .i64 _) rfl) <| ?_)
          obtain ⟨x54, hx55⟩ := (hm19).get (i := a) (by omega)
          have hq56 := rows_rng h5 hx55
          refine QR.q' (fun w' hw' => r_ixR tsl24 (((hm19).lo hw')) rfl rfl (by omega)) <| QR.q' (fun w' hw' => r_fa fa29_0 rfl) <| QR.q' (fun w' hw' => r_ld (v := .int .i64 x54.Month) sca3 rfl ((((hm19).lo hw')).cell hx55 rfl)) <| QR.q' (fun w' hw' => r_mv (v := .slice _ _ _) rfl) <| QR.q' (fun w' hw' => r_mv (v := .int .i64 _) rfl) <| ?_
          obtain ⟨x57, hx58⟩ := (hm19).get (i := b) (by omega)
          have hq59 := rows_rng h5 hx58
          refine QR.q' (fun w' hw' => r_ixR tsl24 (((hm19).lo hw')) rfl rfl (by omega)) <| QR.q' (fun w' hw' => r_fa fa29_0 rfl) <| QR.q' (fun w' hw' => r_ld (v := .int .i64 x57.Month) sca3 rfl ((((hm19).lo hw')).cell hx58 rfl)) <| QR.q' (fun w' hw' => r_as (v := .int .i64 _) rfl) <| QR.q' (fun w' hw' => r_as (v := .int .i64 _) rfl) <| QR.q' (fun w' hw' => r_as (v := .bool true) rfl) <| QR.nil ?_
          intro w60 hk61
          have hz62 := hk61.size
          have hB63 := hB17.lo hk61
          refine W.ret ?_
          refine ret3 rfl (v := .int .i64 _) (v' := .int .i64 _) (v'' := .bool _) rfl rfl rfl ?_
          exact ⟨eR (eT3 (eI (z_c_impl_BestRun_64 L nL hbdL hleL h5 hq9 h10 k a b c hi20 h21 x54 hx55 hq56 x57 hx58 hq59)) (eI (z_c_impl_BestRun_65 L nL hbdL hleL h5 hq9 h10 k a b c hi20 h21 x54 hx55 hq56 x57 hx58 hq59)) (eDT (z_c_impl_BestRun_66 L nL hbdL hleL h5 hq9 h10 k a b c hi20 h21 x54 hx55 hq56 x57 hx58 hq59))), hB63⟩
end Go.Proofs.Ytmigipacjadpeaa
