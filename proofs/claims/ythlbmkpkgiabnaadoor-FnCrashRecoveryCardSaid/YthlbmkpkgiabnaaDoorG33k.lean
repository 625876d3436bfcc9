/- Walks, printed by a program of this claim's author. -/
import Derived.Test.YthlbmkpkgiabnaaDoorChecked
import Derived.Test.YthlbmkpkgiabnaaDoorWb
import Derived.Test.YthlbmkpkgiabnaaDoorFt
import Derived.Test.YthlbmkpkgiabnaaDoorSi
import Derived.Test.YthlbmkpkgiabnaaDoorG33j
namespace Go.Proofs.YthlbmkpkgiabnaaDoor
open Go Go.RowKit Fw
set_option maxRecDepth 10000
set_option linter.unusedVariables false
theorem ent24 : Ent Tryd.prog 24 := ent_of Tryd.func24 (by decide +kernel) rfl
theorem ent25 : Ent Tryd.prog 25 := ent_of Tryd.func25 (by decide +kernel) rfl
theorem ent30 : Ent Tryd.prog 30 := ent_of Tryd.func30 (by decide +kernel) rfl
theorem ent41 : Ent Tryd.prog 41 := ent_of Tryd.func41 (by decide +kernel) rfl

theorem z_c_laws_FnCrashRecovery_42 (L : List UInt8) (nL : Nat) (hbdL : (nL : Int) ≤ 9223372036854775807) (hleL : nL = L.length) (h5 : ¬ (65536 < (L.length : Int))) (v8 : Log) (v9 : Int) (v10 : Bool) (hq11 : v8.Durable.length ≤ 60000 ∧ v8.Pending.length ≤ 60000 ∧ -1 ≤ v8.Count ∧ v8.Count ≤ 100) (hq12 : -1 ≤ v9 ∧ v9 ≤ 1000000) (hq15 : CrLaw v8 v9 v10) (hq34 : (crashN v8 v9 v10).1.length ≤ v8.Durable.length + v8.Pending.length) (hq39 : (crashN v8 v9 v10).1.length ≤ v8.Durable.length + v8.Pending.length) (h41 : (!((crashN v8 v9 v10).2)) = true) : decide (((crashN v8 v9 v10).1) = ([] : List UInt8)) = true := by
  first | exact decide_eq_true ((‹CrLaw _ _ _›).2 (bnot_t ‹(!(crashN _ _ _).2) = true›)) | (have hc0 := bnot_f ‹(!(crashN _ _ _).2) = false›; first | (exfalso; exact cr_bad ‹CrLaw _ _ _› hc0 (by assumption) (by assumption) ‹_ ∨ _›) | (exfalso; exact ‹¬ gt _ _ = gt _ _› (cr_at ‹CrLaw _ _ _› hc0 (by omega))) | exact decide_eq_true (cr_fin ‹CrLaw _ _ _› hc0))
theorem z_c_laws_FnCrashRecovery_98 (L : List UInt8) (nL : Nat) (hbdL : (nL : Int) ≤ 9223372036854775807) (hleL : nL = L.length) (h5 : ¬ (65536 < (L.length : Int))) (v8 : Log) (v9 : Int) (v10 : Bool) (hq11 : v8.Durable.length ≤ 60000 ∧ v8.Pending.length ≤ 60000 ∧ -1 ≤ v8.Count ∧ v8.Count ≤ 100) (hq12 : -1 ≤ v9 ∧ v9 ≤ 1000000) (hq15 : CrLaw v8 v9 v10) (hq34 : (crashN v8 v9 v10).1.length ≤ v8.Durable.length + v8.Pending.length) (hq39 : (crashN v8 v9 v10).1.length ≤ v8.Durable.length + v8.Pending.length) (h41 : (!((crashN v8 v9 v10).2)) = false) (hq47 : (recovN ((crashN v8 v9 v10).1)).1.Durable.length + (recovN ((crashN v8 v9 v10).1)).1.Pending.length ≤ 30000) (n66 : Nat) (hl71 : n66 = ((recsN ((recovN ((crashN v8 v9 v10).1)).1)).1).length) (hl72 : (n66 : Int) ≤ 9223372036854775807) (hq73 : (recsN ((recovN ((crashN v8 v9 v10).1)).1)).1.length ≤ 60) (n77 : Nat) (hl82 : n77 = ((recsN v8).1).length) (hl83 : (n77 : Int) ≤ 9223372036854775807) (hq84 : (recsN v8).1.length ≤ 60) (h96 : ((!((recovN ((crashN v8 v9 v10).1)).2.2)) = true) ∨ (((((crashN v8 v9 v10).1).length : Int) < ((recovN ((crashN v8 v9 v10).1)).2.1)) ∨ ((((recovN ((crashN v8 v9 v10).1)).2.1) < (v8.Durable.length : Int)) ∨ ((n77 : Int) < (n66 : Int))))) : false = true := by
  first | exact decide_eq_true ((‹CrLaw _ _ _›).2 (bnot_t ‹(!(crashN _ _ _).2) = true›)) | (have hc0 := bnot_f ‹(!(crashN _ _ _).2) = false›; first | (exfalso; exact cr_bad ‹CrLaw _ _ _› hc0 (by assumption) (by assumption) ‹_ ∨ _›) | (exfalso; exact ‹¬ gt _ _ = gt _ _› (cr_at ‹CrLaw _ _ _› hc0 (by omega))) | exact decide_eq_true (cr_fin ‹CrLaw _ _ _› hc0))
theorem z_c_laws_FnCrashRecovery_104 (L : List UInt8) (nL : Nat) (hbdL : (nL : Int) ≤ 9223372036854775807) (hleL : nL = L.length) (h5 : ¬ (65536 < (L.length : Int))) (v8 : Log) (v9 : Int) (v10 : Bool) (hq11 : v8.Durable.length ≤ 60000 ∧ v8.Pending.length ≤ 60000 ∧ -1 ≤ v8.Count ∧ v8.Count ≤ 100) (hq12 : -1 ≤ v9 ∧ v9 ≤ 1000000) (hq15 : CrLaw v8 v9 v10) (hq34 : (crashN v8 v9 v10).1.length ≤ v8.Durable.length + v8.Pending.length) (hq39 : (crashN v8 v9 v10).1.length ≤ v8.Durable.length + v8.Pending.length) (h41 : (!((crashN v8 v9 v10).2)) = false) (hq47 : (recovN ((crashN v8 v9 v10).1)).1.Durable.length + (recovN ((crashN v8 v9 v10).1)).1.Pending.length ≤ 30000) (n66 : Nat) (hl71 : n66 = ((recsN ((recovN ((crashN v8 v9 v10).1)).1)).1).length) (hl72 : (n66 : Int) ≤ 9223372036854775807) (hq73 : (recsN ((recovN ((crashN v8 v9 v10).1)).1)).1.length ≤ 60) (n77 : Nat) (hl82 : n77 = ((recsN v8).1).length) (hl83 : (n77 : Int) ≤ 9223372036854775807) (hq84 : (recsN v8).1.length ≤ 60) (h96 : ¬ (((!((recovN ((crashN v8 v9 v10).1)).2.2)) = true) ∨ (((((crashN v8 v9 v10).1).length : Int) < ((recovN ((crashN v8 v9 v10).1)).2.1)) ∨ ((((recovN ((crashN v8 v9 v10).1)).2.1) < (v8.Durable.length : Int)) ∨ ((n77 : Int) < (n66 : Int)))))) (hq99 : ¬ ((!((recovN ((crashN v8 v9 v10).1)).2.2)) = true)) (hq100 : ¬ ((((crashN v8 v9 v10).1).length : Int) < ((recovN ((crashN v8 v9 v10).1)).2.1))) (hq101 : ¬ (((recovN ((crashN v8 v9 v10).1)).2.1) < (v8.Durable.length : Int))) (hq102 : ¬ ((n77 : Int) < (n66 : Int))) : 0 ≤ 60 := by
  omega
theorem z_c_laws_FnCrashRecovery_124 (L : List UInt8) (nL : Nat) (hbdL : (nL : Int) ≤ 9223372036854775807) (hleL : nL = L.length) (h5 : ¬ (65536 < (L.length : Int))) (v8 : Log) (v9 : Int) (v10 : Bool) (hq11 : v8.Durable.length ≤ 60000 ∧ v8.Pending.length ≤ 60000 ∧ -1 ≤ v8.Count ∧ v8.Count ≤ 100) (hq12 : -1 ≤ v9 ∧ v9 ≤ 1000000) (hq15 : CrLaw v8 v9 v10) (hq34 : (crashN v8 v9 v10).1.length ≤ v8.Durable.length + v8.Pending.length) (hq39 : (crashN v8 v9 v10).1.length ≤ v8.Durable.length + v8.Pending.length) (h41 : (!((crashN v8 v9 v10).2)) = false) (hq47 : (recovN ((crashN v8 v9 v10).1)).1.Durable.length + (recovN ((crashN v8 v9 v10).1)).1.Pending.length ≤ 30000) (n66 : Nat) (hl71 : n66 = ((recsN ((recovN ((crashN v8 v9 v10).1)).1)).1).length) (hl72 : (n66 : Int) ≤ 9223372036854775807) (hq73 : (recsN ((recovN ((crashN v8 v9 v10).1)).1)).1.length ≤ 60) (n77 : Nat) (hl82 : n77 = ((recsN v8).1).length) (hl83 : (n77 : Int) ≤ 9223372036854775807) (hq84 : (recsN v8).1.length ≤ 60) (h96 : ¬ (((!((recovN ((crashN v8 v9 v10).1)).2.2)) = true) ∨ (((((crashN v8 v9 v10).1).length : Int) < ((recovN ((crashN v8 v9 v10).1)).2.1)) ∨ ((((recovN ((crashN v8 v9 v10).1)).2.1) < (v8.Durable.length : Int)) ∨ ((n77 : Int) < (n66 : Int)))))) (hq99 : ¬ ((!((recovN ((crashN v8 v9 v10).1)).2.2)) = true)) (hq100 : ¬ ((((crashN v8 v9 v10).1).length : Int) < ((recovN ((crashN v8 v9 v10).1)).2.1))) (hq101 : ¬ (((recovN ((crashN v8 v9 v10).1)).2.1) < (v8.Durable.length : Int))) (hq102 : ¬ ((n77 : Int) < (n66 : Int))) (i : Nat) (hi112 : i ≤ 60) (h114 : (i : Int) < (n66 : Int)) (hx116 : ((recsN ((recovN ((crashN v8 v9 v10).1)).1)).1)[i]? = some (gt ((recsN ((recovN ((crashN v8 v9 v10).1)).1)).1) i)) (hx118 : ((recsN v8).1)[i]? = some (gt ((recsN v8).1) i)) (h123 : ¬ ((gt ((recsN ((recovN ((crashN v8 v9 v10).1)).1)).1) i) = (gt ((recsN v8).1) i))) : false = true := by
  first | exact decide_eq_true ((‹CrLaw _ _ _›).2 (bnot_t ‹(!(crashN _ _ _).2) = true›)) | (have hc0 := bnot_f ‹(!(crashN _ _ _).2) = false›; first | (exfalso; exact cr_bad ‹CrLaw _ _ _› hc0 (by assumption) (by assumption) ‹_ ∨ _›) | (exfalso; exact ‹¬ gt _ _ = gt _ _› (cr_at ‹CrLaw _ _ _› hc0 (by omega))) | exact decide_eq_true (cr_fin ‹CrLaw _ _ _› hc0))
theorem z_c_laws_FnCrashRecovery_125 (L : List UInt8) (nL : Nat) (hbdL : (nL : Int) ≤ 9223372036854775807) (hleL : nL = L.length) (h5 : ¬ (65536 < (L.length : Int))) (v8 : Log) (v9 : Int) (v10 : Bool) (hq11 : v8.Durable.length ≤ 60000 ∧ v8.Pending.length ≤ 60000 ∧ -1 ≤ v8.Count ∧ v8.Count ≤ 100) (hq12 : -1 ≤ v9 ∧ v9 ≤ 1000000) (hq15 : CrLaw v8 v9 v10) (hq34 : (crashN v8 v9 v10).1.length ≤ v8.Durable.length + v8.Pending.length) (hq39 : (crashN v8 v9 v10).1.length ≤ v8.Durable.length + v8.Pending.length) (h41 : (!((crashN v8 v9 v10).2)) = false) (hq47 : (recovN ((crashN v8 v9 v10).1)).1.Durable.length + (recovN ((crashN v8 v9 v10).1)).1.Pending.length ≤ 30000) (n66 : Nat) (hl71 : n66 = ((recsN ((recovN ((crashN v8 v9 v10).1)).1)).1).length) (hl72 : (n66 : Int) ≤ 9223372036854775807) (hq73 : (recsN ((recovN ((crashN v8 v9 v10).1)).1)).1.length ≤ 60) (n77 : Nat) (hl82 : n77 = ((recsN v8).1).length) (hl83 : (n77 : Int) ≤ 9223372036854775807) (hq84 : (recsN v8).1.length ≤ 60) (h96 : ¬ (((!((recovN ((crashN v8 v9 v10).1)).2.2)) = true) ∨ (((((crashN v8 v9 v10).1).length : Int) < ((recovN ((crashN v8 v9 v10).1)).2.1)) ∨ ((((recovN ((crashN v8 v9 v10).1)).2.1) < (v8.Durable.length : Int)) ∨ ((n77 : Int) < (n66 : Int)))))) (hq99 : ¬ ((!((recovN ((crashN v8 v9 v10).1)).2.2)) = true)) (hq100 : ¬ ((((crashN v8 v9 v10).1).length : Int) < ((recovN ((crashN v8 v9 v10).1)).2.1))) (hq101 : ¬ (((recovN ((crashN v8 v9 v10).1)).2.1) < (v8.Durable.length : Int))) (hq102 : ¬ ((n77 : Int) < (n66 : Int))) (i : Nat) (hi112 : i ≤ 60) (h114 : (i : Int) < (n66 : Int)) (hx116 : ((recsN ((recovN ((crashN v8 v9 v10).1)).1)).1)[i]? = some (gt ((recsN ((recovN ((crashN v8 v9 v10).1)).1)).1) i)) (hx118 : ((recsN v8).1)[i]? = some (gt ((recsN v8).1) i)) (h123 : (gt ((recsN ((recovN ((crashN v8 v9 v10).1)).1)).1) i) = (gt ((recsN v8).1) i)) : i + 1 ≤ 60 := by
  omega
theorem z_c_laws_FnCrashRecovery_126 (L : List UInt8) (nL : Nat) (hbdL : (nL : Int) ≤ 9223372036854775807) (hleL : nL = L.length) (h5 : ¬ (65536 < (L.length : Int))) (v8 : Log) (v9 : Int) (v10 : Bool) (hq11 : v8.Durable.length ≤ 60000 ∧ v8.Pending.length ≤ 60000 ∧ -1 ≤ v8.Count ∧ v8.Count ≤ 100) (hq12 : -1 ≤ v9 ∧ v9 ≤ 1000000) (hq15 : CrLaw v8 v9 v10) (hq34 : (crashN v8 v9 v10).1.length ≤ v8.Durable.length + v8.Pending.length) (hq39 : (crashN v8 v9 v10).1.length ≤ v8.Durable.length + v8.Pending.length) (h41 : (!((crashN v8 v9 v10).2)) = false) (hq47 : (recovN ((crashN v8 v9 v10).1)).1.Durable.length + (recovN ((crashN v8 v9 v10).1)).1.Pending.length ≤ 30000) (n66 : Nat) (hl71 : n66 = ((recsN ((recovN ((crashN v8 v9 v10).1)).1)).1).length) (hl72 : (n66 : Int) ≤ 9223372036854775807) (hq73 : (recsN ((recovN ((crashN v8 v9 v10).1)).1)).1.length ≤ 60) (n77 : Nat) (hl82 : n77 = ((recsN v8).1).length) (hl83 : (n77 : Int) ≤ 9223372036854775807) (hq84 : (recsN v8).1.length ≤ 60) (h96 : ¬ (((!((recovN ((crashN v8 v9 v10).1)).2.2)) = true) ∨ (((((crashN v8 v9 v10).1).length : Int) < ((recovN ((crashN v8 v9 v10).1)).2.1)) ∨ ((((recovN ((crashN v8 v9 v10).1)).2.1) < (v8.Durable.length : Int)) ∨ ((n77 : Int) < (n66 : Int)))))) (hq99 : ¬ ((!((recovN ((crashN v8 v9 v10).1)).2.2)) = true)) (hq100 : ¬ ((((crashN v8 v9 v10).1).length : Int) < ((recovN ((crashN v8 v9 v10).1)).2.1))) (hq101 : ¬ (((recovN ((crashN v8 v9 v10).1)).2.1) < (v8.Durable.length : Int))) (hq102 : ¬ ((n77 : Int) < (n66 : Int))) (i : Nat) (hi112 : i ≤ 60) (h114 : (i : Int) < (n66 : Int)) (hx116 : ((recsN ((recovN ((crashN v8 v9 v10).1)).1)).1)[i]? = some (gt ((recsN ((recovN ((crashN v8 v9 v10).1)).1)).1) i)) (hx118 : ((recsN v8).1)[i]? = some (gt ((recsN v8).1) i)) (h123 : (gt ((recsN ((recovN ((crashN v8 v9 v10).1)).1)).1) i) = (gt ((recsN v8).1) i)) : 100 - (i + 1) < 100 - i := by
  omega
theorem z_c_laws_FnCrashRecovery_138 (L : List UInt8) (nL : Nat) (hbdL : (nL : Int) ≤ 9223372036854775807) (hleL : nL = L.length) (h5 : ¬ (65536 < (L.length : Int))) (v8 : Log) (v9 : Int) (v10 : Bool) (hq11 : v8.Durable.length ≤ 60000 ∧ v8.Pending.length ≤ 60000 ∧ -1 ≤ v8.Count ∧ v8.Count ≤ 100) (hq12 : -1 ≤ v9 ∧ v9 ≤ 1000000) (hq15 : CrLaw v8 v9 v10) (hq34 : (crashN v8 v9 v10).1.length ≤ v8.Durable.length + v8.Pending.length) (hq39 : (crashN v8 v9 v10).1.length ≤ v8.Durable.length + v8.Pending.length) (h41 : (!((crashN v8 v9 v10).2)) = false) (hq47 : (recovN ((crashN v8 v9 v10).1)).1.Durable.length + (recovN ((crashN v8 v9 v10).1)).1.Pending.length ≤ 30000) (n66 : Nat) (hl71 : n66 = ((recsN ((recovN ((crashN v8 v9 v10).1)).1)).1).length) (hl72 : (n66 : Int) ≤ 9223372036854775807) (hq73 : (recsN ((recovN ((crashN v8 v9 v10).1)).1)).1.length ≤ 60) (n77 : Nat) (hl82 : n77 = ((recsN v8).1).length) (hl83 : (n77 : Int) ≤ 9223372036854775807) (hq84 : (recsN v8).1.length ≤ 60) (h96 : ¬ (((!((recovN ((crashN v8 v9 v10).1)).2.2)) = true) ∨ (((((crashN v8 v9 v10).1).length : Int) < ((recovN ((crashN v8 v9 v10).1)).2.1)) ∨ ((((recovN ((crashN v8 v9 v10).1)).2.1) < (v8.Durable.length : Int)) ∨ ((n77 : Int) < (n66 : Int)))))) (hq99 : ¬ ((!((recovN ((crashN v8 v9 v10).1)).2.2)) = true)) (hq100 : ¬ ((((crashN v8 v9 v10).1).length : Int) < ((recovN ((crashN v8 v9 v10).1)).2.1))) (hq101 : ¬ (((recovN ((crashN v8 v9 v10).1)).2.1) < (v8.Durable.length : Int))) (hq102 : ¬ ((n77 : Int) < (n66 : Int))) (i : Nat) (hi112 : i ≤ 60) (h114 : ¬ ((i : Int) < (n66 : Int))) : decide ((LogOK ((recovN ((crashN v8 v9 v10).1)).1)) ∧ ((((recovN ((crashN v8 v9 v10).1)).1).Durable) = (((crashN v8 v9 v10).1).take (((recovN ((crashN v8 v9 v10).1)).2.1).toNat)))) = true := by
  first | exact decide_eq_true ((‹CrLaw _ _ _›).2 (bnot_t ‹(!(crashN _ _ _).2) = true›)) | (have hc0 := bnot_f ‹(!(crashN _ _ _).2) = false›; first | (exfalso; exact cr_bad ‹CrLaw _ _ _› hc0 (by assumption) (by assumption) ‹_ ∨ _›) | (exfalso; exact ‹¬ gt _ _ = gt _ _› (cr_at ‹CrLaw _ _ _› hc0 (by omega))) | exact decide_eq_true (cr_fin ‹CrLaw _ _ _› hc0))
theorem c_laws_FnCrashRecovery (w : World) {AL : Option Addr} {nL cL BL : Nat}  (L : List UInt8) (hL : SlR w BL encB 1 AL nL cL L) (hE : EnvW w) : Calls Tryd.prog 12 #[.slice AL nL cL] w fun e w' => e = .returned (.bool true) ∧ Lo w w' := by
  refine calls_W 115 Tryd.func12 rfl rfl rfl ?_
  have hbdL := hL.bound
  have hleL := hL.len
  have hBbL := hL.bd
  refine W.seq ?_
  refine W.regS (SR.q' (r_as (v := .bool false) rfl) <| SR.nil ?_)
  refine W.seq ?_
  refine W.seq ?_
  refine W.regS (SR.q' (r_mv (v := .slice _ _ _) rfl) <| SR.call ent35 (c_laws_vBig w L ((hL))) rfl ?_)
  rintro e w1 ⟨rfl, hk2⟩
  refine ⟨_, rfl, ?_⟩
  have hz3 := hk2.size
  have hB4 := (Lo.refl w).lo hk2
  refine SR.nil ?_
  refine W.cond_d rfl (fun h5 => ?_) (fun h5 => ?_)
  · refine W.seq ?_
    refine W.regS (SR.q' (r_as (v := .bool true) rfl) <| SR.nil ?_)
    refine W.ret ?_
    refine ret1 rfl (v := .bool _) rfl ?_
    exact ⟨eR rfl, hB4⟩
  · refine W.skip ?_
    refine W.seq ?_
    refine W.regS (SR.q' (r_mv (v := .slice _ _ _) rfl) <| SR.call ent41 (c_spec_DrawCrashLog w1 L (((hL).lo hk2)) (by omega)) rfl ?_)
    rintro e w6 ⟨v8, v9, v10, rfl, hq11, hq12, hk7⟩
    refine ⟨_, rfl, ?_⟩
    have hz13 := hk7.size
    have hB14 := hB4.lo hk7
    have hq15 : CrLaw v8 v9 v10 := cr_law v8 v9 v10
    refine SR.q' (r_mv (v := .tuple (List.toArray _)) rfl) <| SR.q' (r_ext (v := .agg (List.toArray _)) rfl rfl) <| SR.q' (r_ext (v := .int .i64 _) rfl rfl) <| SR.q' (r_ext (v := .bool _) rfl rfl) <| SR.alloc (l := [str ([] : List UInt8), str ([] : List UInt8), .int .i64 0]) tz31 rfl ?_
    intro g16 w17 hg18 hk19 hs20 hb21
    have hz22 := hk19.size
    have hB23 := hB14.lo hk19
    refine SR.store (o := 0) (vs := [str v8.Durable, str v8.Pending, .int .i64 v8.Count]) agg31.2 rfl rfl rfl rfl (hb21) (Nat.le_of_ble_eq_true rfl) rfl ?_
    intro w24 hk25 hs26 hb27
    have hz28 := hk25.size
    have hB29 := hB23.new hk25 (by omega)
    refine SR.q' (r_as (v := .int .i64 _) rfl) <| SR.q' (r_as (v := .bool _) rfl) <| SR.nil ?_
    refine W.seq ?_
    refine W.regS (SR.q' (r_lda (l := [str v8.Durable, str v8.Pending, .int .i64 v8.Count]) agg31 rfl (fun _ _ hu => (hb27).cell hu) rfl) <| SR.q' (r_mv (v := .int .i64 _) rfl) <| SR.q' (r_mv (v := .bool _) rfl) <| SR.call ent25 (c_impl_CrashLog w24 v8 v9 v10 (by omega) (hE.lo (hB29))) rfl ?_)
    rintro e w30 ⟨rfl, hk31⟩
    refine ⟨_, rfl, ?_⟩
    have hz32 := hk31.size
    have hB33 := hB29.lo hk31
    have hq34 : (crashN v8 v9 v10).1.length ≤ v8.Durable.length + v8.Pending.length := crash_len v8 v9 v10
    refine SR.q' (r_mv (v := .tuple (List.toArray _)) rfl) <| SR.q' (r_ext (v := str _) rfl rfl) <| SR.q' (r_ext (v := .bool _) rfl rfl) <| SR.q' (r_as (v := str _) rfl) <| SR.q' (r_as (v := .bool _) rfl) <| SR.nil ?_
    refine W.seq ?_
    refine W.seq ?_
    refine W.regS (SR.q' (r_lda (l := [str v8.Durable, str v8.Pending, .int .i64 v8.Count]) agg31 rfl (fun _ _ hu => ((hb27).lo hk31).cell hu) rfl) <| SR.q' (r_mv (v := .int .i64 _) rfl) <| SR.q' (r_mv (v := .bool _) rfl) <| SR.call ent24 (c_spec_CrashLog w30 v8 v9 v10 (by omega)) rfl ?_)
    rintro e w35 ⟨rfl, hk36⟩
    refine ⟨_, rfl, ?_⟩
    have hz37 := hk36.size
    have hB38 := hB33.lo hk36
    have hq39 : (crashN v8 v9 v10).1.length ≤ v8.Durable.length + v8.Pending.length := crash_len v8 v9 v10
    refine SR.q' (r_mv (v := .tuple (List.toArray _)) rfl) <| SR.q' (r_ext (v := str _) rfl rfl) <| SR.q' (r_ext (v := .bool _) rfl rfl) <| SR.q' (r_as (v := str _) rfl) <| SR.q' (r_as (v := .bool _) rfl) <| SR.nil ?_
    refine W.seq ?_
    have hm40 := ((hb27).lo hk31).lo hk36
    refine W.regS (SR.q' (r_mv (v := str _) rfl) <| SR.q' (r_mv (v := str _) rfl) <| SR.q' (r_nes_s (s := (crashN v8 v9 v10).1) rfl rfl) <| SR.q' (r_mv (v := .bool _) rfl) <| SR.g' rfl (r_mv (v := .bool _) rfl) <| SR.g' rfl (r_mv (v := .bool _) rfl) <| SR.g' rfl (r_neb_s und4 rfl rfl) <| SR.q' (r_pick false rfl (v := .bool _) rfl) <| SR.nil ?_)
    refine W.cond_f rfl ?_
    refine W.skip ?_
    refine W.seq ?_
    refine W.seq ?_
    refine W.regS (SR.q' (r_mv (v := .bool _) rfl) <| SR.q' (r_not rfl) <| SR.nil ?_)
    refine W.cond_b rfl (fun h41 => ?_) (fun h41 => ?_)
    · refine W.seq ?_
      refine W.regS (SR.q' (r_mv (v := str _) rfl) <| SR.q' (r_eqs (s := (crashN v8 v9 v10).1) (r := ([] : List UInt8)) rfl rfl) <| SR.q' (r_as (v := .bool _) rfl) <| SR.nil ?_)
      refine W.ret ?_
      refine ret1 rfl (v := .bool _) rfl ?_
      exact ⟨eR (eB (z_c_laws_FnCrashRecovery_42 L nL hbdL hleL h5 v8 v9 v10 hq11 hq12 hq15 hq34 hq39 h41)), hB38⟩
    · refine W.skip ?_
      refine W.seq ?_
      refine W.regS (SR.q' (r_mv (v := str _) rfl) <| SR.call ent18 (c_impl_RecoverLog w35 ((crashN v8 v9 v10).1) (hE.lo (hB38))) rfl ?_)
      rintro e w43 ⟨rfl, hk44⟩
      refine ⟨_, rfl, ?_⟩
      have hz45 := hk44.size
      have hB46 := hB38.lo hk44
      have hq47 : (recovN ((crashN v8 v9 v10).1)).1.Durable.length + (recovN ((crashN v8 v9 v10).1)).1.Pending.length ≤ 30000 := recov_len ((crashN v8 v9 v10).1)
      refine SR.q' (r_mv (v := .tuple (List.toArray _)) rfl) <| SR.q' (r_ext (v := .agg (List.toArray _)) rfl rfl) <| SR.q' (r_ext (v := .int .i64 _) rfl rfl) <| SR.q' (r_ext (v := .bool _) rfl rfl) <| SR.alloc (l := [str ([] : List UInt8), str ([] : List UInt8), .int .i64 0]) tz31 rfl ?_
      intro g48 w49 hg50 hk51 hs52 hb53
      have hz54 := hk51.size
      have hB55 := hB46.lo hk51
      refine SR.store (o := 0) (vs := [str (((recovN ((crashN v8 v9 v10).1)).1).Durable), str (((recovN ((crashN v8 v9 v10).1)).1).Pending), .int .i64 (((recovN ((crashN v8 v9 v10).1)).1).Count)]) agg31.2 rfl rfl rfl rfl (hb53) (Nat.le_of_ble_eq_true rfl) rfl ?_
      intro w56 hk57 hs58 hb59
      have hz60 := hk57.size
      have hB61 := hB55.new hk57 (by omega)
      refine SR.q' (r_as (v := .int .i64 _) rfl) <| SR.q' (r_as (v := .bool _) rfl) <| SR.nil ?_
      refine W.seq ?_
      have hm62 := (((hm40).lo hk44).lo hk51).kp hk57 (fun e' => by have e'' : g16 = g48 := e'; omega)
      refine W.regS (SR.q' (r_lda (l := [str (((recovN ((crashN v8 v9 v10).1)).1).Durable), str (((recovN ((crashN v8 v9 v10).1)).1).Pending), .int .i64 (((recovN ((crashN v8 v9 v10).1)).1).Count)]) agg31 rfl (fun _ _ hu => (hb59).cell hu) rfl) <| SR.call ent31 (c_impl_LogRecords w56 ((recovN ((crashN v8 v9 v10).1)).1) (by omega) (hE.lo (hB61))) rfl ?_)
      rintro e w63 ⟨A65, n66, c67, rfl, hO68, hk64⟩
      refine ⟨_, rfl, ?_⟩
      have hz69 := hk64.size
      have hB70 := hB61.lo hk64
      have hl71 := hO68.len
      have hl72 := hO68.rd.bound
      have hq73 := recs_len ((recovN ((crashN v8 v9 v10).1)).1)
      refine SR.q' (r_mv (v := .tuple (List.toArray _)) rfl) <| SR.q' (r_ext (v := .slice _ _ _) rfl rfl) <| SR.q' (r_ext (v := .bool _) rfl rfl) <| SR.q' (r_as (v := .slice _ _ _) rfl) <| SR.q' (r_as (v := .bool _) rfl) <| SR.nil ?_
      refine W.seq ?_
      refine W.regS (SR.q' (r_lda (l := [str v8.Durable, str v8.Pending, .int .i64 v8.Count]) agg31 rfl (fun _ _ hu => ((hm62).lo hk64).cell hu) rfl) <| SR.call ent30 (c_spec_LogRecords w63 v8 (by omega)) rfl ?_)
      rintro e w74 ⟨A76, n77, c78, rfl, hO79, hk75⟩
      refine ⟨_, rfl, ?_⟩
      have hz80 := hk75.size
      have hB81 := hB70.lo hk75
      have hl82 := hO79.len
      have hl83 := hO79.rd.bound
      have hq84 := recs_len v8
      refine SR.q' (r_mv (v := .tuple (List.toArray _)) rfl) <| SR.q' (r_ext (v := .slice _ _ _) rfl rfl) <| SR.q' (r_ext (v := .bool _) rfl rfl) <| SR.q' (r_as (v := .slice _ _ _) rfl) <| SR.q' (r_as (v := .bool _) rfl) <| SR.nil ?_
      refine W.seq ?_
      refine W.seq ?_
      have hm85 := ((hm62).lo hk64).lo hk75
      have hm86 := ((hb59).lo hk64).lo hk75
      refine W.regJS (fun f' w' => At f' [(2, .bool false), (6, str ((crashN v8 v9 v10).1)), (10, .pointer (some ((⟨g48, 0, none⟩ : Addr)))), (11, .int .i64 ((recovN ((crashN v8 v9 v10).1)).2.1)), (13, .slice A65 n66 c67), (15, .slice A76 n77 c78), (89, .bool (decide (((!((recovN ((crashN v8 v9 v10).1)).2.2)) = true) ∨ (((((crashN v8 v9 v10).1).length : Int) < ((recovN ((crashN v8 v9 v10).1)).2.1)) ∨ ((((recovN ((crashN v8 v9 v10).1)).2.1) < (v8.Durable.length : Int)) ∨ ((n77 : Int) < (n66 : Int)))))))] ∧ Lo w74 w') ?_ ?_
      · refine SR.q' (r_mv (v := .bool _) rfl) <| SR.q' (r_not rfl) <| SR.q' (r_mv (v := .bool _) rfl) <| SR.split (fun h87 => ?_) (fun h87 => ?_)
        · refine SR.s' rfl <| SR.s' rfl <| SR.s' rfl <| SR.s' rfl <| SR.q' (r_pick true rfl (v := .bool true) rfl) <| SR.q' (r_mv (v := .bool _) rfl) <| SR.s' rfl <| SR.s' rfl <| SR.s' rfl <| SR.s' rfl <| SR.s' rfl <| SR.q' (r_pick true rfl (v := .bool true) rfl) <| SR.q' (r_mv (v := .bool _) rfl) <| SR.s' rfl <| SR.s' rfl <| SR.s' rfl <| SR.s' rfl <| SR.s' rfl <| SR.q' (r_pick true rfl (v := .bool true) rfl) <| SR.nil ?_
          exact ⟨_, rfl, ⟨⟨rfl, rfl, rfl, rfl, rfl, rfl, (eDT ((jot h87).1 trivial)), trivial⟩, (Lo.refl _)⟩⟩
        · refine SR.g' rfl (r_mv (v := .int .i64 _) rfl) <| SR.g' rfl (r_mv (v := str _) rfl) <| SR.g' rfl (r_len_s und9 rfl) <| SR.g' rfl (r_gt rfl rfl) <| SR.q' (r_pick false rfl (v := .bool _) rfl) <| SR.q' (r_mv (v := .bool _) rfl) <| SR.splitD (fun h88 => ?_) (fun h88 => ?_)
          · refine SR.s' rfl <| SR.s' rfl <| SR.s' rfl <| SR.s' rfl <| SR.s' rfl <| SR.q' (r_pick true rfl (v := .bool true) rfl) <| SR.q' (r_mv (v := .bool _) rfl) <| SR.s' rfl <| SR.s' rfl <| SR.s' rfl <| SR.s' rfl <| SR.s' rfl <| SR.q' (r_pick true rfl (v := .bool true) rfl) <| SR.nil ?_
            exact ⟨_, rfl, ⟨⟨rfl, rfl, rfl, rfl, rfl, rfl, (eDT (((jot h88).trans (jof (ne_true_of_eq_false h87))).1 trivial)), trivial⟩, (Lo.refl _)⟩⟩
          · refine SR.g' rfl (r_mv (v := .int .i64 _) rfl) <| SR.g' rfl (r_fa fa31_0 rfl) <| SR.g' rfl (r_ld (v := str v8.Durable) sca9 rfl ((hm85).cell rfl)) <| SR.g' rfl (r_len_s und9 rfl) <| SR.g' rfl (r_lt rfl rfl) <| SR.q' (r_pick false rfl (v := .bool _) rfl) <| SR.q' (r_mv (v := .bool _) rfl) <| SR.splitD (fun h89 => ?_) (fun h89 => ?_)
            · refine SR.s' rfl <| SR.s' rfl <| SR.s' rfl <| SR.s' rfl <| SR.s' rfl <| SR.q' (r_pick true rfl (v := .bool true) rfl) <| SR.nil ?_
              exact ⟨_, rfl, ⟨⟨rfl, rfl, rfl, rfl, rfl, rfl, (eDT ((((jot h89).trans (jof h88)).trans (jof (ne_true_of_eq_false h87))).1 trivial)), trivial⟩, (Lo.refl _)⟩⟩
            · refine SR.g' rfl (r_mv (v := .slice _ _ _) rfl) <| SR.g' rfl (r_len und48 rfl) <| SR.g' rfl (r_mv (v := .slice _ _ _) rfl) <| SR.g' rfl (r_len und48 rfl) <| SR.g' rfl (r_gt rfl rfl) <| SR.q' (r_pick false rfl (v := .bool _) rfl) <| SR.nil ?_
              exact ⟨_, rfl, ⟨⟨rfl, rfl, rfl, rfl, rfl, rfl, (eDD (((jof h89).trans (jof h88)).trans (jof (ne_true_of_eq_false h87)))), trivial⟩, (Lo.refl _)⟩⟩
      rintro f90 w91 ⟨hat92, hk93⟩
      rw [← sets_of_at hat92]
      have hz94 := hk93.size
      have hB95 := hB81.lo hk93
      refine W.cond_d rfl (fun h96 => ?_) (fun h96 => ?_)
      · refine W.seq ?_
        have hm97 := ((hO68).lo hk75).lo hk93
        refine W.regS (SR.q' (r_as (v := .bool false) rfl) <| SR.nil ?_)
        refine W.ret ?_
        refine ret1 rfl (v := .bool _) rfl ?_
        exact ⟨eR (eB (z_c_laws_FnCrashRecovery_98 L nL hbdL hleL h5 v8 v9 v10 hq11 hq12 hq15 hq34 hq39 h41 hq47 n66 hl71 hl72 hq73 n77 hl82 hl83 hq84 h96)), hB95⟩
      · have hq99 : ¬ ((!((recovN ((crashN v8 v9 v10).1)).2.2)) = true) := (not_or.1 h96).1
        have hq100 : ¬ ((((crashN v8 v9 v10).1).length : Int) < ((recovN ((crashN v8 v9 v10).1)).2.1)) := (not_or.1 (not_or.1 h96).2).1
        have hq101 : ¬ (((recovN ((crashN v8 v9 v10).1)).2.1) < (v8.Durable.length : Int)) := (not_or.1 (not_or.1 (not_or.1 h96).2).2).1
        have hq102 : ¬ ((n77 : Int) < (n66 : Int)) := (not_or.1 (not_or.1 (not_or.1 h96).2).2).2
        refine W.skip ?_
        refine W.seq ?_
        refine W.seq ?_
        have hm103 := ((hO68).lo hk75).lo hk93
        refine W.regS (SR.q' (r_as (v := .int .i64 0) rfl) <| SR.nil ?_)
        refine W.block ?_
        refine W.loop (σ := Nat) (fun g => [(6, str ((crashN v8 v9 v10).1)), (10, .pointer (some ((⟨g48, 0, none⟩ : Addr)))), (11, .int .i64 ((recovN ((crashN v8 v9 v10).1)).2.1)), (13, .slice A65 n66 c67), (15, .slice A76 n77 c78), (17, .int .i64 (g : Int))]) (fun g w' => (Lo w w') ∧ (Blk w' g48 31 [str (((recovN ((crashN v8 v9 v10).1)).1).Durable), str (((recovN ((crashN v8 v9 v10).1)).1).Pending), .int .i64 (((recovN ((crashN v8 v9 v10).1)).1).Count)]) ∧ (SlO w' w56.heap.size encLogRecord 2 27 A65 n66 c67 ((recsN ((recovN ((crashN v8 v9 v10).1)).1)).1)) ∧ (SlO w' w63.heap.size encLogRecord 2 27 A76 n77 c78 ((recsN v8).1)) ∧ (g ≤ 60)) (fun g => 100 - g) 0 ?_ ?_ ?_
        · exact ⟨rfl, rfl, rfl, rfl, rfl, (eI (by first | omega | (dsimp only; omega))), trivial⟩
        · exact ⟨hB95, (hm86).lo hk93, hm103, (hO79).lo hk93, (z_c_laws_FnCrashRecovery_104 L nL hbdL hleL h5 v8 v9 v10 hq11 hq12 hq15 hq34 hq39 h41 hq47 n66 hl71 hl72 hq73 n77 hl82 hl83 hq84 h96 hq99 hq100 hq101 hq102)⟩
        · rintro i f105 w106 hP108
          obtain ⟨hB107, hm109, hm110, hm111, hi112⟩ : (Lo w w106) ∧ (Blk w106 g48 31 [str (((recovN ((crashN v8 v9 v10).1)).1).Durable), str (((recovN ((crashN v8 v9 v10).1)).1).Pending), .int .i64 (((recovN ((crashN v8 v9 v10).1)).1).Count)]) ∧ (SlO w106 w56.heap.size encLogRecord 2 27 A65 n66 c67 ((recsN ((recovN ((crashN v8 v9 v10).1)).1)).1)) ∧ (SlO w106 w63.heap.size encLogRecord 2 27 A76 n77 c78 ((recsN v8).1)) ∧ (i ≤ 60) := hP108
          refine (?_ : W _ _ _ _ _ (act _ (sets f105 [(6, str ((crashN v8 v9 v10).1)), (10, .pointer (some ((⟨g48, 0, none⟩ : Addr)))), (11, .int .i64 ((recovN ((crashN v8 v9 v10).1)).2.1)), (13, .slice A65 n66 c67), (15, .slice A76 n77 c78), (17, .int .i64 (i : Int))])) _)
          have hzw106 := hB107.size
          have hl113 := hm109.lt
          refine W.seq ?_
          refine W.seq ?_
          refine W.regS (SR.q' (r_mv (v := .int .i64 _) rfl) <| SR.q' (r_mv (v := .slice _ _ _) rfl) <| SR.q' (r_len und48 rfl) <| SR.q' (r_lt rfl rfl) <| SR.nil ?_)
          refine W.cond_d rfl (fun h114 => ?_) (fun h114 => ?_)
          · refine W.skip ?_
            refine W.seq ?_
            refine W.block ?_
            refine W.seq ?_
            refine W.regD mo (by kernel_rfl) (QR.q' (fun w' hw' => r_mv (v := .slice _ _ _) rfl) <| QR.q' (fun w' hw' => r_mv (v := .int .i64 _) rfl) <| ?_)
            have hx116 := ((hm110).rd).elem (i := i) (by omega)
            refine QR.q' (fun w' hw' => r_ixR tsl48 (((hm110).lo hw').rd) rfl rfl (by omega)) <| QR.q' (fun w' hw' => r_lda (l := encLogRecord (gt ((recsN ((recovN ((crashN v8 v9 v10).1)).1)).1) i)) agg27 rfl (fun _ _ hu => (((hm110).lo hw').rd).cell hx116 hu) ((((hm110).lo hw').rd).esz _)) <| QR.q' (fun w' hw' => r_mv (v := .slice _ _ _) rfl) <| QR.q' (fun w' hw' => r_mv (v := .int .i64 _) rfl) <| ?_
            have hx118 := ((hm111).rd).elem (i := i) (by omega)
            refine QR.q' (fun w' hw' => r_ixR tsl48 (((hm111).lo hw').rd) rfl rfl (by omega)) <| QR.q' (fun w' hw' => r_lda (l := encLogRecord (gt ((recsN v8).1) i)) agg27 rfl (fun _ _ hu => (((hm111).lo hw').rd).cell hx118 hu) ((((hm111).lo hw').rd).esz _)) <| QR.q' (fun w' hw' => r_neA (l := encLogRecord (gt ((recsN ((recovN ((crashN v8 v9 v10).1)).1)).1) i)) (r := encLogRecord (gt ((recsN v8).1) i)) rfl rfl eqg27 (eql27 (gt ((recsN ((recovN ((crashN v8 v9 v10).1)).1)).1) i) (gt ((recsN v8).1) i))) <| QR.nil ?_
            intro w119 hk120
            have hz121 := hk120.size
            have hB122 := hB107.lo hk120
            refine W.cond_n rfl (fun h123 => ?_) (fun h123 => ?_)
            · refine W.seq ?_
              refine W.regS (SR.q' (r_as (v := .bool false) rfl) <| SR.nil ?_)
              refine W.ret ?_
              refine ret1 rfl (v := .bool _) rfl ?_
              exact ⟨eR (eB (z_c_laws_FnCrashRecovery_124 L nL hbdL hleL h5 v8 v9 v10 hq11 hq12 hq15 hq34 hq39 h41 hq47 n66 hl71 hl72 hq73 n77 hl82 hl83 hq84 h96 hq99 hq100 hq101 hq102 i hi112 h114 hx116 hx118 h123)), hB122⟩
            · refine W.skip ?_
              refine W.regS (SR.q' (r_mv (v := .int .i64 _) rfl) <| SR.q' (r_add rfl rfl (by omega)) <| SR.q' (r_as (v := .int .i64 _) rfl) <| SR.nil ?_)
              refine ⟨i + 1, _, rfl, ⟨rfl, rfl, rfl, rfl, rfl, (eI (by first | omega | (dsimp only; omega))), trivial⟩, ⟨hB122, (hm109).lo hk120, (hm110).lo hk120, (hm111).lo hk120, ?_⟩, ?_⟩
              · exact (z_c_laws_FnCrashRecovery_125 L nL hbdL hleL h5 v8 v9 v10 hq11 hq12 hq15 hq34 hq39 h41 hq47 n66 hl71 hl72 hq73 n77 hl82 hl83 hq84 h96 hq99 hq100 hq101 hq102 i hi112 h114 hx116 hx118 h123)
              · exact (z_c_laws_FnCrashRecovery_126 L nL hbdL hleL h5 v8 v9 v10 hq11 hq12 hq15 hq34 hq39 h41 hq47 n66 hl71 hl72 hq73 n77 hl82 hl83 hq84 h96 hq99 hq100 hq101 hq102 i hi112 h114 hx116 hx118 h123)
          · refine W.exit (xin_here ?_)
            refine W.seq ?_
            refine W.regJD mo (by kernel_rfl) (fun f' w' => At f' [(2, .bool (decide ((LogOK ((recovN ((crashN v8 v9 v10).1)).1)) ∧ ((((recovN ((crashN v8 v9 v10).1)).1).Durable) = (((crashN v8 v9 v10).1).take (((recovN ((crashN v8 v9 v10).1)).2.1).toNat))))))] ∧ Lo w106 w') ?_ ?_
            · refine QR.q' (fun w' hw' => r_lda (l := [str (((recovN ((crashN v8 v9 v10).1)).1).Durable), str (((recovN ((crashN v8 v9 v10).1)).1).Pending), .int .i64 (((recovN ((crashN v8 v9 v10).1)).1).Count)]) agg31 rfl (fun _ _ hu => ((hm109).lo hw').cell hu) rfl) <| QR.call ent23 (fun w' hw' => (c_impl_IsValidLog w' ((recovN ((crashN v8 v9 v10).1)).1) (by omega) (hE.lo (hB107.trans hw'))).mono fun _ _ h => ⟨h.1, hw'.trans h.2⟩) rfl <| QR.q' (fun w' hw' => r_mv (v := .bool _) rfl) <| QR.splitD (fun h127 => ?_) (fun h127 => ?_)
              · refine QR.g' rfl (fun w' hw' => r_fa fa31_0 rfl) <| QR.g' rfl (fun w' hw' => r_ld (v := str (((recovN ((crashN v8 v9 v10).1)).1).Durable)) sca9 rfl (((hm109).lo hw').cell rfl)) <| QR.g' rfl (fun w' hw' => r_mv (v := str _) rfl) <| QR.g' rfl (fun w' hw' => r_mv (v := .int .i64 _) rfl) <| QR.g' rfl (fun w' hw' => r_cuthS (h := ((recovN ((crashN v8 v9 v10).1)).2.1).toNat) und9 rfl rfl (by omega) (by first | omega | (simp only [List.length_append, List.length_cons, List.length_nil, List.length_take, List.length_drop]; omega) | (simp only [List.length_append, List.length_cons, List.length_nil, List.length_take, List.length_drop] at *; omega))) <| QR.g' rfl (fun w' hw' => r_eqs (s := ((recovN ((crashN v8 v9 v10).1)).1).Durable) (r := ((crashN v8 v9 v10).1).take (((recovN ((crashN v8 v9 v10).1)).2.1).toNat)) rfl rfl) <| QR.q' (fun w' hw' => r_pick true rfl (v := .bool _) rfl) <| QR.q' (fun w' hw' => r_as (v := .bool _) rfl) <| QR.nil ?_
                intro w128 hk129
                exact ⟨⟨(eDD (jat h127)), trivial⟩, hk129⟩
              · refine QR.s' rfl <| QR.s' rfl <| QR.s' rfl <| QR.s' rfl <| QR.s' rfl <| QR.s' rfl <| QR.q' (fun w' hw' => r_pick false rfl (v := .bool false) rfl) <| QR.q' (fun w' hw' => r_as (v := .bool _) rfl) <| QR.nil ?_
                intro w130 hk131
                exact ⟨⟨(eDF (jaf h127).2), trivial⟩, hk131⟩
            rintro f132 w133 ⟨hat134, hk135⟩
            rw [← sets_of_at hat134]
            have hz136 := hk135.size
            have hB137 := hB107.lo hk135
            refine W.ret ?_
            refine ret1 rfl (v := .bool _) rfl ?_
            exact ⟨eR (eB (z_c_laws_FnCrashRecovery_138 L nL hbdL hleL h5 v8 v9 v10 hq11 hq12 hq15 hq34 hq39 h41 hq47 n66 hl71 hl72 hq73 n77 hl82 hl83 hq84 h96 hq99 hq100 hq101 hq102 i hi112 h114)), hB137⟩
end Go.Proofs.YthlbmkpkgiabnaaDoor
