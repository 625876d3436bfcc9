/- Walks, printed by a program of this claim's author. -/
import Derived.Test.YthlbmkpkgiabnaaDoorChecked
import Derived.Test.YthlbmkpkgiabnaaDoorWb
import Derived.Test.YthlbmkpkgiabnaaDoorFt
import Derived.Test.YthlbmkpkgiabnaaDoorSi
import Derived.Test.YthlbmkpkgiabnaaDoorWg
import Derived.Test.YthlbmkpkgiabnaaDoorG33i
namespace Go.Proofs.YthlbmkpkgiabnaaDoor
open Go Go.RowKit Fw
set_option maxRecDepth 10000
set_option linter.unusedVariables false
theorem ent21 : Ent Tryd.prog 21 := ent_of Tryd.func21 (by decide +kernel) rfl
theorem ent29 : Ent Tryd.prog 29 := ent_of Tryd.func29 (by decide +kernel) rfl
theorem ent31 : Ent Tryd.prog 31 := ent_of Tryd.func31 (by decide +kernel) rfl
theorem ent38 : Ent Tryd.prog 38 := ent_of Tryd.func38 (by decide +kernel) rfl
theorem ent40 : Ent Tryd.prog 40 := ent_of Tryd.func40 (by decide +kernel) rfl
theorem eqg27 : Tryd.prog.eqGuardType Tryd.prog.depth 27 = false := by kernel_rfl
theorem eql27 (a b : LogRecord) (w : World) : (binOp .eql 27 (.agg (List.toArray (encLogRecord a))) (.agg (List.toArray (encLogRecord b)))).run Tryd.prog w = .ok (.bool (decide (a = b))) w := by
  have u9 := Tryd.underlying9
  have a9 := Tryd.isAgg9
  have z9 := Tryd.sizeOf9
  have q9 := eqin_str (P := Tryd.prog) u9
  have hS : Tryd.prog.underlying 27 = some (.struct (Tryd.prog.fieldsOf 27)) := by kernel_rfl
  have hp : Tryd.prog.stoodInHeld 27 = false := by kernel_rfl
  have hd : (a = b) ↔ a.Command = b.Command ∧ a.Reply = b.Reply := by cases a; cases b; simp
  simp only [encLogRecord, hd]
  rw [run_eql_struct, show (10000 : Nat) = 9999 + 1 from rfl, run_equalIn_agg w 9999 27 _ _ hS hp]
  simp only [Program.fieldsOf, Tryd.underlying27]
  go_simp
  try simp only [q9, Result.andThen_ok]
  by_cases h0 : a.Command = b.Command <;> by_cases h1 : a.Reply = b.Reply <;> simp [h0, h1]

theorem z_c_laws_FnLog_91 (L : List UInt8) (nL : Nat) (hbdL : (nL : Int) ≤ 9223372036854775807) (hleL : nL = L.length) (h5 : ¬ (65536 < (L.length : Int))) (v8 : Log) (v9 : LogRecord) (hq10 : v8.Durable.length ≤ 60000 ∧ v8.Pending.length ≤ 60000 ∧ -1 ≤ v8.Count ∧ v8.Count ≤ 100) (hq11 : v9.Command.length ≤ 40 ∧ v9.Reply.length ≤ 40) (hq14 : AppLaw v8 v9) (hq47 : (appN v8 v9).1.Durable.length + (appN v8 v9).1.Pending.length ≤ v8.Durable.length + v8.Pending.length + 406) (hq68 : (appN v8 v9).1.Durable.length + (appN v8 v9).1.Pending.length ≤ v8.Durable.length + v8.Pending.length + 406) (h90 : ¬ (((appN v8 v9).2) = 0)) : decide (((appN v8 v9).1) = v8) = true := by
  first | exact decide_eq_true ((‹AppLaw _ _›).2 ‹¬ (appN _ _).2 = 0›) | (exfalso; exact app_bad1 ‹AppLaw _ _› ‹(appN _ _).2 = 0› (by assumption) (by assumption) ‹_ ∨ _›) | (exfalso; exact ‹¬ gt _ _ = gt _ _› (app_at ‹AppLaw _ _› ‹(appN _ _).2 = 0› (by omega))) | exact decide_eq_true (app_fin ‹AppLaw _ _› ‹(appN _ _).2 = 0› (by assumption))
theorem z_c_laws_FnLog_176 (L : List UInt8) (nL : Nat) (hbdL : (nL : Int) ≤ 9223372036854775807) (hleL : nL = L.length) (h5 : ¬ (65536 < (L.length : Int))) (v8 : Log) (v9 : LogRecord) (hq10 : v8.Durable.length ≤ 60000 ∧ v8.Pending.length ≤ 60000 ∧ -1 ≤ v8.Count ∧ v8.Count ≤ 100) (hq11 : v9.Command.length ≤ 40 ∧ v9.Reply.length ≤ 40) (hq14 : AppLaw v8 v9) (hq47 : (appN v8 v9).1.Durable.length + (appN v8 v9).1.Pending.length ≤ v8.Durable.length + v8.Pending.length + 406) (hq68 : (appN v8 v9).1.Durable.length + (appN v8 v9).1.Pending.length ≤ v8.Durable.length + v8.Pending.length + 406) (h90 : ((appN v8 v9).2) = 0) (n95 : Nat) (hl100 : n95 = ((recsN ((appN v8 v9).1)).1).length) (hl101 : (n95 : Int) ≤ 9223372036854775807) (hq102 : (recsN ((appN v8 v9).1)).1.length ≤ 60) (n109 : Nat) (hl114 : n109 = ((recsN v8).1).length) (hl115 : (n109 : Int) ≤ 9223372036854775807) (hq116 : (recsN v8).1.length ≤ 60) (hq121 : (recovN ((((appN v8 v9).1).Durable) ++ (((appN v8 v9).1).Pending))).1.Durable.length + (recovN ((((appN v8 v9).1).Durable) ++ (((appN v8 v9).1).Pending))).1.Pending.length ≤ 30000) (h175 : ((!((recsN ((appN v8 v9).1)).2)) = true) ∨ ((¬ ((n95 : Int) = ((n109 : Int) + 1))) ∨ (¬ ((((appN v8 v9).1).Count) = (n95 : Int))))) : false = true := by
  first | exact decide_eq_true ((‹AppLaw _ _›).2 ‹¬ (appN _ _).2 = 0›) | (exfalso; exact app_bad1 ‹AppLaw _ _› ‹(appN _ _).2 = 0› (by assumption) (by assumption) ‹_ ∨ _›) | (exfalso; exact ‹¬ gt _ _ = gt _ _› (app_at ‹AppLaw _ _› ‹(appN _ _).2 = 0› (by omega))) | exact decide_eq_true (app_fin ‹AppLaw _ _› ‹(appN _ _).2 = 0› (by assumption))
theorem z_c_laws_FnLog_180 (L : List UInt8) (nL : Nat) (hbdL : (nL : Int) ≤ 9223372036854775807) (hleL : nL = L.length) (h5 : ¬ (65536 < (L.length : Int))) (v8 : Log) (v9 : LogRecord) (hq10 : v8.Durable.length ≤ 60000 ∧ v8.Pending.length ≤ 60000 ∧ -1 ≤ v8.Count ∧ v8.Count ≤ 100) (hq11 : v9.Command.length ≤ 40 ∧ v9.Reply.length ≤ 40) (hq14 : AppLaw v8 v9) (hq47 : (appN v8 v9).1.Durable.length + (appN v8 v9).1.Pending.length ≤ v8.Durable.length + v8.Pending.length + 406) (hq68 : (appN v8 v9).1.Durable.length + (appN v8 v9).1.Pending.length ≤ v8.Durable.length + v8.Pending.length + 406) (h90 : ((appN v8 v9).2) = 0) (n95 : Nat) (hl100 : n95 = ((recsN ((appN v8 v9).1)).1).length) (hl101 : (n95 : Int) ≤ 9223372036854775807) (hq102 : (recsN ((appN v8 v9).1)).1.length ≤ 60) (n109 : Nat) (hl114 : n109 = ((recsN v8).1).length) (hl115 : (n109 : Int) ≤ 9223372036854775807) (hq116 : (recsN v8).1.length ≤ 60) (hq121 : (recovN ((((appN v8 v9).1).Durable) ++ (((appN v8 v9).1).Pending))).1.Durable.length + (recovN ((((appN v8 v9).1).Durable) ++ (((appN v8 v9).1).Pending))).1.Pending.length ≤ 30000) (h175 : ¬ (((!((recsN ((appN v8 v9).1)).2)) = true) ∨ ((¬ ((n95 : Int) = ((n109 : Int) + 1))) ∨ (¬ ((((appN v8 v9).1).Count) = (n95 : Int)))))) (hq177 : ¬ ((!((recsN ((appN v8 v9).1)).2)) = true)) (hq178 : (n95 : Int) = ((n109 : Int) + 1)) (hq179 : (((appN v8 v9).1).Count) = (n95 : Int)) : 0 ≤ 60 := by
  omega
theorem z_c_laws_FnLog_206 (L : List UInt8) (nL : Nat) (hbdL : (nL : Int) ≤ 9223372036854775807) (hleL : nL = L.length) (h5 : ¬ (65536 < (L.length : Int))) (v8 : Log) (v9 : LogRecord) (hq10 : v8.Durable.length ≤ 60000 ∧ v8.Pending.length ≤ 60000 ∧ -1 ≤ v8.Count ∧ v8.Count ≤ 100) (hq11 : v9.Command.length ≤ 40 ∧ v9.Reply.length ≤ 40) (hq14 : AppLaw v8 v9) (hq47 : (appN v8 v9).1.Durable.length + (appN v8 v9).1.Pending.length ≤ v8.Durable.length + v8.Pending.length + 406) (hq68 : (appN v8 v9).1.Durable.length + (appN v8 v9).1.Pending.length ≤ v8.Durable.length + v8.Pending.length + 406) (h90 : ((appN v8 v9).2) = 0) (n95 : Nat) (hl100 : n95 = ((recsN ((appN v8 v9).1)).1).length) (hl101 : (n95 : Int) ≤ 9223372036854775807) (hq102 : (recsN ((appN v8 v9).1)).1.length ≤ 60) (n109 : Nat) (hl114 : n109 = ((recsN v8).1).length) (hl115 : (n109 : Int) ≤ 9223372036854775807) (hq116 : (recsN v8).1.length ≤ 60) (hq121 : (recovN ((((appN v8 v9).1).Durable) ++ (((appN v8 v9).1).Pending))).1.Durable.length + (recovN ((((appN v8 v9).1).Durable) ++ (((appN v8 v9).1).Pending))).1.Pending.length ≤ 30000) (h175 : ¬ (((!((recsN ((appN v8 v9).1)).2)) = true) ∨ ((¬ ((n95 : Int) = ((n109 : Int) + 1))) ∨ (¬ ((((appN v8 v9).1).Count) = (n95 : Int)))))) (hq177 : ¬ ((!((recsN ((appN v8 v9).1)).2)) = true)) (hq178 : (n95 : Int) = ((n109 : Int) + 1)) (hq179 : (((appN v8 v9).1).Count) = (n95 : Int)) (i : Nat) (hi191 : i ≤ 60) (h196 : (i : Int) < (n109 : Int)) (hx198 : ((recsN ((appN v8 v9).1)).1)[i]? = some (gt ((recsN ((appN v8 v9).1)).1) i)) (hx200 : ((recsN v8).1)[i]? = some (gt ((recsN v8).1) i)) (h205 : ¬ ((gt ((recsN ((appN v8 v9).1)).1) i) = (gt ((recsN v8).1) i))) : false = true := by
  first | exact decide_eq_true ((‹AppLaw _ _›).2 ‹¬ (appN _ _).2 = 0›) | (exfalso; exact app_bad1 ‹AppLaw _ _› ‹(appN _ _).2 = 0› (by assumption) (by assumption) ‹_ ∨ _›) | (exfalso; exact ‹¬ gt _ _ = gt _ _› (app_at ‹AppLaw _ _› ‹(appN _ _).2 = 0› (by omega))) | exact decide_eq_true (app_fin ‹AppLaw _ _› ‹(appN _ _).2 = 0› (by assumption))
theorem z_c_laws_FnLog_207 (L : List UInt8) (nL : Nat) (hbdL : (nL : Int) ≤ 9223372036854775807) (hleL : nL = L.length) (h5 : ¬ (65536 < (L.length : Int))) (v8 : Log) (v9 : LogRecord) (hq10 : v8.Durable.length ≤ 60000 ∧ v8.Pending.length ≤ 60000 ∧ -1 ≤ v8.Count ∧ v8.Count ≤ 100) (hq11 : v9.Command.length ≤ 40 ∧ v9.Reply.length ≤ 40) (hq14 : AppLaw v8 v9) (hq47 : (appN v8 v9).1.Durable.length + (appN v8 v9).1.Pending.length ≤ v8.Durable.length + v8.Pending.length + 406) (hq68 : (appN v8 v9).1.Durable.length + (appN v8 v9).1.Pending.length ≤ v8.Durable.length + v8.Pending.length + 406) (h90 : ((appN v8 v9).2) = 0) (n95 : Nat) (hl100 : n95 = ((recsN ((appN v8 v9).1)).1).length) (hl101 : (n95 : Int) ≤ 9223372036854775807) (hq102 : (recsN ((appN v8 v9).1)).1.length ≤ 60) (n109 : Nat) (hl114 : n109 = ((recsN v8).1).length) (hl115 : (n109 : Int) ≤ 9223372036854775807) (hq116 : (recsN v8).1.length ≤ 60) (hq121 : (recovN ((((appN v8 v9).1).Durable) ++ (((appN v8 v9).1).Pending))).1.Durable.length + (recovN ((((appN v8 v9).1).Durable) ++ (((appN v8 v9).1).Pending))).1.Pending.length ≤ 30000) (h175 : ¬ (((!((recsN ((appN v8 v9).1)).2)) = true) ∨ ((¬ ((n95 : Int) = ((n109 : Int) + 1))) ∨ (¬ ((((appN v8 v9).1).Count) = (n95 : Int)))))) (hq177 : ¬ ((!((recsN ((appN v8 v9).1)).2)) = true)) (hq178 : (n95 : Int) = ((n109 : Int) + 1)) (hq179 : (((appN v8 v9).1).Count) = (n95 : Int)) (i : Nat) (hi191 : i ≤ 60) (h196 : (i : Int) < (n109 : Int)) (hx198 : ((recsN ((appN v8 v9).1)).1)[i]? = some (gt ((recsN ((appN v8 v9).1)).1) i)) (hx200 : ((recsN v8).1)[i]? = some (gt ((recsN v8).1) i)) (h205 : (gt ((recsN ((appN v8 v9).1)).1) i) = (gt ((recsN v8).1) i)) : i + 1 ≤ 60 := by
  omega
theorem z_c_laws_FnLog_208 (L : List UInt8) (nL : Nat) (hbdL : (nL : Int) ≤ 9223372036854775807) (hleL : nL = L.length) (h5 : ¬ (65536 < (L.length : Int))) (v8 : Log) (v9 : LogRecord) (hq10 : v8.Durable.length ≤ 60000 ∧ v8.Pending.length ≤ 60000 ∧ -1 ≤ v8.Count ∧ v8.Count ≤ 100) (hq11 : v9.Command.length ≤ 40 ∧ v9.Reply.length ≤ 40) (hq14 : AppLaw v8 v9) (hq47 : (appN v8 v9).1.Durable.length + (appN v8 v9).1.Pending.length ≤ v8.Durable.length + v8.Pending.length + 406) (hq68 : (appN v8 v9).1.Durable.length + (appN v8 v9).1.Pending.length ≤ v8.Durable.length + v8.Pending.length + 406) (h90 : ((appN v8 v9).2) = 0) (n95 : Nat) (hl100 : n95 = ((recsN ((appN v8 v9).1)).1).length) (hl101 : (n95 : Int) ≤ 9223372036854775807) (hq102 : (recsN ((appN v8 v9).1)).1.length ≤ 60) (n109 : Nat) (hl114 : n109 = ((recsN v8).1).length) (hl115 : (n109 : Int) ≤ 9223372036854775807) (hq116 : (recsN v8).1.length ≤ 60) (hq121 : (recovN ((((appN v8 v9).1).Durable) ++ (((appN v8 v9).1).Pending))).1.Durable.length + (recovN ((((appN v8 v9).1).Durable) ++ (((appN v8 v9).1).Pending))).1.Pending.length ≤ 30000) (h175 : ¬ (((!((recsN ((appN v8 v9).1)).2)) = true) ∨ ((¬ ((n95 : Int) = ((n109 : Int) + 1))) ∨ (¬ ((((appN v8 v9).1).Count) = (n95 : Int)))))) (hq177 : ¬ ((!((recsN ((appN v8 v9).1)).2)) = true)) (hq178 : (n95 : Int) = ((n109 : Int) + 1)) (hq179 : (((appN v8 v9).1).Count) = (n95 : Int)) (i : Nat) (hi191 : i ≤ 60) (h196 : (i : Int) < (n109 : Int)) (hx198 : ((recsN ((appN v8 v9).1)).1)[i]? = some (gt ((recsN ((appN v8 v9).1)).1) i)) (hx200 : ((recsN v8).1)[i]? = some (gt ((recsN v8).1) i)) (h205 : (gt ((recsN ((appN v8 v9).1)).1) i) = (gt ((recsN v8).1) i)) : 100 - (i + 1) < 100 - i := by
  omega
theorem z_c_laws_FnLog_235 (L : List UInt8) (nL : Nat) (hbdL : (nL : Int) ≤ 9223372036854775807) (hleL : nL = L.length) (h5 : ¬ (65536 < (L.length : Int))) (v8 : Log) (v9 : LogRecord) (hq10 : v8.Durable.length ≤ 60000 ∧ v8.Pending.length ≤ 60000 ∧ -1 ≤ v8.Count ∧ v8.Count ≤ 100) (hq11 : v9.Command.length ≤ 40 ∧ v9.Reply.length ≤ 40) (hq14 : AppLaw v8 v9) (hq47 : (appN v8 v9).1.Durable.length + (appN v8 v9).1.Pending.length ≤ v8.Durable.length + v8.Pending.length + 406) (hq68 : (appN v8 v9).1.Durable.length + (appN v8 v9).1.Pending.length ≤ v8.Durable.length + v8.Pending.length + 406) (h90 : ((appN v8 v9).2) = 0) (n95 : Nat) (hl100 : n95 = ((recsN ((appN v8 v9).1)).1).length) (hl101 : (n95 : Int) ≤ 9223372036854775807) (hq102 : (recsN ((appN v8 v9).1)).1.length ≤ 60) (n109 : Nat) (hl114 : n109 = ((recsN v8).1).length) (hl115 : (n109 : Int) ≤ 9223372036854775807) (hq116 : (recsN v8).1.length ≤ 60) (hq121 : (recovN ((((appN v8 v9).1).Durable) ++ (((appN v8 v9).1).Pending))).1.Durable.length + (recovN ((((appN v8 v9).1).Durable) ++ (((appN v8 v9).1).Pending))).1.Pending.length ≤ 30000) (h175 : ¬ (((!((recsN ((appN v8 v9).1)).2)) = true) ∨ ((¬ ((n95 : Int) = ((n109 : Int) + 1))) ∨ (¬ ((((appN v8 v9).1).Count) = (n95 : Int)))))) (hq177 : ¬ ((!((recsN ((appN v8 v9).1)).2)) = true)) (hq178 : (n95 : Int) = ((n109 : Int) + 1)) (hq179 : (((appN v8 v9).1).Count) = (n95 : Int)) (i : Nat) (hi191 : i ≤ 60) (h196 : ¬ ((i : Int) < (n109 : Int))) (hq232 : ((recsN ((appN v8 v9).1)).1)[n109]? = some (gt ((recsN ((appN v8 v9).1)).1) n109)) : decide (((gt ((recsN ((appN v8 v9).1)).1) n109) = v9) ∧ ((((recovN ((((appN v8 v9).1).Durable) ++ (((appN v8 v9).1).Pending))).2.2) = true) ∧ ((((recovN ((((appN v8 v9).1).Durable) ++ (((appN v8 v9).1).Pending))).2.1) = (((((appN v8 v9).1).Durable) ++ (((appN v8 v9).1).Pending)).length : Int)) ∧ ((((syncN ((appN v8 v9).1)).2) = true) ∧ ((((syncN ((appN v8 v9).1)).1) = ((recovN ((((appN v8 v9).1).Durable) ++ (((appN v8 v9).1).Pending))).1)) ∧ (LogOK ((appN v8 v9).1))))))) = true := by
  first | exact decide_eq_true ((‹AppLaw _ _›).2 ‹¬ (appN _ _).2 = 0›) | (exfalso; exact app_bad1 ‹AppLaw _ _› ‹(appN _ _).2 = 0› (by assumption) (by assumption) ‹_ ∨ _›) | (exfalso; exact ‹¬ gt _ _ = gt _ _› (app_at ‹AppLaw _ _› ‹(appN _ _).2 = 0› (by omega))) | exact decide_eq_true (app_fin ‹AppLaw _ _› ‹(appN _ _).2 = 0› (by assumption))
theorem c_laws_FnLog (w : World) {AL : Option Addr} {nL cL BL : Nat}  (L : List UInt8) (hL : SlR w BL encB 1 AL nL cL L) (hE : EnvW w) : Calls Tryd.prog 11 #[.slice AL nL cL] w fun e w' => e = .returned (.bool true) ∧ Lo w w' := by
  refine calls_W 154 Tryd.func11 rfl rfl rfl ?_
  have hbdL := hL.bound
  have hleL := hL.len
  have hBbL := hL.bd
  refine W.seq ?_
  refine W.regS (SR.q' (r_as (v := .bool false) rfl) <| SR.nil ?_)
  refine W.seq ?_
  refine W.seq ?_
  refine W.regS (SR.q' (r_mv (v := .slice _ _ _) rfl) <| SR.call ent35 (c_laws_vBig w L ((hL))) rfl ?_)
  rintro e w1 ⟨rfl, hk2⟩
  refine ⟨_, rfl, ?_⟩
  have hz3 := hk2.size
  have hB4 := (Lo.refl w).lo hk2
  refine SR.nil ?_
  refine W.cond_d rfl (fun h5 => ?_) (fun h5 => ?_)
  · refine W.seq ?_
    refine W.regS (SR.q' (r_as (v := .bool true) rfl) <| SR.nil ?_)
    refine W.ret ?_
    refine ret1 rfl (v := .bool _) rfl ?_
    exact ⟨eR rfl, hB4⟩
  · refine W.skip ?_
    refine W.seq ?_
    refine W.regS (SR.q' (r_mv (v := .slice _ _ _) rfl) <| SR.call ent38 (c_spec_DrawAppendRecord w1 L (((hL).lo hk2)) (by omega)) rfl ?_)
    rintro e w6 ⟨v8, v9, rfl, hq10, hq11, hk7⟩
    refine ⟨_, rfl, ?_⟩
    have hz12 := hk7.size
    have hB13 := hB4.lo hk7
    have hq14 : AppLaw v8 v9 := app_law v8 v9
    refine SR.q' (r_mv (v := .tuple (List.toArray _)) rfl) <| SR.q' (r_ext (v := .agg (List.toArray _)) rfl rfl) <| SR.q' (r_ext (v := .agg (List.toArray _)) rfl rfl) <| SR.alloc (l := [str ([] : List UInt8), str ([] : List UInt8), .int .i64 0]) tz31 rfl ?_
    intro g15 w16 hg17 hk18 hs19 hb20
    have hz21 := hk18.size
    have hB22 := hB13.lo hk18
    refine SR.alloc (l := [str ([] : List UInt8), str ([] : List UInt8)]) tz27 rfl ?_
    intro g23 w24 hg25 hk26 hs27 hb28
    have hz29 := hk26.size
    have hB30 := hB22.lo hk26
    refine SR.store (o := 0) (vs := [str v8.Durable, str v8.Pending, .int .i64 v8.Count]) agg31.2 rfl rfl rfl rfl ((hb20).lo hk26) (Nat.le_of_ble_eq_true rfl) rfl ?_
    intro w31 hk32 hs33 hb34
    have hz35 := hk32.size
    have hB36 := hB30.new hk32 (by omega)
    refine SR.store (o := 0) (vs := [str v9.Command, str v9.Reply]) agg27.2 rfl rfl rfl rfl ((hb28).kp hk32 (fun e' => by have e'' : g23 = g15 := e'; omega)) (Nat.le_of_ble_eq_true rfl) rfl ?_
    intro w37 hk38 hs39 hb40
    have hz41 := hk38.size
    have hB42 := hB36.new hk38 (by omega)
    refine SR.nil ?_
    refine W.seq ?_
    refine W.regS (SR.q' (r_lda (l := [str v8.Durable, str v8.Pending, .int .i64 v8.Count]) agg31 rfl (fun _ _ hu => ((hb34).kp hk38 (fun e' => by have e'' : g15 = g23 := e'; omega)).cell hu) rfl) <| SR.q' (r_lda (l := [str v9.Command, str v9.Reply]) agg27 rfl (fun _ _ hu => (hb40).cell hu) rfl) <| SR.call ent29 (c_impl_AppendRecord w37 v8 v9 (by omega) (hE.lo (hB42))) rfl ?_)
    rintro e w43 ⟨rfl, hk44⟩
    refine ⟨_, rfl, ?_⟩
    have hz45 := hk44.size
    have hB46 := hB42.lo hk44
    have hq47 : (appN v8 v9).1.Durable.length + (appN v8 v9).1.Pending.length ≤ v8.Durable.length + v8.Pending.length + 406 := appN_len v8 v9
    refine SR.q' (r_mv (v := .tuple (List.toArray _)) rfl) <| SR.q' (r_ext (v := .agg (List.toArray _)) rfl rfl) <| SR.q' (r_ext (v := .int .i64 _) rfl rfl) <| SR.alloc (l := [str ([] : List UInt8), str ([] : List UInt8), .int .i64 0]) tz31 rfl ?_
    intro g48 w49 hg50 hk51 hs52 hb53
    have hz54 := hk51.size
    have hB55 := hB46.lo hk51
    refine SR.store (o := 0) (vs := [str (((appN v8 v9).1).Durable), str (((appN v8 v9).1).Pending), .int .i64 (((appN v8 v9).1).Count)]) agg31.2 rfl rfl rfl rfl (hb53) (Nat.le_of_ble_eq_true rfl) rfl ?_
    intro w56 hk57 hs58 hb59
    have hz60 := hk57.size
    have hB61 := hB55.new hk57 (by omega)
    refine SR.q' (r_as (v := .int .i64 _) rfl) <| SR.nil ?_
    refine W.seq ?_
    have hm62 := ((((hb34).kp hk38 (fun e' => by have e'' : g15 = g23 := e'; omega)).lo hk44).lo hk51).kp hk57 (fun e' => by have e'' : g15 = g48 := e'; omega)
    have hm63 := (((hb40).lo hk44).lo hk51).kp hk57 (fun e' => by have e'' : g23 = g48 := e'; omega)
    refine W.regS (SR.q' (r_lda (l := [str v8.Durable, str v8.Pending, .int .i64 v8.Count]) agg31 rfl (fun _ _ hu => (hm62).cell hu) rfl) <| SR.q' (r_lda (l := [str v9.Command, str v9.Reply]) agg27 rfl (fun _ _ hu => (hm63).cell hu) rfl) <| SR.call ent28 (c_spec_AppendRecord w56 v8 v9 (by omega) (by first | omega | decide | (dsimp only; omega))) rfl ?_)
    rintro e w64 ⟨rfl, hk65⟩
    refine ⟨_, rfl, ?_⟩
    have hz66 := hk65.size
    have hB67 := hB61.lo hk65
    have hq68 : (appN v8 v9).1.Durable.length + (appN v8 v9).1.Pending.length ≤ v8.Durable.length + v8.Pending.length + 406 := appN_len v8 v9
    refine SR.q' (r_mv (v := .tuple (List.toArray _)) rfl) <| SR.q' (r_ext (v := .agg (List.toArray _)) rfl rfl) <| SR.q' (r_ext (v := .int .i64 _) rfl rfl) <| SR.alloc (l := [str ([] : List UInt8), str ([] : List UInt8), .int .i64 0]) tz31 rfl ?_
    intro g69 w70 hg71 hk72 hs73 hb74
    have hz75 := hk72.size
    have hB76 := hB67.lo hk72
    refine SR.store (o := 0) (vs := [str (((appN v8 v9).1).Durable), str (((appN v8 v9).1).Pending), .int .i64 (((appN v8 v9).1).Count)]) agg31.2 rfl rfl rfl rfl (hb74) (Nat.le_of_ble_eq_true rfl) rfl ?_
    intro w77 hk78 hs79 hb80
    have hz81 := hk78.size
    have hB82 := hB76.new hk78 (by omega)
    refine SR.q' (r_as (v := .int .i64 _) rfl) <| SR.nil ?_
    refine W.seq ?_
    refine W.seq ?_
    have hm83 := (((hm62).lo hk65).lo hk72).kp hk78 (fun e' => by have e'' : g15 = g69 := e'; omega)
    have hm84 := (((hm63).lo hk65).lo hk72).kp hk78 (fun e' => by have e'' : g23 = g69 := e'; omega)
    have hm85 := (((hb59).lo hk65).lo hk72).kp hk78 (fun e' => by have e'' : g48 = g69 := e'; omega)
    refine W.regD mo (by kernel_rfl) (QR.q' (fun w' hw' => r_lda (l := [str (((appN v8 v9).1).Durable), str (((appN v8 v9).1).Pending), .int .i64 (((appN v8 v9).1).Count)]) agg31 rfl (fun _ _ hu => ((hm85).lo hw').cell hu) rfl) <| QR.q' (fun w' hw' => r_lda (l := [str (((appN v8 v9).1).Durable), str (((appN v8 v9).1).Pending), .int .i64 (((appN v8 v9).1).Count)]) agg31 rfl (fun _ _ hu => ((hb80).lo hw').cell hu) rfl) <| QR.q' (fun w' hw' => r_neA_s (l := encLog ((appN v8 v9).1)) (r := encLog ((appN v8 v9).1)) rfl rfl eqg31 (eql31 ((appN v8 v9).1) ((appN v8 v9).1))) <| QR.q' (fun w' hw' => r_mv (v := .bool _) rfl) <| QR.g' rfl (fun w' hw' => r_mv (v := .int .i64 _) rfl) <| QR.g' rfl (fun w' hw' => r_mv (v := .int .i64 _) rfl) <| QR.g' rfl (fun w' hw' => r_ne_s rfl rfl) <| QR.q' (fun w' hw' => r_pick false rfl (v := .bool _) rfl) <| QR.q' (fun w' hw' => r_mv (v := .bool _) rfl) <| QR.g' rfl (fun w' hw' => r_lda (l := [str v8.Durable, str v8.Pending, .int .i64 v8.Count]) agg31 rfl (fun _ _ hu => ((hm83).lo hw').cell hu) rfl) <| QR.gcall rfl ent23 (fun w' hw' => (c_impl_IsValidLog w' v8 (by omega) (hE.lo (hB82.trans hw'))).mono fun _ _ h => ⟨h.1, hw'.trans h.2⟩) rfl <| QR.g' rfl (fun w' hw' => r_lda (l := [str v8.Durable, str v8.Pending, .int .i64 v8.Count]) agg31 rfl (fun _ _ hu => ((hm83).lo hw').cell hu) rfl) <| QR.gcall rfl ent21 (fun w' hw' => (c_spec_IsValidLog w' v8 (by omega)).mono fun _ _ h => ⟨h.1, hw'.trans h.2⟩) rfl <| QR.g' rfl (fun w' hw' => r_neb_s und4 rfl rfl) <| QR.q' (fun w' hw' => r_pick false rfl (v := .bool _) rfl) <| QR.q' (fun w' hw' => r_mv (v := .bool _) rfl) <| QR.g' rfl (fun w' hw' => r_lda (l := [str v9.Command, str v9.Reply]) agg27 rfl (fun _ _ hu => ((hm84).lo hw').cell hu) rfl) <| QR.gcall rfl ent39 (fun w' hw' => (c_impl_IsValidRecord w' v9 (hE.lo (hB82.trans hw'))).mono fun _ _ h => ⟨h.1, hw'.trans h.2⟩) rfl <| QR.g' rfl (fun w' hw' => r_lda (l := [str v9.Command, str v9.Reply]) agg27 rfl (fun _ _ hu => ((hm84).lo hw').cell hu) rfl) <| QR.gcall rfl ent40 (fun w' hw' => (c_spec_IsValidRecord w' v9 (by first | omega | (dsimp only; omega))).mono fun _ _ h => ⟨h.1, hw'.trans h.2⟩) rfl <| QR.g' rfl (fun w' hw' => r_neb_s und4 rfl rfl) <| QR.q' (fun w' hw' => r_pick false rfl (v := .bool _) rfl) <| QR.nil ?_)
    intro w86 hk87
    have hz88 := hk87.size
    have hB89 := hB82.lo hk87
    refine W.cond_f rfl ?_
    refine W.skip ?_
    refine W.seq ?_
    refine W.seq ?_
    refine W.regS (SR.q' (r_mv (v := .int .i64 _) rfl) <| SR.q' (r_ne rfl rfl) <| SR.nil ?_)
    refine W.cond_n rfl (fun h90 => ?_) (fun h90 => ?_)
    · refine W.seq ?_
      refine W.regS (SR.q' (r_lda (l := [str (((appN v8 v9).1).Durable), str (((appN v8 v9).1).Pending), .int .i64 (((appN v8 v9).1).Count)]) agg31 rfl (fun _ _ hu => ((hm85).lo hk87).cell hu) rfl) <| SR.q' (r_lda (l := [str v8.Durable, str v8.Pending, .int .i64 v8.Count]) agg31 rfl (fun _ _ hu => ((hm83).lo hk87).cell hu) rfl) <| SR.q' (r_eqA (l := encLog ((appN v8 v9).1)) (r := encLog v8) rfl rfl eqg31 (eql31 ((appN v8 v9).1) v8)) <| SR.q' (r_as (v := .bool _) rfl) <| SR.nil ?_)
      refine W.ret ?_
      refine ret1 rfl (v := .bool _) rfl ?_
      exact ⟨eR (eB (z_c_laws_FnLog_91 L nL hbdL hleL h5 v8 v9 hq10 hq11 hq14 hq47 hq68 h90)), hB89⟩
    · refine W.skip ?_
      refine W.seq ?_
      refine W.regS (SR.q' (r_lda (l := [str (((appN v8 v9).1).Durable), str (((appN v8 v9).1).Pending), .int .i64 (((appN v8 v9).1).Count)]) agg31 rfl (fun _ _ hu => ((hm85).lo hk87).cell hu) rfl) <| SR.call ent31 (c_impl_LogRecords w86 ((appN v8 v9).1) (by omega) (hE.lo (hB89))) rfl ?_)
      rintro e w92 ⟨A94, n95, c96, rfl, hO97, hk93⟩
      refine ⟨_, rfl, ?_⟩
      have hz98 := hk93.size
      have hB99 := hB89.lo hk93
      have hl100 := hO97.len
      have hl101 := hO97.rd.bound
      have hq102 := recs_len ((appN v8 v9).1)
      refine SR.q' (r_mv (v := .tuple (List.toArray _)) rfl) <| SR.q' (r_ext (v := .slice _ _ _) rfl rfl) <| SR.q' (r_ext (v := .bool _) rfl rfl) <| SR.q' (r_as (v := .slice _ _ _) rfl) <| SR.q' (r_as (v := .bool _) rfl) <| SR.nil ?_
      refine W.seq ?_
      have hm103 := ((hm83).lo hk87).lo hk93
      have hm104 := ((hm84).lo hk87).lo hk93
      have hm105 := ((hm85).lo hk87).lo hk93
      refine W.regS (SR.q' (r_lda (l := [str v8.Durable, str v8.Pending, .int .i64 v8.Count]) agg31 rfl (fun _ _ hu => (hm103).cell hu) rfl) <| SR.call ent31 (c_impl_LogRecords w92 v8 (by omega) (hE.lo (hB99))) rfl ?_)
      rintro e w106 ⟨A108, n109, c110, rfl, hO111, hk107⟩
      refine ⟨_, rfl, ?_⟩
      have hz112 := hk107.size
      have hB113 := hB99.lo hk107
      have hl114 := hO111.len
      have hl115 := hO111.rd.bound
      have hq116 := recs_len v8
      refine SR.q' (r_mv (v := .tuple (List.toArray _)) rfl) <| SR.q' (r_ext (v := .slice _ _ _) rfl rfl) <| SR.q' (r_ext (v := .bool _) rfl rfl) <| SR.q' (r_as (v := .slice _ _ _) rfl) <| SR.q' (r_as (v := .bool _) rfl) <| SR.nil ?_
      refine W.seq ?_
      refine W.regS (SR.q' (r_fa fa31_0 rfl) <| SR.q' (r_ld (v := str (((appN v8 v9).1).Durable)) sca9 rfl (((hm105).lo hk107).cell rfl)) <| SR.q' (r_fa fa31_1 rfl) <| SR.q' (r_ld (v := str (((appN v8 v9).1).Pending)) sca9 rfl (((hm105).lo hk107).cell rfl)) <| SR.q' (r_cat rfl rfl (by first | omega | (simp only [List.length_append, List.length_cons, List.length_nil, List.length_take, List.length_drop]; omega) | (simp only [List.length_append, List.length_cons, List.length_nil, List.length_take, List.length_drop] at *; omega))) <| SR.call ent18 (c_impl_RecoverLog w106 ((((appN v8 v9).1).Durable) ++ (((appN v8 v9).1).Pending)) (hE.lo (hB113))) rfl ?_)
      rintro e w117 ⟨rfl, hk118⟩
      refine ⟨_, rfl, ?_⟩
      have hz119 := hk118.size
      have hB120 := hB113.lo hk118
      have hq121 : (recovN ((((appN v8 v9).1).Durable) ++ (((appN v8 v9).1).Pending))).1.Durable.length + (recovN ((((appN v8 v9).1).Durable) ++ (((appN v8 v9).1).Pending))).1.Pending.length ≤ 30000 := recov_len ((((appN v8 v9).1).Durable) ++ (((appN v8 v9).1).Pending))
      refine SR.q' (r_mv (v := .tuple (List.toArray _)) rfl) <| SR.q' (r_ext (v := .agg (List.toArray _)) rfl rfl) <| SR.q' (r_ext (v := .int .i64 _) rfl rfl) <| SR.q' (r_ext (v := .bool _) rfl rfl) <| SR.alloc (l := [str ([] : List UInt8), str ([] : List UInt8), .int .i64 0]) tz31 rfl ?_
      intro g122 w123 hg124 hk125 hs126 hb127
      have hz128 := hk125.size
      have hB129 := hB120.lo hk125
      have hd130 : ¬ A94 = some ⟨g122, 0, none⟩ := fun e' => by have := (((hO97).lo hk107).lo hk118).base_le e'; omega
      have hd131 : ¬ A108 = some ⟨g122, 0, none⟩ := fun e' => by have := ((hO111).lo hk118).base_le e'; omega
      refine SR.store (o := 0) (vs := [str (((recovN ((((appN v8 v9).1).Durable) ++ (((appN v8 v9).1).Pending))).1).Durable), str (((recovN ((((appN v8 v9).1).Durable) ++ (((appN v8 v9).1).Pending))).1).Pending), .int .i64 (((recovN ((((appN v8 v9).1).Durable) ++ (((appN v8 v9).1).Pending))).1).Count)]) agg31.2 rfl rfl rfl rfl (hb127) (Nat.le_of_ble_eq_true rfl) rfl ?_
      intro w132 hk133 hs134 hb135
      have hz136 := hk133.size
      have hB137 := hB129.new hk133 (by omega)
      refine SR.q' (r_as (v := .int .i64 _) rfl) <| SR.q' (r_as (v := .bool _) rfl) <| SR.nil ?_
      refine W.seq ?_
      have hm138 := ((((hm104).lo hk107).lo hk118).lo hk125).kp hk133 (fun e' => by have e'' : g23 = g122 := e'; omega)
      have hm139 := ((((hm105).lo hk107).lo hk118).lo hk125).kp hk133 (fun e' => by have e'' : g48 = g122 := e'; omega)
      have hm140 := ((((hO97).lo hk107).lo hk118).lo hk125).kp hk133 (fun b_ hb e' => hd130 (by have e'' : b_ = g122 := e'; rw [← e'']; exact hb))
      have hm141 := (((hO111).lo hk118).lo hk125).kp hk133 (fun b_ hb e' => hd131 (by have e'' : b_ = g122 := e'; rw [← e'']; exact hb))
      refine W.regS (SR.q' (r_lda (l := [str (((appN v8 v9).1).Durable), str (((appN v8 v9).1).Pending), .int .i64 (((appN v8 v9).1).Count)]) agg31 rfl (fun _ _ hu => (hm139).cell hu) rfl) <| SR.call ent27 (c_impl_SyncLog w132 ((appN v8 v9).1) (by omega) (hE.lo (hB137))) rfl ?_)
      rintro e w142 ⟨rfl, hk143⟩
      refine ⟨_, rfl, ?_⟩
      have hz144 := hk143.size
      have hB145 := hB137.lo hk143
      refine SR.q' (r_mv (v := .tuple (List.toArray _)) rfl) <| SR.q' (r_ext (v := .agg (List.toArray _)) rfl rfl) <| SR.q' (r_ext (v := .bool _) rfl rfl) <| SR.alloc (l := [str ([] : List UInt8), str ([] : List UInt8), .int .i64 0]) tz31 rfl ?_
      intro g146 w147 hg148 hk149 hs150 hb151
      have hz152 := hk149.size
      have hB153 := hB145.lo hk149
      have hd154 : ¬ A94 = some ⟨g146, 0, none⟩ := fun e' => by have := ((hm140).lo hk143).base_le e'; omega
      have hd155 : ¬ A108 = some ⟨g146, 0, none⟩ := fun e' => by have := ((hm141).lo hk143).base_le e'; omega
      refine SR.store (o := 0) (vs := [str (((syncN ((appN v8 v9).1)).1).Durable), str (((syncN ((appN v8 v9).1)).1).Pending), .int .i64 (((syncN ((appN v8 v9).1)).1).Count)]) agg31.2 rfl rfl rfl rfl (hb151) (Nat.le_of_ble_eq_true rfl) rfl ?_
      intro w156 hk157 hs158 hb159
      have hz160 := hk157.size
      have hB161 := hB153.new hk157 (by omega)
      refine SR.q' (r_as (v := .bool _) rfl) <| SR.nil ?_
      refine W.seq ?_
      refine W.seq ?_
      have hm162 := (((hm138).lo hk143).lo hk149).kp hk157 (fun e' => by have e'' : g23 = g146 := e'; omega)
      have hm163 := (((hm139).lo hk143).lo hk149).kp hk157 (fun e' => by have e'' : g48 = g146 := e'; omega)
      have hm164 := (((hm140).lo hk143).lo hk149).kp hk157 (fun b_ hb e' => hd154 (by have e'' : b_ = g146 := e'; rw [← e'']; exact hb))
      have hm165 := (((hm141).lo hk143).lo hk149).kp hk157 (fun b_ hb e' => hd155 (by have e'' : b_ = g146 := e'; rw [← e'']; exact hb))
      have hm166 := (((hb135).lo hk143).lo hk149).kp hk157 (fun e' => by have e'' : g122 = g146 := e'; omega)
      refine W.regJS (fun f' w' => At f' [(2, .bool false), (4, .pointer (some ((⟨g23, 0, none⟩ : Addr)))), (5, .pointer (some ((⟨g48, 0, none⟩ : Addr)))), (9, .slice A94 n95 c96), (11, .slice A108 n109 c110), (13, .pointer (some ((⟨g122, 0, none⟩ : Addr)))), (14, .int .i64 ((recovN ((((appN v8 v9).1).Durable) ++ (((appN v8 v9).1).Pending))).2.1)), (15, .bool ((recovN ((((appN v8 v9).1).Durable) ++ (((appN v8 v9).1).Pending))).2.2)), (16, .pointer (some ((⟨g146, 0, none⟩ : Addr)))), (17, .bool ((syncN ((appN v8 v9).1)).2)), (106, .bool (decide (((!((recsN ((appN v8 v9).1)).2)) = true) ∨ ((¬ ((n95 : Int) = ((n109 : Int) + 1))) ∨ (¬ ((((appN v8 v9).1).Count) = (n95 : Int)))))))] ∧ Lo w156 w') ?_ ?_
      · refine SR.q' (r_mv (v := .bool _) rfl) <| SR.q' (r_not rfl) <| SR.q' (r_mv (v := .bool _) rfl) <| SR.split (fun h167 => ?_) (fun h167 => ?_)
        · refine SR.s' rfl <| SR.s' rfl <| SR.s' rfl <| SR.s' rfl <| SR.s' rfl <| SR.s' rfl <| SR.q' (r_pick true rfl (v := .bool true) rfl) <| SR.q' (r_mv (v := .bool _) rfl) <| SR.s' rfl <| SR.s' rfl <| SR.s' rfl <| SR.s' rfl <| SR.s' rfl <| SR.q' (r_pick true rfl (v := .bool true) rfl) <| SR.nil ?_
          exact ⟨_, rfl, ⟨⟨rfl, rfl, rfl, rfl, rfl, rfl, rfl, rfl, rfl, rfl, (eDT ((jot h167).1 trivial)), trivial⟩, (Lo.refl _)⟩⟩
        · refine SR.g' rfl (r_mv (v := .slice _ _ _) rfl) <| SR.g' rfl (r_len und48 rfl) <| SR.g' rfl (r_mv (v := .slice _ _ _) rfl) <| SR.g' rfl (r_len und48 rfl) <| SR.g' rfl (r_add rfl rfl (by omega)) <| SR.g' rfl (r_ne rfl rfl) <| SR.q' (r_pick false rfl (v := .bool _) rfl) <| SR.q' (r_mv (v := .bool _) rfl) <| SR.splitN (fun h168 => ?_) (fun h168 => ?_)
          · refine SR.s' rfl <| SR.s' rfl <| SR.s' rfl <| SR.s' rfl <| SR.s' rfl <| SR.q' (r_pick true rfl (v := .bool true) rfl) <| SR.nil ?_
            exact ⟨_, rfl, ⟨⟨rfl, rfl, rfl, rfl, rfl, rfl, rfl, rfl, rfl, rfl, (eDT (((jmf h168).trans (jof (ne_true_of_eq_false h167))).1 trivial)), trivial⟩, (Lo.refl _)⟩⟩
          · refine SR.g' rfl (r_fa fa31_2 rfl) <| SR.g' rfl (r_ld (v := .int .i64 (((appN v8 v9).1).Count)) sca3 rfl ((hm163).cell rfl)) <| SR.g' rfl (r_mv (v := .slice _ _ _) rfl) <| SR.g' rfl (r_len und48 rfl) <| SR.g' rfl (r_ne rfl rfl) <| SR.q' (r_pick false rfl (v := .bool _) rfl) <| SR.nil ?_
            exact ⟨_, rfl, ⟨⟨rfl, rfl, rfl, rfl, rfl, rfl, rfl, rfl, rfl, rfl, (eND ((jmt h168).trans (jof (ne_true_of_eq_false h167)))), trivial⟩, (Lo.refl _)⟩⟩
      rintro f169 w170 ⟨hat171, hk172⟩
      rw [← sets_of_at hat171]
      have hz173 := hk172.size
      have hB174 := hB161.lo hk172
      refine W.cond_d rfl (fun h175 => ?_) (fun h175 => ?_)
      · refine W.seq ?_
        refine W.regS (SR.q' (r_as (v := .bool false) rfl) <| SR.nil ?_)
        refine W.ret ?_
        refine ret1 rfl (v := .bool _) rfl ?_
        exact ⟨eR (eB (z_c_laws_FnLog_176 L nL hbdL hleL h5 v8 v9 hq10 hq11 hq14 hq47 hq68 h90 n95 hl100 hl101 hq102 n109 hl114 hl115 hq116 hq121 h175)), hB174⟩
      · have hq177 : ¬ ((!((recsN ((appN v8 v9).1)).2)) = true) := (not_or.1 h175).1
        have hq178 : (n95 : Int) = ((n109 : Int) + 1) := (Classical.not_not.1 (not_or.1 (not_or.1 h175).2).1)
        have hq179 : (((appN v8 v9).1).Count) = (n95 : Int) := (Classical.not_not.1 (not_or.1 (not_or.1 h175).2).2)
        refine W.skip ?_
        refine W.seq ?_
        refine W.seq ?_
        refine W.regS (SR.q' (r_as (v := .int .i64 0) rfl) <| SR.nil ?_)
        refine W.block ?_
        refine W.loop (σ := Nat) (fun g => [(4, .pointer (some ((⟨g23, 0, none⟩ : Addr)))), (5, .pointer (some ((⟨g48, 0, none⟩ : Addr)))), (9, .slice A94 n95 c96), (11, .slice A108 n109 c110), (13, .pointer (some ((⟨g122, 0, none⟩ : Addr)))), (14, .int .i64 ((recovN ((((appN v8 v9).1).Durable) ++ (((appN v8 v9).1).Pending))).2.1)), (15, .bool ((recovN ((((appN v8 v9).1).Durable) ++ (((appN v8 v9).1).Pending))).2.2)), (16, .pointer (some ((⟨g146, 0, none⟩ : Addr)))), (17, .bool ((syncN ((appN v8 v9).1)).2)), (18, .int .i64 (g : Int))]) (fun g w' => (Lo w w') ∧ (Blk w' g23 27 [str v9.Command, str v9.Reply]) ∧ (Blk w' g48 31 [str (((appN v8 v9).1).Durable), str (((appN v8 v9).1).Pending), .int .i64 (((appN v8 v9).1).Count)]) ∧ (SlO w' w86.heap.size encLogRecord 2 27 A94 n95 c96 ((recsN ((appN v8 v9).1)).1)) ∧ (SlO w' w92.heap.size encLogRecord 2 27 A108 n109 c110 ((recsN v8).1)) ∧ (Blk w' g122 31 [str (((recovN ((((appN v8 v9).1).Durable) ++ (((appN v8 v9).1).Pending))).1).Durable), str (((recovN ((((appN v8 v9).1).Durable) ++ (((appN v8 v9).1).Pending))).1).Pending), .int .i64 (((recovN ((((appN v8 v9).1).Durable) ++ (((appN v8 v9).1).Pending))).1).Count)]) ∧ (Blk w' g146 31 [str (((syncN ((appN v8 v9).1)).1).Durable), str (((syncN ((appN v8 v9).1)).1).Pending), .int .i64 (((syncN ((appN v8 v9).1)).1).Count)]) ∧ (g ≤ 60)) (fun g => 100 - g) 0 ?_ ?_ ?_
        · exact ⟨rfl, rfl, rfl, rfl, rfl, rfl, rfl, rfl, rfl, (eI (by first | omega | (dsimp only; omega))), trivial⟩
        · exact ⟨hB174, (hm162).lo hk172, (hm163).lo hk172, (hm164).lo hk172, (hm165).lo hk172, (hm166).lo hk172, (hb159).lo hk172, (z_c_laws_FnLog_180 L nL hbdL hleL h5 v8 v9 hq10 hq11 hq14 hq47 hq68 h90 n95 hl100 hl101 hq102 n109 hl114 hl115 hq116 hq121 h175 hq177 hq178 hq179)⟩
        · rintro i f181 w182 hP184
          obtain ⟨hB183, hm185, hm186, hm187, hm188, hm189, hm190, hi191⟩ : (Lo w w182) ∧ (Blk w182 g23 27 [str v9.Command, str v9.Reply]) ∧ (Blk w182 g48 31 [str (((appN v8 v9).1).Durable), str (((appN v8 v9).1).Pending), .int .i64 (((appN v8 v9).1).Count)]) ∧ (SlO w182 w86.heap.size encLogRecord 2 27 A94 n95 c96 ((recsN ((appN v8 v9).1)).1)) ∧ (SlO w182 w92.heap.size encLogRecord 2 27 A108 n109 c110 ((recsN v8).1)) ∧ (Blk w182 g122 31 [str (((recovN ((((appN v8 v9).1).Durable) ++ (((appN v8 v9).1).Pending))).1).Durable), str (((recovN ((((appN v8 v9).1).Durable) ++ (((appN v8 v9).1).Pending))).1).Pending), .int .i64 (((recovN ((((appN v8 v9).1).Durable) ++ (((appN v8 v9).1).Pending))).1).Count)]) ∧ (Blk w182 g146 31 [str (((syncN ((appN v8 v9).1)).1).Durable), str (((syncN ((appN v8 v9).1)).1).Pending), .int .i64 (((syncN ((appN v8 v9).1)).1).Count)]) ∧ (i ≤ 60) := hP184
          refine (?_ : W _ _ _ _ _ (act _ (sets f181 [(4, .pointer (some ((⟨g23, 0, none⟩ : Addr)))), (5, .pointer (some ((⟨g48, 0, none⟩ : Addr)))), (9, .slice A94 n95 c96), (11, .slice A108 n109 c110), (13, .pointer (some ((⟨g122, 0, none⟩ : Addr)))), (14, .int .i64 ((recovN ((((appN v8 v9).1).Durable) ++ (((appN v8 v9).1).Pending))).2.1)), (15, .bool ((recovN ((((appN v8 v9).1).Durable) ++ (((appN v8 v9).1).Pending))).2.2)), (16, .pointer (some ((⟨g146, 0, none⟩ : Addr)))), (17, .bool ((syncN ((appN v8 v9).1)).2)), (18, .int .i64 (i : Int))])) _)
          have hzw182 := hB183.size
          have hl192 := hm185.lt
          have hl193 := hm186.lt
          have hl194 := hm189.lt
          have hl195 := hm190.lt
          refine W.seq ?_
          refine W.seq ?_
          refine W.regS (SR.q' (r_mv (v := .int .i64 _) rfl) <| SR.q' (r_mv (v := .slice _ _ _) rfl) <| SR.q' (r_len und48 rfl) <| SR.q' (r_lt rfl rfl) <| SR.nil ?_)
          refine W.cond_d rfl (fun h196 => ?_) (fun h196 => ?_)
          · refine W.skip ?_
            refine W.seq ?_
            refine W.block ?_
            refine W.seq ?_
            refine W.regD mo (by kernel_rfl) (QR.q' (fun w' hw' => r_mv (v := .slice _ _ _) rfl) <| QR.q' (fun w' hw' => r_mv (v := .int .i64 _) rfl) <| ?_)
            have hx198 := ((hm187).rd).elem (i := i) (by omega)
            refine QR.q' (fun w' hw' => r_ixR tsl48 (((hm187).lo hw').rd) rfl rfl (by omega)) <| QR.q' (fun w' hw' => r_lda (l := encLogRecord (gt ((recsN ((appN v8 v9).1)).1) i)) agg27 rfl (fun _ _ hu => (((hm187).lo hw').rd).cell hx198 hu) ((((hm187).lo hw').rd).esz _)) <| QR.q' (fun w' hw' => r_mv (v := .slice _ _ _) rfl) <| QR.q' (fun w' hw' => r_mv (v := .int .i64 _) rfl) <| ?_
            have hx200 := ((hm188).rd).elem (i := i) (by omega)
            refine QR.q' (fun w' hw' => r_ixR tsl48 (((hm188).lo hw').rd) rfl rfl (by omega)) <| QR.q' (fun w' hw' => r_lda (l := encLogRecord (gt ((recsN v8).1) i)) agg27 rfl (fun _ _ hu => (((hm188).lo hw').rd).cell hx200 hu) ((((hm188).lo hw').rd).esz _)) <| QR.q' (fun w' hw' => r_neA (l := encLogRecord (gt ((recsN ((appN v8 v9).1)).1) i)) (r := encLogRecord (gt ((recsN v8).1) i)) rfl rfl eqg27 (eql27 (gt ((recsN ((appN v8 v9).1)).1) i) (gt ((recsN v8).1) i))) <| QR.nil ?_
            intro w201 hk202
            have hz203 := hk202.size
            have hB204 := hB183.lo hk202
            refine W.cond_n rfl (fun h205 => ?_) (fun h205 => ?_)
            · refine W.seq ?_
              refine W.regS (SR.q' (r_as (v := .bool false) rfl) <| SR.nil ?_)
              refine W.ret ?_
              refine ret1 rfl (v := .bool _) rfl ?_
              exact ⟨eR (eB (z_c_laws_FnLog_206 L nL hbdL hleL h5 v8 v9 hq10 hq11 hq14 hq47 hq68 h90 n95 hl100 hl101 hq102 n109 hl114 hl115 hq116 hq121 h175 hq177 hq178 hq179 i hi191 h196 hx198 hx200 h205)), hB204⟩
            · refine W.skip ?_
              refine W.regS (SR.q' (r_mv (v := .int .i64 _) rfl) <| SR.q' (r_add rfl rfl (by omega)) <| SR.q' (r_as (v := .int .i64 _) rfl) <| SR.nil ?_)
              refine ⟨i + 1, _, rfl, ⟨rfl, rfl, rfl, rfl, rfl, rfl, rfl, rfl, rfl, (eI (by first | omega | (dsimp only; omega))), trivial⟩, ⟨hB204, (hm185).lo hk202, (hm186).lo hk202, (hm187).lo hk202, (hm188).lo hk202, (hm189).lo hk202, (hm190).lo hk202, ?_⟩, ?_⟩
              · exact (z_c_laws_FnLog_207 L nL hbdL hleL h5 v8 v9 hq10 hq11 hq14 hq47 hq68 h90 n95 hl100 hl101 hq102 n109 hl114 hl115 hq116 hq121 h175 hq177 hq178 hq179 i hi191 h196 hx198 hx200 h205)
              · exact (z_c_laws_FnLog_208 L nL hbdL hleL h5 v8 v9 hq10 hq11 hq14 hq47 hq68 h90 n95 hl100 hl101 hq102 n109 hl114 hl115 hq116 hq121 h175 hq177 hq178 hq179 i hi191 h196 hx198 hx200 h205)
          · refine W.exit (xin_here ?_)
            refine W.seq ?_
            refine W.regJD mo (by kernel_rfl) (fun f' w' => At f' [(2, .bool (decide (((gt ((recsN ((appN v8 v9).1)).1) n109) = v9) ∧ ((((recovN ((((appN v8 v9).1).Durable) ++ (((appN v8 v9).1).Pending))).2.2) = true) ∧ ((((recovN ((((appN v8 v9).1).Durable) ++ (((appN v8 v9).1).Pending))).2.1) = (((((appN v8 v9).1).Durable) ++ (((appN v8 v9).1).Pending)).length : Int)) ∧ ((((syncN ((appN v8 v9).1)).2) = true) ∧ ((((syncN ((appN v8 v9).1)).1) = ((recovN ((((appN v8 v9).1).Durable) ++ (((appN v8 v9).1).Pending))).1)) ∧ (LogOK ((appN v8 v9).1)))))))))] ∧ Lo w182 w' ∧ (((recsN ((appN v8 v9).1)).1)[n109]? = some (gt ((recsN ((appN v8 v9).1)).1) n109))) ?_ ?_
            · refine QR.q' (fun w' hw' => r_mv (v := .slice _ _ _) rfl) <| QR.q' (fun w' hw' => r_mv (v := .slice _ _ _) rfl) <| QR.q' (fun w' hw' => r_len und48 rfl) <| ?_
              have hx210 := ((hm187).rd).elem (i := n109) (by omega)
              refine QR.q' (fun w' hw' => r_ixR tsl48 (((hm187).lo hw').rd) rfl rfl (by omega)) <| QR.q' (fun w' hw' => r_lda (l := encLogRecord (gt ((recsN ((appN v8 v9).1)).1) n109)) agg27 rfl (fun _ _ hu => (((hm187).lo hw').rd).cell hx210 hu) ((((hm187).lo hw').rd).esz _)) <| QR.q' (fun w' hw' => r_lda (l := [str v9.Command, str v9.Reply]) agg27 rfl (fun _ _ hu => ((hm185).lo hw').cell hu) rfl) <| QR.q' (fun w' hw' => r_eqA (l := encLogRecord (gt ((recsN ((appN v8 v9).1)).1) n109)) (r := encLogRecord v9) rfl rfl eqg27 (eql27 (gt ((recsN ((appN v8 v9).1)).1) n109) v9)) <| QR.q' (fun w' hw' => r_mv (v := .bool _) rfl) <| QR.splitD (fun h211 => ?_) (fun h211 => ?_)
              · refine QR.g' rfl (fun w' hw' => r_mv (v := .bool _) rfl) <| QR.q' (fun w' hw' => r_pick true rfl (v := .bool _) rfl) <| QR.q' (fun w' hw' => r_mv (v := .bool _) rfl) <| QR.split (fun h212 => ?_) (fun h212 => ?_)
                · refine QR.g' rfl (fun w' hw' => r_mv (v := .int .i64 _) rfl) <| QR.g' rfl (fun w' hw' => r_fa fa31_0 rfl) <| QR.g' rfl (fun w' hw' => r_ld (v := str (((appN v8 v9).1).Durable)) sca9 rfl (((hm186).lo hw').cell rfl)) <| QR.g' rfl (fun w' hw' => r_fa fa31_1 rfl) <| QR.g' rfl (fun w' hw' => r_ld (v := str (((appN v8 v9).1).Pending)) sca9 rfl (((hm186).lo hw').cell rfl)) <| QR.g' rfl (fun w' hw' => r_cat rfl rfl (by first | omega | (simp only [List.length_append, List.length_cons, List.length_nil, List.length_take, List.length_drop]; omega) | (simp only [List.length_append, List.length_cons, List.length_nil, List.length_take, List.length_drop] at *; omega))) <| QR.g' rfl (fun w' hw' => r_len_s und9 rfl) <| QR.g' rfl (fun w' hw' => r_eq rfl rfl) <| QR.q' (fun w' hw' => r_pick true rfl (v := .bool _) rfl) <| QR.q' (fun w' hw' => r_mv (v := .bool _) rfl) <| QR.splitD (fun h213 => ?_) (fun h213 => ?_)
                  · refine QR.g' rfl (fun w' hw' => r_mv (v := .bool _) rfl) <| QR.q' (fun w' hw' => r_pick true rfl (v := .bool _) rfl) <| QR.q' (fun w' hw' => r_mv (v := .bool _) rfl) <| QR.split (fun h214 => ?_) (fun h214 => ?_)
                    · refine QR.g' rfl (fun w' hw' => r_lda (l := [str (((syncN ((appN v8 v9).1)).1).Durable), str (((syncN ((appN v8 v9).1)).1).Pending), .int .i64 (((syncN ((appN v8 v9).1)).1).Count)]) agg31 rfl (fun _ _ hu => ((hm190).lo hw').cell hu) rfl) <| QR.g' rfl (fun w' hw' => r_lda (l := [str (((recovN ((((appN v8 v9).1).Durable) ++ (((appN v8 v9).1).Pending))).1).Durable), str (((recovN ((((appN v8 v9).1).Durable) ++ (((appN v8 v9).1).Pending))).1).Pending), .int .i64 (((recovN ((((appN v8 v9).1).Durable) ++ (((appN v8 v9).1).Pending))).1).Count)]) agg31 rfl (fun _ _ hu => ((hm189).lo hw').cell hu) rfl) <| QR.g' rfl (fun w' hw' => r_eqA (l := encLog ((syncN ((appN v8 v9).1)).1)) (r := encLog ((recovN ((((appN v8 v9).1).Durable) ++ (((appN v8 v9).1).Pending))).1)) rfl rfl eqg31 (eql31 ((syncN ((appN v8 v9).1)).1) ((recovN ((((appN v8 v9).1).Durable) ++ (((appN v8 v9).1).Pending))).1))) <| QR.q' (fun w' hw' => r_pick true rfl (v := .bool _) rfl) <| QR.q' (fun w' hw' => r_mv (v := .bool _) rfl) <| QR.splitD (fun h215 => ?_) (fun h215 => ?_)
                      · refine QR.g' rfl (fun w' hw' => r_lda (l := [str (((appN v8 v9).1).Durable), str (((appN v8 v9).1).Pending), .int .i64 (((appN v8 v9).1).Count)]) agg31 rfl (fun _ _ hu => ((hm186).lo hw').cell hu) rfl) <| QR.gcall rfl ent23 (fun w' hw' => (c_impl_IsValidLog w' ((appN v8 v9).1) (by omega) (hE.lo (hB183.trans hw'))).mono fun _ _ h => ⟨h.1, hw'.trans h.2⟩) rfl <| QR.q' (fun w' hw' => r_pick true rfl (v := .bool _) rfl) <| QR.q' (fun w' hw' => r_as (v := .bool _) rfl) <| QR.nil ?_
                        intro w216 hk217
                        exact ⟨⟨(eDD (((((jat h215).trans (jat h214)).trans (jat h213)).trans (jat h212)).trans (jat h211))), trivial⟩, hk217, hx210⟩
                      · refine QR.s' rfl <| QR.s' rfl <| QR.q' (fun w' hw' => r_pick false rfl (v := .bool false) rfl) <| QR.q' (fun w' hw' => r_as (v := .bool _) rfl) <| QR.nil ?_
                        intro w218 hk219
                        exact ⟨⟨(eDF (((((jaf h215).trans (jat h214)).trans (jat h213)).trans (jat h212)).trans (jat h211)).2), trivial⟩, hk219, hx210⟩
                    · refine QR.s' rfl <| QR.s' rfl <| QR.s' rfl <| QR.q' (fun w' hw' => r_pick false rfl (v := .bool false) rfl) <| QR.q' (fun w' hw' => r_mv (v := .bool _) rfl) <| QR.s' rfl <| QR.s' rfl <| QR.q' (fun w' hw' => r_pick false rfl (v := .bool false) rfl) <| QR.q' (fun w' hw' => r_as (v := .bool _) rfl) <| QR.nil ?_
                      intro w220 hk221
                      exact ⟨⟨(eDF ((((jaf (ne_true_of_eq_false h214)).trans (jat h213)).trans (jat h212)).trans (jat h211)).2), trivial⟩, hk221, hx210⟩
                  · refine QR.s' rfl <| QR.q' (fun w' hw' => r_pick false rfl (v := .bool false) rfl) <| QR.q' (fun w' hw' => r_mv (v := .bool _) rfl) <| QR.s' rfl <| QR.s' rfl <| QR.s' rfl <| QR.q' (fun w' hw' => r_pick false rfl (v := .bool false) rfl) <| QR.q' (fun w' hw' => r_mv (v := .bool _) rfl) <| QR.s' rfl <| QR.s' rfl <| QR.q' (fun w' hw' => r_pick false rfl (v := .bool false) rfl) <| QR.q' (fun w' hw' => r_as (v := .bool _) rfl) <| QR.nil ?_
                    intro w222 hk223
                    exact ⟨⟨(eDF (((jaf h213).trans (jat h212)).trans (jat h211)).2), trivial⟩, hk223, hx210⟩
                · refine QR.s' rfl <| QR.s' rfl <| QR.s' rfl <| QR.s' rfl <| QR.s' rfl <| QR.s' rfl <| QR.s' rfl <| QR.s' rfl <| QR.q' (fun w' hw' => r_pick false rfl (v := .bool false) rfl) <| QR.q' (fun w' hw' => r_mv (v := .bool _) rfl) <| QR.s' rfl <| QR.q' (fun w' hw' => r_pick false rfl (v := .bool false) rfl) <| QR.q' (fun w' hw' => r_mv (v := .bool _) rfl) <| QR.s' rfl <| QR.s' rfl <| QR.s' rfl <| QR.q' (fun w' hw' => r_pick false rfl (v := .bool false) rfl) <| QR.q' (fun w' hw' => r_mv (v := .bool _) rfl) <| QR.s' rfl <| QR.s' rfl <| QR.q' (fun w' hw' => r_pick false rfl (v := .bool false) rfl) <| QR.q' (fun w' hw' => r_as (v := .bool _) rfl) <| QR.nil ?_
                  intro w224 hk225
                  exact ⟨⟨(eDF ((jaf (ne_true_of_eq_false h212)).trans (jat h211)).2), trivial⟩, hk225, hx210⟩
              · refine QR.s' rfl <| QR.q' (fun w' hw' => r_pick false rfl (v := .bool false) rfl) <| QR.q' (fun w' hw' => r_mv (v := .bool _) rfl) <| QR.s' rfl <| QR.s' rfl <| QR.s' rfl <| QR.s' rfl <| QR.s' rfl <| QR.s' rfl <| QR.s' rfl <| QR.s' rfl <| QR.q' (fun w' hw' => r_pick false rfl (v := .bool false) rfl) <| QR.q' (fun w' hw' => r_mv (v := .bool _) rfl) <| QR.s' rfl <| QR.q' (fun w' hw' => r_pick false rfl (v := .bool false) rfl) <| QR.q' (fun w' hw' => r_mv (v := .bool _) rfl) <| QR.s' rfl <| QR.s' rfl <| QR.s' rfl <| QR.q' (fun w' hw' => r_pick false rfl (v := .bool false) rfl) <| QR.q' (fun w' hw' => r_mv (v := .bool _) rfl) <| QR.s' rfl <| QR.s' rfl <| QR.q' (fun w' hw' => r_pick false rfl (v := .bool false) rfl) <| QR.q' (fun w' hw' => r_as (v := .bool _) rfl) <| QR.nil ?_
                intro w226 hk227
                exact ⟨⟨(eDF (jaf h211).2), trivial⟩, hk227, hx210⟩
            rintro f228 w229 ⟨hat230, hk231, hq232⟩
            rw [← sets_of_at hat230]
            have hz233 := hk231.size
            have hB234 := hB183.lo hk231
            refine W.ret ?_
            refine ret1 rfl (v := .bool _) rfl ?_
            exact ⟨eR (eB (z_c_laws_FnLog_235 L nL hbdL hleL h5 v8 v9 hq10 hq11 hq14 hq47 hq68 h90 n95 hl100 hl101 hq102 n109 hl114 hl115 hq116 hq121 h175 hq177 hq178 hq179 i hi191 h196 hq232)), hB234⟩
end Go.Proofs.YthlbmkpkgiabnaaDoor
