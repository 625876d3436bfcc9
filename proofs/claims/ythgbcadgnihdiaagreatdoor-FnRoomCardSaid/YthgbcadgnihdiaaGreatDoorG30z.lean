/- Walks, printed by a program of this claim's author. -/
import Derived.Test.YthgbcadgnihdiaaGreatDoorChecked
import Derived.Test.YthgbcadgnihdiaaGreatDoorRa
import Derived.Test.YthgbcadgnihdiaaGreatDoorFu
import Derived.Test.YthgbcadgnihdiaaGreatDoorFo
import Derived.Test.YthgbcadgnihdiaaGreatDoorFp
import Derived.Test.YthgbcadgnihdiaaGreatDoorFt
import Derived.Test.YthgbcadgnihdiaaGreatDoorG30c
namespace Go.Proofs.YthgbcadgnihdiaaGreatDoor
open Go Go.RowKit Fw
set_option maxRecDepth 10000
set_option linter.unusedVariables false
theorem ent10 : Ent Tryz.prog 10 := ent_of Tryz.func10 (by decide +kernel) rfl
theorem ent11 : Ent Tryz.prog 11 := ent_of Tryz.func11 (by decide +kernel) rfl
theorem ent12 : Ent Tryz.prog 12 := ent_of Tryz.func12 (by decide +kernel) rfl
theorem ent13 : Ent Tryz.prog 13 := ent_of Tryz.func13 (by decide +kernel) rfl
theorem ent14 : Ent Tryz.prog 14 := ent_of Tryz.func14 (by decide +kernel) rfl
theorem ent15 : Ent Tryz.prog 15 := ent_of Tryz.func15 (by decide +kernel) rfl
theorem ent16 : Ent Tryz.prog 16 := ent_of Tryz.func16 (by decide +kernel) rfl
theorem ent17 : Ent Tryz.prog 17 := ent_of Tryz.func17 (by decide +kernel) rfl
theorem ent18 : Ent Tryz.prog 18 := ent_of Tryz.func18 (by decide +kernel) rfl
theorem ent19 : Ent Tryz.prog 19 := ent_of Tryz.func19 (by decide +kernel) rfl
theorem ent20 : Ent Tryz.prog 20 := ent_of Tryz.func20 (by decide +kernel) rfl
theorem ent21 : Ent Tryz.prog 21 := ent_of Tryz.func21 (by decide +kernel) rfl
theorem ent22 : Ent Tryz.prog 22 := ent_of Tryz.func22 (by decide +kernel) rfl
theorem ent23 : Ent Tryz.prog 23 := ent_of Tryz.func23 (by decide +kernel) rfl
theorem ent24 : Ent Tryz.prog 24 := ent_of Tryz.func24 (by decide +kernel) rfl
theorem ent25 : Ent Tryz.prog 25 := ent_of Tryz.func25 (by decide +kernel) rfl
theorem ent26 : Ent Tryz.prog 26 := ent_of Tryz.func26 (by decide +kernel) rfl
theorem ent4 : Ent Tryz.prog 4 := ent_of Tryz.func4 (by decide +kernel) rfl
theorem ent5 : Ent Tryz.prog 5 := ent_of Tryz.func5 (by decide +kernel) rfl
theorem ent6 : Ent Tryz.prog 6 := ent_of Tryz.func6 (by decide +kernel) rfl
theorem ent8 : Ent Tryz.prog 8 := ent_of Tryz.func8 (by decide +kernel) rfl
theorem ent9 : Ent Tryz.prog 9 := ent_of Tryz.func9 (by decide +kernel) rfl
theorem und4 : Tryz.prog.underlying 4 = some (.bool) := by kernel_rfl

theorem z_c_laws_FnRoom_52 (C : List UInt8) (nC : Nat) (hbdC : (nC : Int) ≤ 9223372036854775807) (hleC : nC = C.length) (h5 : ¬ (65536 < (C.length : Int))) (v12 : List Visit) (v13 : Int) (hq14 : VsB v12) (hq15 : v12.length ≤ 60) (n9 : Nat) (hl18 : n9 = (v12).length) (hl19 : (n9 : Int) ≤ 9223372036854775807) (hq20 : FuLaw v12 v13) (n25 : Nat) (hl30 : n25 = (satL v12 v13).length) (hl31 : (n25 : Int) ≤ 9223372036854775807) (hq32 : (satL v12 v13).length ≤ 6) (n36 : Nat) (hl41 : n36 = (satL v12 v13).length) (hl42 : (n36 : Int) ≤ 9223372036854775807) (hq43 : (satL v12 v13).length ≤ 6) (h50 : ¬ ((satL v12 v13) = (satL v12 v13))) : false = true := by
  first | exact vt_good ‹VtLaw _› | (exfalso; first | exact ‹¬ satL _ _ = satL _ _› rfl | exact ‹¬ (chg _ _ _ _).getD [] = (chg _ _ _ _).getD []› rfl | exact fu_bad1 ‹FuLaw _ _› (by assumption) (by first | assumption | omega) | exact fu_bad2 ‹FuLaw _ _› ‹VsOK _› (by assumption) (by first | assumption | omega) | exact ga_bad2 ‹GaLaw _ _› (by assumption) (by assumption) (by assumption) | exact ga_bad1 ‹GaLaw _ _› (by assumption) (by assumption) | exact cs_bad ‹CsLaw _ _ _ _› (by assumption) (by assumption))
theorem z_c_laws_FnRoom_85 (C : List UInt8) (nC : Nat) (hbdC : (nC : Int) ≤ 9223372036854775807) (hleC : nC = C.length) (h5 : ¬ (65536 < (C.length : Int))) (v12 : List Visit) (v13 : Int) (hq14 : VsB v12) (hq15 : v12.length ≤ 60) (n9 : Nat) (hl18 : n9 = (v12).length) (hl19 : (n9 : Int) ≤ 9223372036854775807) (hq20 : FuLaw v12 v13) (n25 : Nat) (hl30 : n25 = (satL v12 v13).length) (hl31 : (n25 : Int) ≤ 9223372036854775807) (hq32 : (satL v12 v13).length ≤ 6) (n36 : Nat) (hl41 : n36 = (satL v12 v13).length) (hl42 : (n36 : Int) ≤ 9223372036854775807) (hq43 : (satL v12 v13).length ≤ 6) (h50 : (satL v12 v13) = (satL v12 v13)) (hq58 : (480 ≤ (fullN v12 720).1 ∧ (fullN v12 720).1 ≤ 1200) ∧ 0 ≤ (fullN v12 720).2) (hq65 : (480 ≤ (fullN v12 720).1 ∧ (fullN v12 720).1 ≤ 1200) ∧ 0 ≤ (fullN v12 720).2) (h78 : (VsOK v12 ∧ 480 ≤ v13 ∧ v13 ≤ 1200) ∧ ((¬ (VsOK v12)) ∨ ((if VsOK v12 then (fullN v12 720).2 else 0) < (n25 : Int)))) (hq79 : VsOK v12 ∧ 480 ≤ v13 ∧ v13 ≤ 1200) (hq80 : (¬ (VsOK v12)) ∨ ((if VsOK v12 then (fullN v12 720).2 else 0) < (n25 : Int))) (hq81 : VsOK v12) (hq82 : v12.length ≤ 15) : false = true := by
  first | exact vt_good ‹VtLaw _› | (exfalso; first | exact ‹¬ satL _ _ = satL _ _› rfl | exact ‹¬ (chg _ _ _ _).getD [] = (chg _ _ _ _).getD []› rfl | exact fu_bad1 ‹FuLaw _ _› (by assumption) (by first | assumption | omega) | exact fu_bad2 ‹FuLaw _ _› ‹VsOK _› (by assumption) (by first | assumption | omega) | exact ga_bad2 ‹GaLaw _ _› (by assumption) (by assumption) (by assumption) | exact ga_bad1 ‹GaLaw _ _› (by assumption) (by assumption) | exact cs_bad ‹CsLaw _ _ _ _› (by assumption) (by assumption))
theorem z_c_laws_FnRoom_114 (C : List UInt8) (nC : Nat) (hbdC : (nC : Int) ≤ 9223372036854775807) (hleC : nC = C.length) (h5 : ¬ (65536 < (C.length : Int))) (v12 : List Visit) (v13 : Int) (hq14 : VsB v12) (hq15 : v12.length ≤ 60) (n9 : Nat) (hl18 : n9 = (v12).length) (hl19 : (n9 : Int) ≤ 9223372036854775807) (hq20 : FuLaw v12 v13) (n25 : Nat) (hl30 : n25 = (satL v12 v13).length) (hl31 : (n25 : Int) ≤ 9223372036854775807) (hq32 : (satL v12 v13).length ≤ 6) (n36 : Nat) (hl41 : n36 = (satL v12 v13).length) (hl42 : (n36 : Int) ≤ 9223372036854775807) (hq43 : (satL v12 v13).length ≤ 6) (h50 : (satL v12 v13) = (satL v12 v13)) (hq58 : (480 ≤ (fullN v12 720).1 ∧ (fullN v12 720).1 ≤ 1200) ∧ 0 ≤ (fullN v12 720).2) (hq65 : (480 ≤ (fullN v12 720).1 ∧ (fullN v12 720).1 ≤ 1200) ∧ 0 ≤ (fullN v12 720).2) (h78 : ¬ ((VsOK v12 ∧ 480 ≤ v13 ∧ v13 ≤ 1200) ∧ ((¬ (VsOK v12)) ∨ ((if VsOK v12 then (fullN v12 720).2 else 0) < (n25 : Int))))) (h88 : VsOK v12) (hq89 : v12.length ≤ 15) (n93 : Nat) (hl99 : n93 = (satL v12 (if VsOK v12 then (fullN v12 720).1 else 0)).length) (hl100 : (n93 : Int) ≤ 9223372036854775807) (hq101 : (satL v12 (if VsOK v12 then (fullN v12 720).1 else 0)).length ≤ 6) (h112 : (¬ (VsOK v12 ∧ 480 ≤ (if VsOK v12 then (fullN v12 720).1 else 0) ∧ (if VsOK v12 then (fullN v12 720).1 else 0) ≤ 1200)) ∨ (¬ ((n93 : Int) = (if VsOK v12 then (fullN v12 720).2 else 0)))) : false = true := by
  first | exact vt_good ‹VtLaw _› | (exfalso; first | exact ‹¬ satL _ _ = satL _ _› rfl | exact ‹¬ (chg _ _ _ _).getD [] = (chg _ _ _ _).getD []› rfl | exact fu_bad1 ‹FuLaw _ _› (by assumption) (by first | assumption | omega) | exact fu_bad2 ‹FuLaw _ _› ‹VsOK _› (by assumption) (by first | assumption | omega) | exact ga_bad2 ‹GaLaw _ _› (by assumption) (by assumption) (by assumption) | exact ga_bad1 ‹GaLaw _ _› (by assumption) (by assumption) | exact cs_bad ‹CsLaw _ _ _ _› (by assumption) (by assumption))
theorem z_c_laws_FnRoom_196 (C : List UInt8) (nC : Nat) (hbdC : (nC : Int) ≤ 9223372036854775807) (hleC : nC = C.length) (h5 : ¬ (65536 < (C.length : Int))) (v12 : List Visit) (v13 : Int) (hq14 : VsB v12) (hq15 : v12.length ≤ 60) (n9 : Nat) (hl18 : n9 = (v12).length) (hl19 : (n9 : Int) ≤ 9223372036854775807) (hq20 : FuLaw v12 v13) (n25 : Nat) (hl30 : n25 = (satL v12 v13).length) (hl31 : (n25 : Int) ≤ 9223372036854775807) (hq32 : (satL v12 v13).length ≤ 6) (n36 : Nat) (hl41 : n36 = (satL v12 v13).length) (hl42 : (n36 : Int) ≤ 9223372036854775807) (hq43 : (satL v12 v13).length ≤ 6) (h50 : (satL v12 v13) = (satL v12 v13)) (hq58 : (480 ≤ (fullN v12 720).1 ∧ (fullN v12 720).1 ≤ 1200) ∧ 0 ≤ (fullN v12 720).2) (hq65 : (480 ≤ (fullN v12 720).1 ∧ (fullN v12 720).1 ≤ 1200) ∧ 0 ≤ (fullN v12 720).2) (h78 : ¬ ((VsOK v12 ∧ 480 ≤ v13 ∧ v13 ≤ 1200) ∧ ((¬ (VsOK v12)) ∨ ((if VsOK v12 then (fullN v12 720).2 else 0) < (n25 : Int))))) (v131 : List Visit) (v132 : Int) (hq133 : VsB v131) (hq134 : v131.length ≤ 60) (n128 : Nat) (hl137 : n128 = (v131).length) (hl138 : (n128 : Int) ≤ 9223372036854775807) (hq139 : GaLaw v131 v132) (hq145 : (0 ≤ (gapF v131 v132).1 ∧ (gapF v131 v132).1 ≤ 1200) ∧ (0 ≤ (gapF v131 v132).2 ∧ (gapF v131 v132).2 ≤ 1200)) (hq150 : (0 ≤ (gapF v131 v132).1 ∧ (gapF v131 v132).1 ≤ 1200) ∧ (0 ≤ (gapF v131 v132).2 ∧ (gapF v131 v132).2 ≤ 1200)) (h162 : (VsOK v131 ∧ (1 ≤ v132 ∧ v132 ≤ 6)) ∧ (0 < ((gapF v131 v132).2))) (hq163 : VsOK v131 ∧ (1 ≤ v132 ∧ v132 ≤ 6)) (hq164 : 0 < ((gapF v131 v132).2)) (hq165 : VsOK v131) (hq166 : v131.length ≤ 15) (n170 : Nat) (hl176 : n170 = (freeF v131 ((gapF v131 v132).1) (((gapF v131 v132).1) + ((gapF v131 v132).2))).length) (hl177 : (n170 : Int) ≤ 9223372036854775807) (hq178 : (freeF v131 ((gapF v131 v132).1) (((gapF v131 v132).1) + ((gapF v131 v132).2))).length ≤ 6) (h195 : (¬ (VsOK v131 ∧ (480 ≤ ((gapF v131 v132).1) ∧ ((gapF v131 v132).1) ≤ 1200) ∧ (480 ≤ (((gapF v131 v132).1) + ((gapF v131 v132).2)) ∧ (((gapF v131 v132).1) + ((gapF v131 v132).2)) ≤ 1200) ∧ ((gapF v131 v132).1) < (((gapF v131 v132).1) + ((gapF v131 v132).2)))) ∨ (¬ (v132 ∈ (freeF v131 ((gapF v131 v132).1) (((gapF v131 v132).1) + ((gapF v131 v132).2)))))) : false = true := by
  first | exact vt_good ‹VtLaw _› | (exfalso; first | exact ‹¬ satL _ _ = satL _ _› rfl | exact ‹¬ (chg _ _ _ _).getD [] = (chg _ _ _ _).getD []› rfl | exact fu_bad1 ‹FuLaw _ _› (by assumption) (by first | assumption | omega) | exact fu_bad2 ‹FuLaw _ _› ‹VsOK _› (by assumption) (by first | assumption | omega) | exact ga_bad2 ‹GaLaw _ _› (by assumption) (by assumption) (by assumption) | exact ga_bad1 ‹GaLaw _ _› (by assumption) (by assumption) | exact cs_bad ‹CsLaw _ _ _ _› (by assumption) (by assumption))
theorem z_c_laws_FnRoom_230 (C : List UInt8) (nC : Nat) (hbdC : (nC : Int) ≤ 9223372036854775807) (hleC : nC = C.length) (h5 : ¬ (65536 < (C.length : Int))) (v12 : List Visit) (v13 : Int) (hq14 : VsB v12) (hq15 : v12.length ≤ 60) (n9 : Nat) (hl18 : n9 = (v12).length) (hl19 : (n9 : Int) ≤ 9223372036854775807) (hq20 : FuLaw v12 v13) (n25 : Nat) (hl30 : n25 = (satL v12 v13).length) (hl31 : (n25 : Int) ≤ 9223372036854775807) (hq32 : (satL v12 v13).length ≤ 6) (n36 : Nat) (hl41 : n36 = (satL v12 v13).length) (hl42 : (n36 : Int) ≤ 9223372036854775807) (hq43 : (satL v12 v13).length ≤ 6) (h50 : (satL v12 v13) = (satL v12 v13)) (hq58 : (480 ≤ (fullN v12 720).1 ∧ (fullN v12 720).1 ≤ 1200) ∧ 0 ≤ (fullN v12 720).2) (hq65 : (480 ≤ (fullN v12 720).1 ∧ (fullN v12 720).1 ≤ 1200) ∧ 0 ≤ (fullN v12 720).2) (h78 : ¬ ((VsOK v12 ∧ 480 ≤ v13 ∧ v13 ≤ 1200) ∧ ((¬ (VsOK v12)) ∨ ((if VsOK v12 then (fullN v12 720).2 else 0) < (n25 : Int))))) (v131 : List Visit) (v132 : Int) (hq133 : VsB v131) (hq134 : v131.length ≤ 60) (n128 : Nat) (hl137 : n128 = (v131).length) (hl138 : (n128 : Int) ≤ 9223372036854775807) (hq139 : GaLaw v131 v132) (hq145 : (0 ≤ (gapF v131 v132).1 ∧ (gapF v131 v132).1 ≤ 1200) ∧ (0 ≤ (gapF v131 v132).2 ∧ (gapF v131 v132).2 ≤ 1200)) (hq150 : (0 ≤ (gapF v131 v132).1 ∧ (gapF v131 v132).1 ≤ 1200) ∧ (0 ≤ (gapF v131 v132).2 ∧ (gapF v131 v132).2 ≤ 1200)) (h162 : (VsOK v131 ∧ (1 ≤ v132 ∧ v132 ≤ 6)) ∧ (0 < ((gapF v131 v132).2))) (hq163 : VsOK v131 ∧ (1 ≤ v132 ∧ v132 ≤ 6)) (hq164 : 0 < ((gapF v131 v132).2)) (hq165 : VsOK v131) (hq166 : v131.length ≤ 15) (n170 : Nat) (hl176 : n170 = (freeF v131 ((gapF v131 v132).1) (((gapF v131 v132).1) + ((gapF v131 v132).2))).length) (hl177 : (n170 : Int) ≤ 9223372036854775807) (hq178 : (freeF v131 ((gapF v131 v132).1) (((gapF v131 v132).1) + ((gapF v131 v132).2))).length ≤ 6) (h195 : ¬ ((¬ (VsOK v131 ∧ (480 ≤ ((gapF v131 v132).1) ∧ ((gapF v131 v132).1) ≤ 1200) ∧ (480 ≤ (((gapF v131 v132).1) + ((gapF v131 v132).2)) ∧ (((gapF v131 v132).1) + ((gapF v131 v132).2)) ≤ 1200) ∧ ((gapF v131 v132).1) < (((gapF v131 v132).1) + ((gapF v131 v132).2)))) ∨ (¬ (v132 ∈ (freeF v131 ((gapF v131 v132).1) (((gapF v131 v132).1) + ((gapF v131 v132).2))))))) (hq197 : VsOK v131 ∧ (480 ≤ ((gapF v131 v132).1) ∧ ((gapF v131 v132).1) ≤ 1200) ∧ (480 ≤ (((gapF v131 v132).1) + ((gapF v131 v132).2)) ∧ (((gapF v131 v132).1) + ((gapF v131 v132).2)) ≤ 1200) ∧ ((gapF v131 v132).1) < (((gapF v131 v132).1) + ((gapF v131 v132).2))) (hq198 : v132 ∈ (freeF v131 ((gapF v131 v132).1) (((gapF v131 v132).1) + ((gapF v131 v132).2)))) (hq199 : VsOK v131) (hq200 : v131.length ≤ 15) (h201 : 480 < ((gapF v131 v132).1)) (n205 : Nat) (hl211 : n205 = (freeF v131 (((gapF v131 v132).1) - 1) (((gapF v131 v132).1) + ((gapF v131 v132).2))).length) (hl212 : (n205 : Int) ≤ 9223372036854775807) (hq213 : (freeF v131 (((gapF v131 v132).1) - 1) (((gapF v131 v132).1) + ((gapF v131 v132).2))).length ≤ 6) (h229 : (¬ (VsOK v131 ∧ (480 ≤ (((gapF v131 v132).1) - 1) ∧ (((gapF v131 v132).1) - 1) ≤ 1200) ∧ (480 ≤ (((gapF v131 v132).1) + ((gapF v131 v132).2)) ∧ (((gapF v131 v132).1) + ((gapF v131 v132).2)) ≤ 1200) ∧ (((gapF v131 v132).1) - 1) < (((gapF v131 v132).1) + ((gapF v131 v132).2)))) ∨ (v132 ∈ (freeF v131 (((gapF v131 v132).1) - 1) (((gapF v131 v132).1) + ((gapF v131 v132).2))))) : false = true := by
  first | exact vt_good ‹VtLaw _› | (exfalso; first | exact ‹¬ satL _ _ = satL _ _› rfl | exact ‹¬ (chg _ _ _ _).getD [] = (chg _ _ _ _).getD []› rfl | exact fu_bad1 ‹FuLaw _ _› (by assumption) (by first | assumption | omega) | exact fu_bad2 ‹FuLaw _ _› ‹VsOK _› (by assumption) (by first | assumption | omega) | exact ga_bad2 ‹GaLaw _ _› (by assumption) (by assumption) (by assumption) | exact ga_bad1 ‹GaLaw _ _› (by assumption) (by assumption) | exact cs_bad ‹CsLaw _ _ _ _› (by assumption) (by assumption))
theorem z_c_laws_FnRoom_290 (C : List UInt8) (nC : Nat) (hbdC : (nC : Int) ≤ 9223372036854775807) (hleC : nC = C.length) (h5 : ¬ (65536 < (C.length : Int))) (v12 : List Visit) (v13 : Int) (hq14 : VsB v12) (hq15 : v12.length ≤ 60) (n9 : Nat) (hl18 : n9 = (v12).length) (hl19 : (n9 : Int) ≤ 9223372036854775807) (hq20 : FuLaw v12 v13) (n25 : Nat) (hl30 : n25 = (satL v12 v13).length) (hl31 : (n25 : Int) ≤ 9223372036854775807) (hq32 : (satL v12 v13).length ≤ 6) (n36 : Nat) (hl41 : n36 = (satL v12 v13).length) (hl42 : (n36 : Int) ≤ 9223372036854775807) (hq43 : (satL v12 v13).length ≤ 6) (h50 : (satL v12 v13) = (satL v12 v13)) (hq58 : (480 ≤ (fullN v12 720).1 ∧ (fullN v12 720).1 ≤ 1200) ∧ 0 ≤ (fullN v12 720).2) (hq65 : (480 ≤ (fullN v12 720).1 ∧ (fullN v12 720).1 ≤ 1200) ∧ 0 ≤ (fullN v12 720).2) (h78 : ¬ ((VsOK v12 ∧ 480 ≤ v13 ∧ v13 ≤ 1200) ∧ ((¬ (VsOK v12)) ∨ ((if VsOK v12 then (fullN v12 720).2 else 0) < (n25 : Int))))) (v131 : List Visit) (v132 : Int) (hq133 : VsB v131) (hq134 : v131.length ≤ 60) (n128 : Nat) (hl137 : n128 = (v131).length) (hl138 : (n128 : Int) ≤ 9223372036854775807) (hq139 : GaLaw v131 v132) (hq145 : (0 ≤ (gapF v131 v132).1 ∧ (gapF v131 v132).1 ≤ 1200) ∧ (0 ≤ (gapF v131 v132).2 ∧ (gapF v131 v132).2 ≤ 1200)) (hq150 : (0 ≤ (gapF v131 v132).1 ∧ (gapF v131 v132).1 ≤ 1200) ∧ (0 ≤ (gapF v131 v132).2 ∧ (gapF v131 v132).2 ≤ 1200)) (v248 : List Visit) (v249 : Int) (v250 : Int) (v251 : Int) (hq252 : VsB v248) (hq253 : v248.length ≤ 60) (n245 : Nat) (hl256 : n245 = (v248).length) (hl257 : (n245 : Int) ≤ 9223372036854775807) (hq258 : CsLaw v248 v249 v250 v251) (n262 : Nat) (hl267 : n262 = ((chg v248 v249 v250 v251).getD []).length) (hl268 : (n262 : Int) ≤ 9223372036854775807) (hq269 : ((chg v248 v249 v250 v251).getD []).length ≤ 15) (n274 : Nat) (hl279 : n274 = ((chg v248 v249 v250 v251).getD []).length) (hl280 : (n274 : Int) ≤ 9223372036854775807) (hq281 : ((chg v248 v249 v250 v251).getD []).length ≤ 15) (h287 : ¬ (((chg v248 v249 v250 v251).getD []) = ((chg v248 v249 v250 v251).getD []))) : false = true := by
  first | exact vt_good ‹VtLaw _› | (exfalso; first | exact ‹¬ satL _ _ = satL _ _› rfl | exact ‹¬ (chg _ _ _ _).getD [] = (chg _ _ _ _).getD []› rfl | exact fu_bad1 ‹FuLaw _ _› (by assumption) (by first | assumption | omega) | exact fu_bad2 ‹FuLaw _ _› ‹VsOK _› (by assumption) (by first | assumption | omega) | exact ga_bad2 ‹GaLaw _ _› (by assumption) (by assumption) (by assumption) | exact ga_bad1 ‹GaLaw _ _› (by assumption) (by assumption) | exact cs_bad ‹CsLaw _ _ _ _› (by assumption) (by assumption))
theorem z_c_laws_FnRoom_329 (C : List UInt8) (nC : Nat) (hbdC : (nC : Int) ≤ 9223372036854775807) (hleC : nC = C.length) (h5 : ¬ (65536 < (C.length : Int))) (v12 : List Visit) (v13 : Int) (hq14 : VsB v12) (hq15 : v12.length ≤ 60) (n9 : Nat) (hl18 : n9 = (v12).length) (hl19 : (n9 : Int) ≤ 9223372036854775807) (hq20 : FuLaw v12 v13) (n25 : Nat) (hl30 : n25 = (satL v12 v13).length) (hl31 : (n25 : Int) ≤ 9223372036854775807) (hq32 : (satL v12 v13).length ≤ 6) (n36 : Nat) (hl41 : n36 = (satL v12 v13).length) (hl42 : (n36 : Int) ≤ 9223372036854775807) (hq43 : (satL v12 v13).length ≤ 6) (h50 : (satL v12 v13) = (satL v12 v13)) (hq58 : (480 ≤ (fullN v12 720).1 ∧ (fullN v12 720).1 ≤ 1200) ∧ 0 ≤ (fullN v12 720).2) (hq65 : (480 ≤ (fullN v12 720).1 ∧ (fullN v12 720).1 ≤ 1200) ∧ 0 ≤ (fullN v12 720).2) (h78 : ¬ ((VsOK v12 ∧ 480 ≤ v13 ∧ v13 ≤ 1200) ∧ ((¬ (VsOK v12)) ∨ ((if VsOK v12 then (fullN v12 720).2 else 0) < (n25 : Int))))) (v131 : List Visit) (v132 : Int) (hq133 : VsB v131) (hq134 : v131.length ≤ 60) (n128 : Nat) (hl137 : n128 = (v131).length) (hl138 : (n128 : Int) ≤ 9223372036854775807) (hq139 : GaLaw v131 v132) (hq145 : (0 ≤ (gapF v131 v132).1 ∧ (gapF v131 v132).1 ≤ 1200) ∧ (0 ≤ (gapF v131 v132).2 ∧ (gapF v131 v132).2 ≤ 1200)) (hq150 : (0 ≤ (gapF v131 v132).1 ∧ (gapF v131 v132).1 ≤ 1200) ∧ (0 ≤ (gapF v131 v132).2 ∧ (gapF v131 v132).2 ≤ 1200)) (v248 : List Visit) (v249 : Int) (v250 : Int) (v251 : Int) (hq252 : VsB v248) (hq253 : v248.length ≤ 60) (n245 : Nat) (hl256 : n245 = (v248).length) (hl257 : (n245 : Int) ≤ 9223372036854775807) (hq258 : CsLaw v248 v249 v250 v251) (n262 : Nat) (hl267 : n262 = ((chg v248 v249 v250 v251).getD []).length) (hl268 : (n262 : Int) ≤ 9223372036854775807) (hq269 : ((chg v248 v249 v250 v251).getD []).length ≤ 15) (n274 : Nat) (hl279 : n274 = ((chg v248 v249 v250 v251).getD []).length) (hl280 : (n274 : Int) ≤ 9223372036854775807) (hq281 : ((chg v248 v249 v250 v251).getD []).length ≤ 15) (h287 : ((chg v248 v249 v250 v251).getD []) = ((chg v248 v249 v250 v251).getD [])) (h293 : ((chg v248 v249 v250 v251).isSome) = true) (hq305 : 0 ≤ (if VsOK v248 ∧ (1 ≤ v249 ∧ v249 ≤ 999) then minsN v248 v249 else 0) ∧ (if VsOK v248 ∧ (1 ≤ v249 ∧ v249 ≤ 999) then minsN v248 v249 else 0) ≤ 10800) (hq313 : 0 ≤ (if VsOK ((chg v248 v249 v250 v251).getD []) ∧ (1 ≤ v249 ∧ v249 ≤ 999) then minsN ((chg v248 v249 v250 v251).getD []) v249 else 0) ∧ (if VsOK ((chg v248 v249 v250 v251).getD []) ∧ (1 ≤ v249 ∧ v249 ≤ 999) then minsN ((chg v248 v249 v250 v251).getD []) v249 else 0) ≤ 10800) (h327 : (¬ (VsOK ((chg v248 v249 v250 v251).getD []) ∧ (1 ≤ v249 ∧ v249 ≤ 999) ∧ (480 ≤ v250 ∧ v250 ≤ 1200))) ∨ ((¬ (VsOK v248 ∧ (1 ≤ v249 ∧ v249 ≤ 999))) ∨ ((¬ (VsOK ((chg v248 v249 v250 v251).getD []) ∧ (1 ≤ v249 ∧ v249 ≤ 999))) ∨ ((¬ ((seatO ((chg v248 v249 v250 v251).getD []) v249 v250) = v251)) ∨ (¬ ((if VsOK v248 ∧ (1 ≤ v249 ∧ v249 ≤ 999) then minsN v248 v249 else 0) = (if VsOK ((chg v248 v249 v250 v251).getD []) ∧ (1 ≤ v249 ∧ v249 ≤ 999) then minsN ((chg v248 v249 v250 v251).getD []) v249 else 0))))))) : false = true := by
  first | exact vt_good ‹VtLaw _› | (exfalso; first | exact ‹¬ satL _ _ = satL _ _› rfl | exact ‹¬ (chg _ _ _ _).getD [] = (chg _ _ _ _).getD []› rfl | exact fu_bad1 ‹FuLaw _ _› (by assumption) (by first | assumption | omega) | exact fu_bad2 ‹FuLaw _ _› ‹VsOK _› (by assumption) (by first | assumption | omega) | exact ga_bad2 ‹GaLaw _ _› (by assumption) (by assumption) (by assumption) | exact ga_bad1 ‹GaLaw _ _› (by assumption) (by assumption) | exact cs_bad ‹CsLaw _ _ _ _› (by assumption) (by assumption))
theorem z_c_laws_FnRoom_412 (C : List UInt8) (nC : Nat) (hbdC : (nC : Int) ≤ 9223372036854775807) (hleC : nC = C.length) (h5 : ¬ (65536 < (C.length : Int))) (v12 : List Visit) (v13 : Int) (hq14 : VsB v12) (hq15 : v12.length ≤ 60) (n9 : Nat) (hl18 : n9 = (v12).length) (hl19 : (n9 : Int) ≤ 9223372036854775807) (hq20 : FuLaw v12 v13) (n25 : Nat) (hl30 : n25 = (satL v12 v13).length) (hl31 : (n25 : Int) ≤ 9223372036854775807) (hq32 : (satL v12 v13).length ≤ 6) (n36 : Nat) (hl41 : n36 = (satL v12 v13).length) (hl42 : (n36 : Int) ≤ 9223372036854775807) (hq43 : (satL v12 v13).length ≤ 6) (h50 : (satL v12 v13) = (satL v12 v13)) (hq58 : (480 ≤ (fullN v12 720).1 ∧ (fullN v12 720).1 ≤ 1200) ∧ 0 ≤ (fullN v12 720).2) (hq65 : (480 ≤ (fullN v12 720).1 ∧ (fullN v12 720).1 ≤ 1200) ∧ 0 ≤ (fullN v12 720).2) (h78 : ¬ ((VsOK v12 ∧ 480 ≤ v13 ∧ v13 ≤ 1200) ∧ ((¬ (VsOK v12)) ∨ ((if VsOK v12 then (fullN v12 720).2 else 0) < (n25 : Int))))) (v131 : List Visit) (v132 : Int) (hq133 : VsB v131) (hq134 : v131.length ≤ 60) (n128 : Nat) (hl137 : n128 = (v131).length) (hl138 : (n128 : Int) ≤ 9223372036854775807) (hq139 : GaLaw v131 v132) (hq145 : (0 ≤ (gapF v131 v132).1 ∧ (gapF v131 v132).1 ≤ 1200) ∧ (0 ≤ (gapF v131 v132).2 ∧ (gapF v131 v132).2 ≤ 1200)) (hq150 : (0 ≤ (gapF v131 v132).1 ∧ (gapF v131 v132).1 ≤ 1200) ∧ (0 ≤ (gapF v131 v132).2 ∧ (gapF v131 v132).2 ≤ 1200)) (v248 : List Visit) (v249 : Int) (v250 : Int) (v251 : Int) (hq252 : VsB v248) (hq253 : v248.length ≤ 60) (n245 : Nat) (hl256 : n245 = (v248).length) (hl257 : (n245 : Int) ≤ 9223372036854775807) (hq258 : CsLaw v248 v249 v250 v251) (n262 : Nat) (hl267 : n262 = ((chg v248 v249 v250 v251).getD []).length) (hl268 : (n262 : Int) ≤ 9223372036854775807) (hq269 : ((chg v248 v249 v250 v251).getD []).length ≤ 15) (n274 : Nat) (hl279 : n274 = ((chg v248 v249 v250 v251).getD []).length) (hl280 : (n274 : Int) ≤ 9223372036854775807) (hq281 : ((chg v248 v249 v250 v251).getD []).length ≤ 15) (h287 : ((chg v248 v249 v250 v251).getD []) = ((chg v248 v249 v250 v251).getD [])) (v349 : List Visit) (v350 : Int) (hq351 : VsB v349) (hq352 : v349.length ≤ 60) (n346 : Nat) (hl355 : n346 = (v349).length) (hl356 : (n346 : Int) ≤ 9223372036854775807) (hq362 : 0 ≤ (if VsOK v349 ∧ (1 ≤ v350 ∧ v350 ≤ 999) then minsN v349 v350 else 0) ∧ (if VsOK v349 ∧ (1 ≤ v350 ∧ v350 ≤ 999) then minsN v349 v350 else 0) ≤ 10800) (hq367 : 0 ≤ (if VsOK v349 ∧ (1 ≤ v350 ∧ v350 ≤ 999) then minsN v349 v350 else 0) ∧ (if VsOK v349 ∧ (1 ≤ v350 ∧ v350 ≤ 999) then minsN v349 v350 else 0) ≤ 10800) (v371 : Visit) (hq374 : VtLaw v371) : decide ((((impl_VisitText v371).1) = ((spec_VisitText v371).1)) ∧ ((((impl_VisitText v371).2) == ((spec_VisitText v371).2)) = true)) = true := by
  first | exact vt_good ‹VtLaw _› | (exfalso; first | exact ‹¬ satL _ _ = satL _ _› rfl | exact ‹¬ (chg _ _ _ _).getD [] = (chg _ _ _ _).getD []› rfl | exact fu_bad1 ‹FuLaw _ _› (by assumption) (by first | assumption | omega) | exact fu_bad2 ‹FuLaw _ _› ‹VsOK _› (by assumption) (by first | assumption | omega) | exact ga_bad2 ‹GaLaw _ _› (by assumption) (by assumption) (by assumption) | exact ga_bad1 ‹GaLaw _ _› (by assumption) (by assumption) | exact cs_bad ‹CsLaw _ _ _ _› (by assumption) (by assumption))
theorem c_laws_FnRoom (w : World) {AC : Option Addr} {nC cC BC : Nat}  (C : List UInt8) (hC : SlR w BC encB 1 AC nC cC C) (hE : EnvW w) : Calls Tryz.prog 3 #[.slice AC nC cC] w fun e w' => e = .returned (.bool true) ∧ Lo w w' := by
  refine calls_W 325 Tryz.func3 rfl rfl rfl ?_
  have hbdC := hC.bound
  have hleC := hC.len
  have hBbC := hC.bd
  refine W.seq ?_
  refine W.regS (SR.q' (r_as (v := .bool false) rfl) <| SR.nil ?_)
  refine W.seq ?_
  refine W.seq ?_
  refine W.regS (SR.q' (r_mv (v := .slice _ _ _) rfl) <| SR.call ent4 (c_laws_rBig w C ((hC))) rfl ?_)
  rintro e w1 ⟨rfl, hk2⟩
  refine ⟨_, rfl, ?_⟩
  have hz3 := hk2.size
  have hB4 := (Lo.refl w).lo hk2
  refine SR.nil ?_
  refine W.cond_d rfl (fun h5 => ?_) (fun h5 => ?_)
  · refine W.seq ?_
    refine W.regS (SR.q' (r_as (v := .bool true) rfl) <| SR.nil ?_)
    refine W.ret ?_
    refine ret1 rfl (v := .bool _) rfl ?_
    exact ⟨eR rfl, hB4⟩
  · refine W.skip ?_
    refine W.seq ?_
    refine W.regS (SR.q' (r_mv (v := .slice _ _ _) rfl) <| SR.call ent5 (c_spec_DrawSeatedAt w1 C (((hC).lo hk2)) (by omega)) rfl ?_)
    rintro e w6 ⟨A8, n9, c10, v12, v13, rfl, hO11, hq14, hq15, hk7⟩
    refine ⟨_, rfl, ?_⟩
    have hz16 := hk7.size
    have hB17 := hB4.lo hk7
    have hl18 := hO11.len
    have hl19 := hO11.rd.bound
    have hq20 : FuLaw v12 v13 := fu_law v12 v13
    refine SR.q' (r_mv (v := .tuple (List.toArray _)) rfl) <| SR.q' (r_ext (v := .slice _ _ _) rfl rfl) <| SR.q' (r_ext (v := .int .i64 _) rfl rfl) <| SR.q' (r_as (v := .slice _ _ _) rfl) <| SR.q' (r_as (v := .int .i64 _) rfl) <| SR.nil ?_
    refine W.seq ?_
    have hm21 := ((hC).lo hk2).lo hk7
    refine W.regS (SR.q' (r_mv (v := .slice _ _ _) rfl) <| SR.q' (r_mv (v := .int .i64 _) rfl) <| SR.call ent6 (c_impl_SeatedAt w6 v12 (((hO11).rd)) v13) rfl ?_)
    rintro e w22 ⟨A24, n25, c26, rfl, hO27, hk23⟩
    refine ⟨_, rfl, ?_⟩
    have hz28 := hk23.size
    have hB29 := hB17.lo hk23
    have hl30 := hO27.len
    have hl31 := hO27.rd.bound
    have hq32 : (satL v12 v13).length ≤ 6 := sat_len v12 v13
    refine SR.q' (r_mv (v := .tuple (List.toArray _)) rfl) <| SR.q' (r_ext (v := .slice _ _ _) rfl rfl) <| SR.q' (r_ext (v := .bool _) rfl rfl) <| SR.q' (r_as (v := .slice _ _ _) rfl) <| SR.q' (r_as (v := .bool _) rfl) <| SR.nil ?_
    refine W.seq ?_
    refine W.seq ?_
    refine W.regS (SR.q' (r_mv (v := .slice _ _ _) rfl) <| SR.q' (r_mv (v := .int .i64 _) rfl) <| SR.call ent7 (c_spec_SeatedAt w22 v12 ((((hO11).lo hk23).rd)) v13) rfl ?_)
    rintro e w33 ⟨A35, n36, c37, rfl, hO38, hk34⟩
    refine ⟨_, rfl, ?_⟩
    have hz39 := hk34.size
    have hB40 := hB29.lo hk34
    have hl41 := hO38.len
    have hl42 := hO38.rd.bound
    have hq43 : (satL v12 v13).length ≤ 6 := sat_len v12 v13
    refine SR.q' (r_mv (v := .tuple (List.toArray _)) rfl) <| SR.q' (r_ext (v := .slice _ _ _) rfl rfl) <| SR.q' (r_ext (v := .bool _) rfl rfl) <| SR.q' (r_as (v := .slice _ _ _) rfl) <| SR.q' (r_as (v := .bool _) rfl) <| SR.nil ?_
    refine W.seq ?_
    have hm44 := ((hm21).lo hk23).lo hk34
    have hm45 := ((hO11).lo hk23).lo hk34
    refine W.regS (SR.q' (r_mv (v := .bool _) rfl) <| SR.q' (r_mv (v := .bool _) rfl) <| SR.q' (r_neb_s und4 rfl rfl) <| SR.q' (r_mv (v := .bool _) rfl) <| SR.g' rfl (r_mv (v := .slice _ _ _) rfl) <| SR.g' rfl (r_mv (v := .slice _ _ _) rfl) <| SR.gcall rfl ent8 (c_laws_rInts w33 (satL v12 v13) ((((hO27).lo hk34).rd)) (satL v12 v13) (((hO38).rd))) rfl ?_)
    rintro e w46 ⟨rfl, hk47⟩
    refine ⟨_, rfl, ?_⟩
    have hz48 := hk47.size
    have hB49 := hB40.lo hk47
    refine SR.g' rfl (r_not rfl) <| SR.q' (r_pick false rfl (v := .bool _) rfl) <| SR.nil ?_
    refine W.cond_n rfl (fun h50 => ?_) (fun h50 => ?_)
    · refine W.seq ?_
      have hm51 := ((hO27).lo hk34).lo hk47
      refine W.regS (SR.q' (r_as (v := .bool false) rfl) <| SR.nil ?_)
      refine W.ret ?_
      refine ret1 rfl (v := .bool _) rfl ?_
      exact ⟨eR (eB (z_c_laws_FnRoom_52 C nC hbdC hleC h5 v12 v13 hq14 hq15 n9 hl18 hl19 hq20 n25 hl30 hl31 hq32 n36 hl41 hl42 hq43 h50)), hB49⟩
    · refine W.skip ?_
      refine W.seq ?_
      have hm53 := ((hO27).lo hk34).lo hk47
      refine W.regS (SR.q' (r_mv (v := .slice _ _ _) rfl) <| SR.call ent9 (c_impl_FullestMinute w46 v12 ((((hm45).lo hk47).rd))) rfl ?_)
      rintro e w54 ⟨rfl, hk55⟩
      refine ⟨_, rfl, ?_⟩
      have hz56 := hk55.size
      have hB57 := hB49.lo hk55
      have hq58 : (480 ≤ (fullN v12 720).1 ∧ (fullN v12 720).1 ≤ 1200) ∧ 0 ≤ (fullN v12 720).2 := fullN_rng v12
      refine SR.q' (r_mv (v := .tuple (List.toArray _)) rfl) <| SR.q' (r_ext (v := .int .i64 _) rfl rfl) <| SR.q' (r_ext (v := .int .i64 _) rfl rfl) <| SR.q' (r_ext (v := .bool _) rfl rfl) <| SR.q' (r_as (v := .int .i64 _) rfl) <| SR.q' (r_as (v := .int .i64 _) rfl) <| SR.q' (r_as (v := .bool _) rfl) <| SR.nil ?_
      refine W.seq ?_
      refine W.seq ?_
      have hm59 := ((hm44).lo hk47).lo hk55
      have hm60 := ((hm45).lo hk47).lo hk55
      refine W.regS (SR.q' (r_mv (v := .slice _ _ _) rfl) <| SR.call ent10 (c_spec_FullestMinute w54 v12 (((hm60).rd))) rfl ?_)
      rintro e w61 ⟨rfl, hk62⟩
      refine ⟨_, rfl, ?_⟩
      have hz63 := hk62.size
      have hB64 := hB57.lo hk62
      have hq65 : (480 ≤ (fullN v12 720).1 ∧ (fullN v12 720).1 ≤ 1200) ∧ 0 ≤ (fullN v12 720).2 := fullN_rng v12
      refine SR.q' (r_mv (v := .tuple (List.toArray _)) rfl) <| SR.q' (r_ext (v := .int .i64 _) rfl rfl) <| SR.q' (r_ext (v := .int .i64 _) rfl rfl) <| SR.q' (r_ext (v := .bool _) rfl rfl) <| SR.q' (r_as (v := .int .i64 _) rfl) <| SR.q' (r_as (v := .int .i64 _) rfl) <| SR.q' (r_as (v := .bool _) rfl) <| SR.nil ?_
      refine W.seq ?_
      have hm66 := ((hm53).lo hk55).lo hk62
      refine W.regS (SR.q' (r_mv (v := .int .i64 _) rfl) <| SR.q' (r_mv (v := .int .i64 _) rfl) <| SR.q' (r_ne_s rfl rfl) <| SR.q' (r_mv (v := .bool _) rfl) <| SR.g' rfl (r_mv (v := .int .i64 _) rfl) <| SR.g' rfl (r_mv (v := .int .i64 _) rfl) <| SR.g' rfl (r_ne_s rfl rfl) <| SR.q' (r_pick false rfl (v := .bool _) rfl) <| SR.q' (r_mv (v := .bool _) rfl) <| SR.g' rfl (r_mv (v := .bool _) rfl) <| SR.g' rfl (r_mv (v := .bool _) rfl) <| SR.g' rfl (r_neb_s und4 rfl rfl) <| SR.q' (r_pick false rfl (v := .bool _) rfl) <| SR.nil ?_)
      refine W.cond_f rfl ?_
      refine W.skip ?_
      refine W.seq ?_
      refine W.seq ?_
      refine W.regJS (fun f' w' => At f' [(0, .slice AC nC cC), (2, .bool false), (3, .slice A8 n9 c10), (9, .int .i64 (if VsOK v12 then (fullN v12 720).1 else 0)), (10, .int .i64 (if VsOK v12 then (fullN v12 720).2 else 0)), (11, .bool (decide (VsOK v12))), (117, .bool (decide ((VsOK v12 ∧ 480 ≤ v13 ∧ v13 ≤ 1200) ∧ ((¬ (VsOK v12)) ∨ ((if VsOK v12 then (fullN v12 720).2 else 0) < (n25 : Int))))))] ∧ Lo w61 w') ?_ ?_
      · refine SR.q' (r_mv (v := .bool _) rfl) <| SR.q' (r_mv (v := .bool _) rfl) <| SR.splitD (fun h67 => ?_) (fun h67 => ?_)
        · have hq68 := And.left h67
          have hq69 := vs_len hq68
          refine SR.g' rfl (r_mv (v := .bool _) rfl) <| SR.g' rfl (r_not rfl) <| SR.g' rfl (r_mv (v := .bool _) rfl) <| SR.splitN (fun h70 => ?_) (fun h70 => ?_)
          · refine SR.s' rfl <| SR.s' rfl <| SR.s' rfl <| SR.s' rfl <| SR.g' rfl (r_pick true rfl (v := .bool true) rfl) <| SR.q' (r_pick true rfl (v := .bool _) rfl) <| SR.nil ?_
            exact ⟨_, rfl, ⟨⟨rfl, rfl, rfl, rfl, rfl, rfl, (eDT (((jmf h70).trans (jat h67)).1 trivial)), trivial⟩, (Lo.refl _)⟩⟩
          · have hq71 := vs_len h70
            refine SR.g' rfl (r_mv (v := .slice _ _ _) rfl) <| SR.g' rfl (r_len und27 rfl) <| SR.g' rfl (r_mv (v := .int .i64 _) rfl) <| SR.g' rfl (r_gt rfl rfl) <| SR.g' rfl (r_pick false rfl (v := .bool _) rfl) <| SR.q' (r_pick true rfl (v := .bool _) rfl) <| SR.nil ?_
            exact ⟨_, rfl, ⟨⟨rfl, rfl, rfl, rfl, rfl, rfl, (eDD ((jmt h70).trans (jat h67))), trivial⟩, (Lo.refl _)⟩⟩
        · refine SR.s' rfl <| SR.s' rfl <| SR.s' rfl <| SR.u' rfl <| SR.u' rfl <| SR.u' rfl <| SR.u' rfl <| SR.s' rfl <| SR.q' (r_pick false rfl (v := .bool false) rfl) <| SR.nil ?_
          exact ⟨_, rfl, ⟨⟨rfl, rfl, rfl, rfl, rfl, rfl, (eDF (jaf h67).2), trivial⟩, (Lo.refl _)⟩⟩
      rintro f72 w73 ⟨hat74, hk75⟩
      rw [← sets_of_at hat74]
      have hz76 := hk75.size
      have hB77 := hB64.lo hk75
      refine W.cond_d rfl (fun h78 => ?_) (fun h78 => ?_)
      · have hq79 : VsOK v12 ∧ 480 ≤ v13 ∧ v13 ≤ 1200 := h78.1
        have hq80 : (¬ (VsOK v12)) ∨ ((if VsOK v12 then (fullN v12 720).2 else 0) < (n25 : Int)) := h78.2
        have hq81 := And.left hq79
        have hq82 := vs_len hq81
        refine W.seq ?_
        have hm83 := ((hm59).lo hk62).lo hk75
        have hm84 := ((hm60).lo hk62).lo hk75
        refine W.regS (SR.q' (r_as (v := .bool false) rfl) <| SR.nil ?_)
        refine W.ret ?_
        refine ret1 rfl (v := .bool _) rfl ?_
        exact ⟨eR (eB (z_c_laws_FnRoom_85 C nC hbdC hleC h5 v12 v13 hq14 hq15 n9 hl18 hl19 hq20 n25 hl30 hl31 hq32 n36 hl41 hl42 hq43 h50 hq58 hq65 h78 hq79 hq80 hq81 hq82)), hB77⟩
      · refine W.skip ?_
        refine W.seq ?_
        refine W.seq ?_
        have hm86 := ((hm59).lo hk62).lo hk75
        have hm87 := ((hm60).lo hk62).lo hk75
        refine W.regS (SR.q' (r_mv (v := .bool _) rfl) <| SR.nil ?_)
        refine W.thenJ (fun f' w' => At f' [(0, .slice AC nC cC), (2, .bool false)] ∧ Lo w73 w') ?_ ?_
        · refine W.cond_d rfl (fun h88 => ?_) (fun h88 => ?_)
          · have hq89 := vs_len h88
            refine W.seq ?_
            refine W.regS (SR.q' (r_mv (v := .slice _ _ _) rfl) <| SR.q' (r_mv (v := .int .i64 _) rfl) <| SR.call ent6 (c_impl_SeatedAt w73 v12 (((hm87).rd)) (if VsOK v12 then (fullN v12 720).1 else 0)) rfl ?_)
            rintro e w90 ⟨A92, n93, c94, rfl, hO95, hk91⟩
            refine ⟨_, rfl, ?_⟩
            have hz96 := hk91.size
            have hB97 := hB77.lo hk91
            have hJ98 := ((Lo.refl w73)).lo hk91
            have hl99 := hO95.len
            have hl100 := hO95.rd.bound
            have hq101 : (satL v12 (if VsOK v12 then (fullN v12 720).1 else 0)).length ≤ 6 := sat_len v12 (if VsOK v12 then (fullN v12 720).1 else 0)
            refine SR.q' (r_mv (v := .tuple (List.toArray _)) rfl) <| SR.q' (r_ext (v := .slice _ _ _) rfl rfl) <| SR.q' (r_ext (v := .bool _) rfl rfl) <| SR.q' (r_as (v := .slice _ _ _) rfl) <| SR.q' (r_as (v := .bool _) rfl) <| SR.nil ?_
            refine W.seq ?_
            refine W.regJS (fun f' w' => At f' [(0, .slice AC nC cC), (2, .bool false), (132, .bool (decide ((¬ (VsOK v12 ∧ 480 ≤ (if VsOK v12 then (fullN v12 720).1 else 0) ∧ (if VsOK v12 then (fullN v12 720).1 else 0) ≤ 1200)) ∨ (¬ ((n93 : Int) = (if VsOK v12 then (fullN v12 720).2 else 0))))))] ∧ Lo w90 w') ?_ ?_
            · refine SR.q' (r_mv (v := .bool _) rfl) <| SR.q' (r_not rfl) <| SR.q' (r_mv (v := .bool _) rfl) <| SR.splitN (fun h102 => ?_) (fun h102 => ?_)
              · refine SR.s' rfl <| SR.s' rfl <| SR.s' rfl <| SR.s' rfl <| SR.q' (r_pick true rfl (v := .bool true) rfl) <| SR.nil ?_
                exact ⟨_, rfl, ⟨⟨rfl, rfl, (eDT ((jmf h102).1 trivial)), trivial⟩, (Lo.refl _)⟩⟩
              · have hq103 := And.left h102
                have hq104 := vs_len hq103
                refine SR.g' rfl (r_mv (v := .slice _ _ _) rfl) <| SR.g' rfl (r_len und27 rfl) <| SR.g' rfl (r_mv (v := .int .i64 _) rfl) <| SR.g' rfl (r_ne rfl rfl) <| SR.q' (r_pick false rfl (v := .bool _) rfl) <| SR.nil ?_
                exact ⟨_, rfl, ⟨⟨rfl, rfl, (eND (jmt h102)), trivial⟩, (Lo.refl _)⟩⟩
            rintro f105 w106 ⟨hat107, hk108⟩
            rw [← sets_of_at hat107]
            have hz109 := hk108.size
            have hB110 := hB97.lo hk108
            have hJ111 := (hJ98).lo hk108
            refine W.cond_d rfl (fun h112 => ?_) (fun h112 => ?_)
            · refine W.seq ?_
              have hm113 := ((hm86).lo hk91).lo hk108
              refine W.regS (SR.q' (r_as (v := .bool false) rfl) <| SR.nil ?_)
              refine W.ret ?_
              refine ret1 rfl (v := .bool _) rfl ?_
              exact ⟨eR (eB (z_c_laws_FnRoom_114 C nC hbdC hleC h5 v12 v13 hq14 hq15 n9 hl18 hl19 hq20 n25 hl30 hl31 hq32 n36 hl41 hl42 hq43 h50 hq58 hq65 h78 h88 hq89 n93 hl99 hl100 hq101 h112)), hB110⟩
            · have hq115 : VsOK v12 ∧ 480 ≤ (if VsOK v12 then (fullN v12 720).1 else 0) ∧ (if VsOK v12 then (fullN v12 720).1 else 0) ≤ 1200 := (Classical.not_not.1 (not_or.1 h112).1)
              have hq116 : (n93 : Int) = (if VsOK v12 then (fullN v12 720).2 else 0) := (Classical.not_not.1 (not_or.1 h112).2)
              have hq117 := And.left hq115
              have hq118 := vs_len hq117
              refine W.skip ?_
              exact ⟨_, rfl, ⟨rfl, rfl, trivial⟩, hJ111⟩
          · refine W.skip ?_
            exact ⟨_, rfl, ⟨rfl, rfl, trivial⟩, (Lo.refl w73)⟩
        rintro f119 w120 ⟨hat121, hk122⟩
        rw [← sets_of_at hat121]
        have hz123 := hk122.size
        have hB124 := hB77.lo hk122
        refine W.seq ?_
        refine W.regS (SR.q' (r_mv (v := .slice _ _ _) rfl) <| SR.call ent11 (c_spec_DrawLongestGap w120 C (((hm86).lo hk122)) (by omega)) rfl ?_)
        rintro e w125 ⟨A127, n128, c129, v131, v132, rfl, hO130, hq133, hq134, hk126⟩
        refine ⟨_, rfl, ?_⟩
        have hz135 := hk126.size
        have hB136 := hB124.lo hk126
        have hl137 := hO130.len
        have hl138 := hO130.rd.bound
        have hq139 : GaLaw v131 v132 := ga_law v131 v132
        refine SR.q' (r_mv (v := .tuple (List.toArray _)) rfl) <| SR.q' (r_ext (v := .slice _ _ _) rfl rfl) <| SR.q' (r_ext (v := .int .i64 _) rfl rfl) <| SR.q' (r_as (v := .slice _ _ _) rfl) <| SR.q' (r_as (v := .int .i64 _) rfl) <| SR.nil ?_
        refine W.seq ?_
        have hm140 := ((hm86).lo hk122).lo hk126
        refine W.regS (SR.q' (r_mv (v := .slice _ _ _) rfl) <| SR.q' (r_mv (v := .int .i64 _) rfl) <| SR.call ent12 (c_impl_LongestGap w125 v131 (((hO130).rd)) v132) rfl ?_)
        rintro e w141 ⟨rfl, hk142⟩
        refine ⟨_, rfl, ?_⟩
        have hz143 := hk142.size
        have hB144 := hB136.lo hk142
        have hq145 : (0 ≤ (gapF v131 v132).1 ∧ (gapF v131 v132).1 ≤ 1200) ∧ (0 ≤ (gapF v131 v132).2 ∧ (gapF v131 v132).2 ≤ 1200) := gapF_rng v131 v132
        refine SR.q' (r_mv (v := .tuple (List.toArray _)) rfl) <| SR.q' (r_ext (v := .int .i64 _) rfl rfl) <| SR.q' (r_ext (v := .int .i64 _) rfl rfl) <| SR.q' (r_ext (v := .bool _) rfl rfl) <| SR.q' (r_as (v := .int .i64 _) rfl) <| SR.q' (r_as (v := .int .i64 _) rfl) <| SR.q' (r_as (v := .bool _) rfl) <| SR.nil ?_
        refine W.seq ?_
        refine W.seq ?_
        refine W.regS (SR.q' (r_mv (v := .slice _ _ _) rfl) <| SR.q' (r_mv (v := .int .i64 _) rfl) <| SR.call ent13 (c_spec_LongestGap w141 v131 ((((hO130).lo hk142).rd)) v132) rfl ?_)
        rintro e w146 ⟨rfl, hk147⟩
        refine ⟨_, rfl, ?_⟩
        have hz148 := hk147.size
        have hB149 := hB144.lo hk147
        have hq150 : (0 ≤ (gapF v131 v132).1 ∧ (gapF v131 v132).1 ≤ 1200) ∧ (0 ≤ (gapF v131 v132).2 ∧ (gapF v131 v132).2 ≤ 1200) := gapF_rng v131 v132
        refine SR.q' (r_mv (v := .tuple (List.toArray _)) rfl) <| SR.q' (r_ext (v := .int .i64 _) rfl rfl) <| SR.q' (r_ext (v := .int .i64 _) rfl rfl) <| SR.q' (r_ext (v := .bool _) rfl rfl) <| SR.q' (r_as (v := .int .i64 _) rfl) <| SR.q' (r_as (v := .int .i64 _) rfl) <| SR.q' (r_as (v := .bool _) rfl) <| SR.nil ?_
        refine W.seq ?_
        have hm151 := ((hm140).lo hk142).lo hk147
        have hm152 := ((hO130).lo hk142).lo hk147
        refine W.regS (SR.q' (r_mv (v := .int .i64 _) rfl) <| SR.q' (r_mv (v := .int .i64 _) rfl) <| SR.q' (r_ne_s rfl rfl) <| SR.q' (r_mv (v := .bool _) rfl) <| SR.g' rfl (r_mv (v := .int .i64 _) rfl) <| SR.g' rfl (r_mv (v := .int .i64 _) rfl) <| SR.g' rfl (r_ne_s rfl rfl) <| SR.q' (r_pick false rfl (v := .bool _) rfl) <| SR.q' (r_mv (v := .bool _) rfl) <| SR.g' rfl (r_mv (v := .bool _) rfl) <| SR.g' rfl (r_mv (v := .bool _) rfl) <| SR.g' rfl (r_neb_s und4 rfl rfl) <| SR.q' (r_pick false rfl (v := .bool _) rfl) <| SR.nil ?_)
        refine W.cond_f rfl ?_
        refine W.skip ?_
        refine W.seq ?_
        refine W.seq ?_
        refine W.regJS (fun f' w' => At f' [(0, .slice AC nC cC), (2, .bool false), (17, .slice A127 n128 c129), (18, .int .i64 v132), (19, .int .i64 ((gapF v131 v132).1)), (20, .int .i64 ((gapF v131 v132).2)), (169, .bool (decide ((VsOK v131 ∧ (1 ≤ v132 ∧ v132 ≤ 6)) ∧ (0 < ((gapF v131 v132).2)))))] ∧ Lo w146 w') ?_ ?_
        · refine SR.q' (r_mv (v := .bool _) rfl) <| SR.q' (r_mv (v := .bool _) rfl) <| SR.splitD (fun h153 => ?_) (fun h153 => ?_)
          · have hq154 := And.left h153
            have hq155 := vs_len hq154
            refine SR.g' rfl (r_mv (v := .int .i64 _) rfl) <| SR.g' rfl (r_gt rfl rfl) <| SR.q' (r_pick true rfl (v := .bool _) rfl) <| SR.nil ?_
            exact ⟨_, rfl, ⟨⟨rfl, rfl, rfl, rfl, rfl, rfl, (eDD (jat h153)), trivial⟩, (Lo.refl _)⟩⟩
          · refine SR.s' rfl <| SR.s' rfl <| SR.q' (r_pick false rfl (v := .bool false) rfl) <| SR.nil ?_
            exact ⟨_, rfl, ⟨⟨rfl, rfl, rfl, rfl, rfl, rfl, (eDF (jaf h153).2), trivial⟩, (Lo.refl _)⟩⟩
        rintro f156 w157 ⟨hat158, hk159⟩
        rw [← sets_of_at hat158]
        have hz160 := hk159.size
        have hB161 := hB149.lo hk159
        refine W.thenJ (fun f' w' => At f' [(0, .slice AC nC cC), (2, .bool false)] ∧ Lo w157 w') ?_ ?_
        · refine W.cond_d rfl (fun h162 => ?_) (fun h162 => ?_)
          · have hq163 : VsOK v131 ∧ (1 ≤ v132 ∧ v132 ≤ 6) := h162.1
            have hq164 : 0 < ((gapF v131 v132).2) := h162.2
            have hq165 := And.left hq163
            have hq166 := vs_len hq165
            refine W.seq ?_
            refine W.regS (SR.q' (r_mv (v := .slice _ _ _) rfl) <| SR.q' (r_mv (v := .int .i64 _) rfl) <| SR.q' (r_mv (v := .int .i64 _) rfl) <| SR.q' (r_mv (v := .int .i64 _) rfl) <| SR.q' (r_add rfl rfl (by omega)) <| SR.call ent14 (c_impl_FreeSeats w157 v131 ((((hm152).lo hk159).rd)) ((gapF v131 v132).1) (((gapF v131 v132).1) + ((gapF v131 v132).2))) rfl ?_)
            rintro e w167 ⟨A169, n170, c171, rfl, hO172, hk168⟩
            refine ⟨_, rfl, ?_⟩
            have hz173 := hk168.size
            have hB174 := hB161.lo hk168
            have hJ175 := ((Lo.refl w157)).lo hk168
            have hl176 := hO172.len
            have hl177 := hO172.rd.bound
            have hq178 := freeF_len v131 ((gapF v131 v132).1) (((gapF v131 v132).1) + ((gapF v131 v132).2))
            refine SR.q' (r_mv (v := .tuple (List.toArray _)) rfl) <| SR.q' (r_ext (v := .slice _ _ _) rfl rfl) <| SR.q' (r_ext (v := .bool _) rfl rfl) <| SR.q' (r_as (v := .slice _ _ _) rfl) <| SR.q' (r_as (v := .bool _) rfl) <| SR.nil ?_
            refine W.seq ?_
            refine W.seq ?_
            have hm179 := ((hm151).lo hk159).lo hk168
            have hm180 := ((hm152).lo hk159).lo hk168
            refine W.regJS (fun f' w' => At f' [(0, .slice AC nC cC), (2, .bool false), (17, .slice A127 n128 c129), (18, .int .i64 v132), (19, .int .i64 ((gapF v131 v132).1)), (20, .int .i64 ((gapF v131 v132).2)), (186, .bool (decide ((¬ (VsOK v131 ∧ (480 ≤ ((gapF v131 v132).1) ∧ ((gapF v131 v132).1) ≤ 1200) ∧ (480 ≤ (((gapF v131 v132).1) + ((gapF v131 v132).2)) ∧ (((gapF v131 v132).1) + ((gapF v131 v132).2)) ≤ 1200) ∧ ((gapF v131 v132).1) < (((gapF v131 v132).1) + ((gapF v131 v132).2)))) ∨ (¬ (v132 ∈ (freeF v131 ((gapF v131 v132).1) (((gapF v131 v132).1) + ((gapF v131 v132).2))))))))] ∧ Lo w167 w') ?_ ?_
            · refine SR.q' (r_mv (v := .bool _) rfl) <| SR.q' (r_not rfl) <| SR.q' (r_mv (v := .bool _) rfl) <| SR.splitN (fun h181 => ?_) (fun h181 => ?_)
              · refine SR.s' rfl <| SR.s' rfl <| SR.s' rfl <| SR.s' rfl <| SR.q' (r_pick true rfl (v := .bool true) rfl) <| SR.nil ?_
                exact ⟨_, rfl, ⟨⟨rfl, rfl, rfl, rfl, rfl, rfl, (eDT ((jmf h181).1 trivial)), trivial⟩, (Lo.refl _)⟩⟩
              · have hq182 := And.left h181
                have hq183 := vs_len hq182
                refine SR.g' rfl (r_mv (v := .slice _ _ _) rfl) <| SR.g' rfl (r_mv (v := .int .i64 _) rfl) <| SR.gcall rfl ent15 (c_laws_rHas w167 (freeF v131 ((gapF v131 v132).1) (((gapF v131 v132).1) + ((gapF v131 v132).2))) (((hO172).rd)) v132) rfl ?_
                rintro e w184 ⟨rfl, hk185⟩
                refine ⟨_, rfl, ?_⟩
                have hz186 := hk185.size
                have hB187 := hB174.lo hk185
                refine SR.g' rfl (r_not rfl) <| SR.q' (r_pick false rfl (v := .bool _) rfl) <| SR.nil ?_
                exact ⟨_, rfl, ⟨⟨rfl, rfl, rfl, rfl, rfl, rfl, (eND (jmt h181)), trivial⟩, (hk185)⟩⟩
            rintro f188 w189 ⟨hat190, hk191⟩
            rw [← sets_of_at hat190]
            have hz192 := hk191.size
            have hB193 := hB174.lo hk191
            have hJ194 := (hJ175).lo hk191
            refine W.cond_d rfl (fun h195 => ?_) (fun h195 => ?_)
            · refine W.seq ?_
              refine W.regS (SR.q' (r_as (v := .bool false) rfl) <| SR.nil ?_)
              refine W.ret ?_
              refine ret1 rfl (v := .bool _) rfl ?_
              exact ⟨eR (eB (z_c_laws_FnRoom_196 C nC hbdC hleC h5 v12 v13 hq14 hq15 n9 hl18 hl19 hq20 n25 hl30 hl31 hq32 n36 hl41 hl42 hq43 h50 hq58 hq65 h78 v131 v132 hq133 hq134 n128 hl137 hl138 hq139 hq145 hq150 h162 hq163 hq164 hq165 hq166 n170 hl176 hl177 hq178 h195)), hB193⟩
            · have hq197 : VsOK v131 ∧ (480 ≤ ((gapF v131 v132).1) ∧ ((gapF v131 v132).1) ≤ 1200) ∧ (480 ≤ (((gapF v131 v132).1) + ((gapF v131 v132).2)) ∧ (((gapF v131 v132).1) + ((gapF v131 v132).2)) ≤ 1200) ∧ ((gapF v131 v132).1) < (((gapF v131 v132).1) + ((gapF v131 v132).2)) := (Classical.not_not.1 (not_or.1 h195).1)
              have hq198 : v132 ∈ (freeF v131 ((gapF v131 v132).1) (((gapF v131 v132).1) + ((gapF v131 v132).2))) := (Classical.not_not.1 (not_or.1 h195).2)
              have hq199 := And.left hq197
              have hq200 := vs_len hq199
              refine W.skip ?_
              refine W.seq ?_
              refine W.regS (SR.q' (r_mv (v := .int .i64 _) rfl) <| SR.q' (r_gt rfl rfl) <| SR.nil ?_)
              refine W.cond_d rfl (fun h201 => ?_) (fun h201 => ?_)
              · refine W.seq ?_
                refine W.regS (SR.q' (r_mv (v := .slice _ _ _) rfl) <| SR.q' (r_mv (v := .int .i64 _) rfl) <| SR.q' (r_sub rfl rfl (by omega)) <| SR.q' (r_mv (v := .int .i64 _) rfl) <| SR.q' (r_mv (v := .int .i64 _) rfl) <| SR.q' (r_add rfl rfl (by omega)) <| SR.call ent14 (c_impl_FreeSeats w189 v131 ((((hm180).lo hk191).rd)) (((gapF v131 v132).1) - 1) (((gapF v131 v132).1) + ((gapF v131 v132).2))) rfl ?_)
                rintro e w202 ⟨A204, n205, c206, rfl, hO207, hk203⟩
                refine ⟨_, rfl, ?_⟩
                have hz208 := hk203.size
                have hB209 := hB193.lo hk203
                have hJ210 := (hJ194).lo hk203
                have hl211 := hO207.len
                have hl212 := hO207.rd.bound
                have hq213 := freeF_len v131 (((gapF v131 v132).1) - 1) (((gapF v131 v132).1) + ((gapF v131 v132).2))
                refine SR.q' (r_mv (v := .tuple (List.toArray _)) rfl) <| SR.q' (r_ext (v := .slice _ _ _) rfl rfl) <| SR.q' (r_ext (v := .bool _) rfl rfl) <| SR.q' (r_as (v := .slice _ _ _) rfl) <| SR.q' (r_as (v := .bool _) rfl) <| SR.nil ?_
                refine W.seq ?_
                have hm214 := ((hm179).lo hk191).lo hk203
                refine W.regJS (fun f' w' => At f' [(0, .slice AC nC cC), (2, .bool false), (205, .bool (decide ((¬ (VsOK v131 ∧ (480 ≤ (((gapF v131 v132).1) - 1) ∧ (((gapF v131 v132).1) - 1) ≤ 1200) ∧ (480 ≤ (((gapF v131 v132).1) + ((gapF v131 v132).2)) ∧ (((gapF v131 v132).1) + ((gapF v131 v132).2)) ≤ 1200) ∧ (((gapF v131 v132).1) - 1) < (((gapF v131 v132).1) + ((gapF v131 v132).2)))) ∨ (v132 ∈ (freeF v131 (((gapF v131 v132).1) - 1) (((gapF v131 v132).1) + ((gapF v131 v132).2)))))))] ∧ Lo w202 w') ?_ ?_
                · refine SR.q' (r_mv (v := .bool _) rfl) <| SR.q' (r_not rfl) <| SR.q' (r_mv (v := .bool _) rfl) <| SR.splitN (fun h215 => ?_) (fun h215 => ?_)
                  · refine SR.s' rfl <| SR.s' rfl <| SR.s' rfl <| SR.q' (r_pick true rfl (v := .bool true) rfl) <| SR.nil ?_
                    exact ⟨_, rfl, ⟨⟨rfl, rfl, (eDT ((jmf h215).1 trivial)), trivial⟩, (Lo.refl _)⟩⟩
                  · have hq216 := And.left h215
                    have hq217 := vs_len hq216
                    refine SR.g' rfl (r_mv (v := .slice _ _ _) rfl) <| SR.g' rfl (r_mv (v := .int .i64 _) rfl) <| SR.gcall rfl ent15 (c_laws_rHas w202 (freeF v131 (((gapF v131 v132).1) - 1) (((gapF v131 v132).1) + ((gapF v131 v132).2))) (((hO207).rd)) v132) rfl ?_
                    rintro e w218 ⟨rfl, hk219⟩
                    refine ⟨_, rfl, ?_⟩
                    have hz220 := hk219.size
                    have hB221 := hB209.lo hk219
                    refine SR.q' (r_pick false rfl (v := .bool _) rfl) <| SR.nil ?_
                    exact ⟨_, rfl, ⟨⟨rfl, rfl, (eDD (jmt h215)), trivial⟩, (hk219)⟩⟩
                rintro f222 w223 ⟨hat224, hk225⟩
                rw [← sets_of_at hat224]
                have hz226 := hk225.size
                have hB227 := hB209.lo hk225
                have hJ228 := (hJ210).lo hk225
                refine W.cond_d rfl (fun h229 => ?_) (fun h229 => ?_)
                · refine W.seq ?_
                  refine W.regS (SR.q' (r_as (v := .bool false) rfl) <| SR.nil ?_)
                  refine W.ret ?_
                  refine ret1 rfl (v := .bool _) rfl ?_
                  exact ⟨eR (eB (z_c_laws_FnRoom_230 C nC hbdC hleC h5 v12 v13 hq14 hq15 n9 hl18 hl19 hq20 n25 hl30 hl31 hq32 n36 hl41 hl42 hq43 h50 hq58 hq65 h78 v131 v132 hq133 hq134 n128 hl137 hl138 hq139 hq145 hq150 h162 hq163 hq164 hq165 hq166 n170 hl176 hl177 hq178 h195 hq197 hq198 hq199 hq200 h201 n205 hl211 hl212 hq213 h229)), hB227⟩
                · have hq231 : VsOK v131 ∧ (480 ≤ (((gapF v131 v132).1) - 1) ∧ (((gapF v131 v132).1) - 1) ≤ 1200) ∧ (480 ≤ (((gapF v131 v132).1) + ((gapF v131 v132).2)) ∧ (((gapF v131 v132).1) + ((gapF v131 v132).2)) ≤ 1200) ∧ (((gapF v131 v132).1) - 1) < (((gapF v131 v132).1) + ((gapF v131 v132).2)) := (Classical.not_not.1 (not_or.1 h229).1)
                  have hq232 : ¬ (v132 ∈ (freeF v131 (((gapF v131 v132).1) - 1) (((gapF v131 v132).1) + ((gapF v131 v132).2)))) := (not_or.1 h229).2
                  have hq233 := And.left hq231
                  have hq234 := vs_len hq233
                  refine W.skip ?_
                  exact ⟨_, rfl, ⟨rfl, rfl, trivial⟩, hJ228⟩
              · refine W.skip ?_
                exact ⟨_, rfl, ⟨rfl, rfl, trivial⟩, hJ194⟩
          · refine W.skip ?_
            exact ⟨_, rfl, ⟨rfl, rfl, trivial⟩, (Lo.refl w157)⟩
        rintro f235 w236 ⟨hat237, hk238⟩
        rw [← sets_of_at hat237]
        have hz239 := hk238.size
        have hB240 := hB161.lo hk238
        refine W.seq ?_
        have hm241 := ((hm151).lo hk159).lo hk238
        refine W.regS (SR.q' (r_mv (v := .slice _ _ _) rfl) <| SR.call ent16 (c_spec_DrawChangeSeat w236 C ((hm241)) (by omega)) rfl ?_)
        rintro e w242 ⟨A244, n245, c246, v248, v249, v250, v251, rfl, hO247, hq252, hq253, hk243⟩
        refine ⟨_, rfl, ?_⟩
        have hz254 := hk243.size
        have hB255 := hB240.lo hk243
        have hl256 := hO247.len
        have hl257 := hO247.rd.bound
        have hq258 : CsLaw v248 v249 v250 v251 := cs_law v248 v249 v250 v251
        refine SR.q' (r_mv (v := .tuple (List.toArray _)) rfl) <| SR.q' (r_ext (v := .slice _ _ _) rfl rfl) <| SR.q' (r_ext (v := .int .i64 _) rfl rfl) <| SR.q' (r_ext (v := .int .i64 _) rfl rfl) <| SR.q' (r_ext (v := .int .i64 _) rfl rfl) <| SR.q' (r_as (v := .slice _ _ _) rfl) <| SR.q' (r_as (v := .int .i64 _) rfl) <| SR.q' (r_as (v := .int .i64 _) rfl) <| SR.q' (r_as (v := .int .i64 _) rfl) <| SR.nil ?_
        refine W.seq ?_
        refine W.regS (SR.q' (r_mv (v := .slice _ _ _) rfl) <| SR.q' (r_mv (v := .int .i64 _) rfl) <| SR.q' (r_mv (v := .int .i64 _) rfl) <| SR.q' (r_mv (v := .int .i64 _) rfl) <| SR.call ent17 (c_impl_ChangeSeat w242 v248 (((hO247).rd)) v249 v250 v251) rfl ?_)
        rintro e w259 ⟨A261, n262, c263, rfl, hO264, hk260⟩
        refine ⟨_, rfl, ?_⟩
        have hz265 := hk260.size
        have hB266 := hB255.lo hk260
        have hl267 := hO264.len
        have hl268 := hO264.rd.bound
        have hq269 := chg_len v248 v249 v250 v251
        refine SR.q' (r_mv (v := .tuple (List.toArray _)) rfl) <| SR.q' (r_ext (v := .slice _ _ _) rfl rfl) <| SR.q' (r_ext (v := .bool _) rfl rfl) <| SR.q' (r_as (v := .slice _ _ _) rfl) <| SR.q' (r_as (v := .bool _) rfl) <| SR.nil ?_
        refine W.seq ?_
        refine W.seq ?_
        have hm270 := ((hm241).lo hk243).lo hk260
        refine W.regS (SR.q' (r_mv (v := .slice _ _ _) rfl) <| SR.q' (r_mv (v := .int .i64 _) rfl) <| SR.q' (r_mv (v := .int .i64 _) rfl) <| SR.q' (r_mv (v := .int .i64 _) rfl) <| SR.call ent18 (c_spec_ChangeSeat w259 v248 ((((hO247).lo hk260).rd)) v249 v250 v251) rfl ?_)
        rintro e w271 ⟨A273, n274, c275, rfl, hO276, hk272⟩
        refine ⟨_, rfl, ?_⟩
        have hz277 := hk272.size
        have hB278 := hB266.lo hk272
        have hl279 := hO276.len
        have hl280 := hO276.rd.bound
        have hq281 := chg_len v248 v249 v250 v251
        refine SR.q' (r_mv (v := .tuple (List.toArray _)) rfl) <| SR.q' (r_ext (v := .slice _ _ _) rfl rfl) <| SR.q' (r_ext (v := .bool _) rfl rfl) <| SR.q' (r_as (v := .slice _ _ _) rfl) <| SR.q' (r_as (v := .bool _) rfl) <| SR.nil ?_
        refine W.seq ?_
        have hm282 := ((hO247).lo hk260).lo hk272
        refine W.regS (SR.q' (r_mv (v := .bool _) rfl) <| SR.q' (r_mv (v := .bool _) rfl) <| SR.q' (r_neb_s und4 rfl rfl) <| SR.q' (r_mv (v := .bool _) rfl) <| SR.g' rfl (r_mv (v := .slice _ _ _) rfl) <| SR.g' rfl (r_mv (v := .slice _ _ _) rfl) <| SR.gcall rfl ent19 (c_laws_rVisits w271 ((chg v248 v249 v250 v251).getD []) ((((hO264).lo hk272).rd)) ((chg v248 v249 v250 v251).getD []) (((hO276).rd))) rfl ?_)
        rintro e w283 ⟨rfl, hk284⟩
        refine ⟨_, rfl, ?_⟩
        have hz285 := hk284.size
        have hB286 := hB278.lo hk284
        refine SR.g' rfl (r_not rfl) <| SR.q' (r_pick false rfl (v := .bool _) rfl) <| SR.nil ?_
        refine W.cond_n rfl (fun h287 => ?_) (fun h287 => ?_)
        · refine W.seq ?_
          have hm288 := ((hm270).lo hk272).lo hk284
          have hm289 := ((hO264).lo hk272).lo hk284
          refine W.regS (SR.q' (r_as (v := .bool false) rfl) <| SR.nil ?_)
          refine W.ret ?_
          refine ret1 rfl (v := .bool _) rfl ?_
          exact ⟨eR (eB (z_c_laws_FnRoom_290 C nC hbdC hleC h5 v12 v13 hq14 hq15 n9 hl18 hl19 hq20 n25 hl30 hl31 hq32 n36 hl41 hl42 hq43 h50 hq58 hq65 h78 v131 v132 hq133 hq134 n128 hl137 hl138 hq139 hq145 hq150 v248 v249 v250 v251 hq252 hq253 n245 hl256 hl257 hq258 n262 hl267 hl268 hq269 n274 hl279 hl280 hq281 h287)), hB286⟩
        · refine W.skip ?_
          refine W.seq ?_
          refine W.seq ?_
          have hm291 := ((hm270).lo hk272).lo hk284
          have hm292 := ((hO264).lo hk272).lo hk284
          refine W.regS (SR.q' (r_mv (v := .bool _) rfl) <| SR.nil ?_)
          refine W.thenJ (fun f' w' => At f' [(0, .slice AC nC cC), (2, .bool false)] ∧ Lo w283 w') ?_ ?_
          · refine W.cond_b rfl (fun h293 => ?_) (fun h293 => ?_)
            · refine W.seq ?_
              refine W.regS (SR.q' (r_mv (v := .slice _ _ _) rfl) <| SR.q' (r_mv (v := .int .i64 _) rfl) <| SR.q' (r_mv (v := .int .i64 _) rfl) <| SR.call ent20 (c_impl_SeatOf w283 ((chg v248 v249 v250 v251).getD []) (((hm292).rd)) v249 v250) rfl ?_)
              rintro e w294 ⟨rfl, hk295⟩
              refine ⟨_, rfl, ?_⟩
              have hz296 := hk295.size
              have hB297 := hB286.lo hk295
              have hJ298 := ((Lo.refl w283)).lo hk295
              refine SR.q' (r_mv (v := .tuple (List.toArray _)) rfl) <| SR.q' (r_ext (v := .int .i64 _) rfl rfl) <| SR.q' (r_ext (v := .bool _) rfl rfl) <| SR.q' (r_as (v := .int .i64 _) rfl) <| SR.q' (r_as (v := .bool _) rfl) <| SR.nil ?_
              refine W.seq ?_
              have hm299 := ((hm282).lo hk284).lo hk295
              refine W.regS (SR.q' (r_mv (v := .slice _ _ _) rfl) <| SR.q' (r_mv (v := .int .i64 _) rfl) <| SR.call ent21 (c_impl_SeatMinutes w294 v248 (((hm299).rd)) v249) rfl ?_)
              rintro e w300 ⟨rfl, hk301⟩
              refine ⟨_, rfl, ?_⟩
              have hz302 := hk301.size
              have hB303 := hB297.lo hk301
              have hJ304 := (hJ298).lo hk301
              have hq305 : 0 ≤ (if VsOK v248 ∧ (1 ≤ v249 ∧ v249 ≤ 999) then minsN v248 v249 else 0) ∧ (if VsOK v248 ∧ (1 ≤ v249 ∧ v249 ≤ 999) then minsN v248 v249 else 0) ≤ 10800 := mins_rng v248 v249
              refine SR.q' (r_mv (v := .tuple (List.toArray _)) rfl) <| SR.q' (r_ext (v := .int .i64 _) rfl rfl) <| SR.q' (r_ext (v := .bool _) rfl rfl) <| SR.q' (r_as (v := .int .i64 _) rfl) <| SR.q' (r_as (v := .bool _) rfl) <| SR.nil ?_
              refine W.seq ?_
              have hm306 := ((hm291).lo hk295).lo hk301
              have hm307 := ((hm292).lo hk295).lo hk301
              refine W.regS (SR.q' (r_mv (v := .slice _ _ _) rfl) <| SR.q' (r_mv (v := .int .i64 _) rfl) <| SR.call ent21 (c_impl_SeatMinutes w300 ((chg v248 v249 v250 v251).getD []) (((hm307).rd)) v249) rfl ?_)
              rintro e w308 ⟨rfl, hk309⟩
              refine ⟨_, rfl, ?_⟩
              have hz310 := hk309.size
              have hB311 := hB303.lo hk309
              have hJ312 := (hJ304).lo hk309
              have hq313 : 0 ≤ (if VsOK ((chg v248 v249 v250 v251).getD []) ∧ (1 ≤ v249 ∧ v249 ≤ 999) then minsN ((chg v248 v249 v250 v251).getD []) v249 else 0) ∧ (if VsOK ((chg v248 v249 v250 v251).getD []) ∧ (1 ≤ v249 ∧ v249 ≤ 999) then minsN ((chg v248 v249 v250 v251).getD []) v249 else 0) ≤ 10800 := mins_rng ((chg v248 v249 v250 v251).getD []) v249
              refine SR.q' (r_mv (v := .tuple (List.toArray _)) rfl) <| SR.q' (r_ext (v := .int .i64 _) rfl rfl) <| SR.q' (r_ext (v := .bool _) rfl rfl) <| SR.q' (r_as (v := .int .i64 _) rfl) <| SR.q' (r_as (v := .bool _) rfl) <| SR.nil ?_
              refine W.seq ?_
              refine W.regJS (fun f' w' => At f' [(0, .slice AC nC cC), (2, .bool false), (277, .bool (decide ((¬ (VsOK ((chg v248 v249 v250 v251).getD []) ∧ (1 ≤ v249 ∧ v249 ≤ 999) ∧ (480 ≤ v250 ∧ v250 ≤ 1200))) ∨ ((¬ (VsOK v248 ∧ (1 ≤ v249 ∧ v249 ≤ 999))) ∨ ((¬ (VsOK ((chg v248 v249 v250 v251).getD []) ∧ (1 ≤ v249 ∧ v249 ≤ 999))) ∨ ((¬ ((seatO ((chg v248 v249 v250 v251).getD []) v249 v250) = v251)) ∨ (¬ ((if VsOK v248 ∧ (1 ≤ v249 ∧ v249 ≤ 999) then minsN v248 v249 else 0) = (if VsOK ((chg v248 v249 v250 v251).getD []) ∧ (1 ≤ v249 ∧ v249 ≤ 999) then minsN ((chg v248 v249 v250 v251).getD []) v249 else 0)))))))))] ∧ Lo w308 w') ?_ ?_
              · refine SR.q' (r_mv (v := .bool _) rfl) <| SR.q' (r_not rfl) <| SR.q' (r_mv (v := .bool _) rfl) <| SR.splitN (fun h314 => ?_) (fun h314 => ?_)
                · refine SR.s' rfl <| SR.s' rfl <| SR.q' (r_pick true rfl (v := .bool true) rfl) <| SR.q' (r_mv (v := .bool _) rfl) <| SR.s' rfl <| SR.s' rfl <| SR.q' (r_pick true rfl (v := .bool true) rfl) <| SR.q' (r_mv (v := .bool _) rfl) <| SR.s' rfl <| SR.s' rfl <| SR.s' rfl <| SR.q' (r_pick true rfl (v := .bool true) rfl) <| SR.q' (r_mv (v := .bool _) rfl) <| SR.s' rfl <| SR.s' rfl <| SR.s' rfl <| SR.q' (r_pick true rfl (v := .bool true) rfl) <| SR.nil ?_
                  exact ⟨_, rfl, ⟨⟨rfl, rfl, (eDT ((jmf h314).1 trivial)), trivial⟩, (Lo.refl _)⟩⟩
                · refine SR.g' rfl (r_mv (v := .bool _) rfl) <| SR.g' rfl (r_not rfl) <| SR.q' (r_pick false rfl (v := .bool _) rfl) <| SR.q' (r_mv (v := .bool _) rfl) <| SR.splitN (fun h315 => ?_) (fun h315 => ?_)
                  · refine SR.s' rfl <| SR.s' rfl <| SR.q' (r_pick true rfl (v := .bool true) rfl) <| SR.q' (r_mv (v := .bool _) rfl) <| SR.s' rfl <| SR.s' rfl <| SR.s' rfl <| SR.q' (r_pick true rfl (v := .bool true) rfl) <| SR.q' (r_mv (v := .bool _) rfl) <| SR.s' rfl <| SR.s' rfl <| SR.s' rfl <| SR.q' (r_pick true rfl (v := .bool true) rfl) <| SR.nil ?_
                    exact ⟨_, rfl, ⟨⟨rfl, rfl, (eDT (((jmf h315).trans (jmt h314)).1 trivial)), trivial⟩, (Lo.refl _)⟩⟩
                  · have hq316 := And.left h315
                    have hq317 := vs_len hq316
                    refine SR.g' rfl (r_mv (v := .bool _) rfl) <| SR.g' rfl (r_not rfl) <| SR.q' (r_pick false rfl (v := .bool _) rfl) <| SR.q' (r_mv (v := .bool _) rfl) <| SR.splitN (fun h318 => ?_) (fun h318 => ?_)
                    · refine SR.s' rfl <| SR.s' rfl <| SR.s' rfl <| SR.q' (r_pick true rfl (v := .bool true) rfl) <| SR.q' (r_mv (v := .bool _) rfl) <| SR.s' rfl <| SR.s' rfl <| SR.s' rfl <| SR.q' (r_pick true rfl (v := .bool true) rfl) <| SR.nil ?_
                      exact ⟨_, rfl, ⟨⟨rfl, rfl, (eDT ((((jmf h318).trans (jmt h315)).trans (jmt h314)).1 trivial)), trivial⟩, (Lo.refl _)⟩⟩
                    · refine SR.g' rfl (r_mv (v := .int .i64 _) rfl) <| SR.g' rfl (r_mv (v := .int .i64 _) rfl) <| SR.g' rfl (r_ne rfl rfl) <| SR.q' (r_pick false rfl (v := .bool _) rfl) <| SR.q' (r_mv (v := .bool _) rfl) <| SR.splitN (fun h319 => ?_) (fun h319 => ?_)
                      · refine SR.s' rfl <| SR.s' rfl <| SR.s' rfl <| SR.q' (r_pick true rfl (v := .bool true) rfl) <| SR.nil ?_
                        exact ⟨_, rfl, ⟨⟨rfl, rfl, (eDT (((((jmf h319).trans (jmt h318)).trans (jmt h315)).trans (jmt h314)).1 trivial)), trivial⟩, (Lo.refl _)⟩⟩
                      · refine SR.g' rfl (r_mv (v := .int .i64 _) rfl) <| SR.g' rfl (r_mv (v := .int .i64 _) rfl) <| SR.g' rfl (r_ne rfl rfl) <| SR.q' (r_pick false rfl (v := .bool _) rfl) <| SR.nil ?_
                        exact ⟨_, rfl, ⟨⟨rfl, rfl, (eND ((((jmt h319).trans (jmt h318)).trans (jmt h315)).trans (jmt h314))), trivial⟩, (Lo.refl _)⟩⟩
              rintro f320 w321 ⟨hat322, hk323⟩
              rw [← sets_of_at hat322]
              have hz324 := hk323.size
              have hB325 := hB311.lo hk323
              have hJ326 := (hJ312).lo hk323
              refine W.cond_d rfl (fun h327 => ?_) (fun h327 => ?_)
              · refine W.seq ?_
                have hm328 := ((hm306).lo hk309).lo hk323
                refine W.regS (SR.q' (r_as (v := .bool false) rfl) <| SR.nil ?_)
                refine W.ret ?_
                refine ret1 rfl (v := .bool _) rfl ?_
                exact ⟨eR (eB (z_c_laws_FnRoom_329 C nC hbdC hleC h5 v12 v13 hq14 hq15 n9 hl18 hl19 hq20 n25 hl30 hl31 hq32 n36 hl41 hl42 hq43 h50 hq58 hq65 h78 v131 v132 hq133 hq134 n128 hl137 hl138 hq139 hq145 hq150 v248 v249 v250 v251 hq252 hq253 n245 hl256 hl257 hq258 n262 hl267 hl268 hq269 n274 hl279 hl280 hq281 h287 h293 hq305 hq313 h327)), hB325⟩
              · have hq330 : VsOK ((chg v248 v249 v250 v251).getD []) ∧ (1 ≤ v249 ∧ v249 ≤ 999) ∧ (480 ≤ v250 ∧ v250 ≤ 1200) := (Classical.not_not.1 (not_or.1 h327).1)
                have hq331 : VsOK v248 ∧ (1 ≤ v249 ∧ v249 ≤ 999) := (Classical.not_not.1 (not_or.1 (not_or.1 h327).2).1)
                have hq332 : VsOK ((chg v248 v249 v250 v251).getD []) ∧ (1 ≤ v249 ∧ v249 ≤ 999) := (Classical.not_not.1 (not_or.1 (not_or.1 (not_or.1 h327).2).2).1)
                have hq333 : (seatO ((chg v248 v249 v250 v251).getD []) v249 v250) = v251 := (Classical.not_not.1 (not_or.1 (not_or.1 (not_or.1 (not_or.1 h327).2).2).2).1)
                have hq334 : (if VsOK v248 ∧ (1 ≤ v249 ∧ v249 ≤ 999) then minsN v248 v249 else 0) = (if VsOK ((chg v248 v249 v250 v251).getD []) ∧ (1 ≤ v249 ∧ v249 ≤ 999) then minsN ((chg v248 v249 v250 v251).getD []) v249 else 0) := (Classical.not_not.1 (not_or.1 (not_or.1 (not_or.1 (not_or.1 h327).2).2).2).2)
                have hq335 := And.left hq331
                have hq336 := vs_len hq335
                refine W.skip ?_
                exact ⟨_, rfl, ⟨rfl, rfl, trivial⟩, hJ326⟩
            · refine W.skip ?_
              exact ⟨_, rfl, ⟨rfl, rfl, trivial⟩, (Lo.refl w283)⟩
          rintro f337 w338 ⟨hat339, hk340⟩
          rw [← sets_of_at hat339]
          have hz341 := hk340.size
          have hB342 := hB286.lo hk340
          refine W.seq ?_
          refine W.regS (SR.q' (r_mv (v := .slice _ _ _) rfl) <| SR.call ent22 (c_spec_DrawSeatMinutes w338 C (((hm291).lo hk340)) (by omega)) rfl ?_)
          rintro e w343 ⟨A345, n346, c347, v349, v350, rfl, hO348, hq351, hq352, hk344⟩
          refine ⟨_, rfl, ?_⟩
          have hz353 := hk344.size
          have hB354 := hB342.lo hk344
          have hl355 := hO348.len
          have hl356 := hO348.rd.bound
          refine SR.q' (r_mv (v := .tuple (List.toArray _)) rfl) <| SR.q' (r_ext (v := .slice _ _ _) rfl rfl) <| SR.q' (r_ext (v := .int .i64 _) rfl rfl) <| SR.q' (r_as (v := .slice _ _ _) rfl) <| SR.q' (r_as (v := .int .i64 _) rfl) <| SR.nil ?_
          refine W.seq ?_
          have hm357 := ((hm291).lo hk340).lo hk344
          refine W.regS (SR.q' (r_mv (v := .slice _ _ _) rfl) <| SR.q' (r_mv (v := .int .i64 _) rfl) <| SR.call ent21 (c_impl_SeatMinutes w343 v349 (((hO348).rd)) v350) rfl ?_)
          rintro e w358 ⟨rfl, hk359⟩
          refine ⟨_, rfl, ?_⟩
          have hz360 := hk359.size
          have hB361 := hB354.lo hk359
          have hq362 : 0 ≤ (if VsOK v349 ∧ (1 ≤ v350 ∧ v350 ≤ 999) then minsN v349 v350 else 0) ∧ (if VsOK v349 ∧ (1 ≤ v350 ∧ v350 ≤ 999) then minsN v349 v350 else 0) ≤ 10800 := mins_rng v349 v350
          refine SR.q' (r_mv (v := .tuple (List.toArray _)) rfl) <| SR.q' (r_ext (v := .int .i64 _) rfl rfl) <| SR.q' (r_ext (v := .bool _) rfl rfl) <| SR.q' (r_as (v := .int .i64 _) rfl) <| SR.q' (r_as (v := .bool _) rfl) <| SR.nil ?_
          refine W.seq ?_
          refine W.regS (SR.q' (r_mv (v := .slice _ _ _) rfl) <| SR.q' (r_mv (v := .int .i64 _) rfl) <| SR.call ent23 (c_spec_SeatMinutes w358 v349 ((((hO348).lo hk359).rd)) v350) rfl ?_)
          rintro e w363 ⟨rfl, hk364⟩
          refine ⟨_, rfl, ?_⟩
          have hz365 := hk364.size
          have hB366 := hB361.lo hk364
          have hq367 : 0 ≤ (if VsOK v349 ∧ (1 ≤ v350 ∧ v350 ≤ 999) then minsN v349 v350 else 0) ∧ (if VsOK v349 ∧ (1 ≤ v350 ∧ v350 ≤ 999) then minsN v349 v350 else 0) ≤ 10800 := mins_rng v349 v350
          refine SR.q' (r_mv (v := .tuple (List.toArray _)) rfl) <| SR.q' (r_ext (v := .int .i64 _) rfl rfl) <| SR.q' (r_ext (v := .bool _) rfl rfl) <| SR.q' (r_as (v := .int .i64 _) rfl) <| SR.q' (r_as (v := .bool _) rfl) <| SR.nil ?_
          refine W.seq ?_
          have hm368 := ((hm357).lo hk359).lo hk364
          refine W.regS (SR.q' (r_mv (v := .slice _ _ _) rfl) <| SR.call ent24 (c_spec_DrawVisitText w363 C ((hm368)) (by omega)) rfl ?_)
          rintro e w369 ⟨v371, rfl, hk370⟩
          refine ⟨_, rfl, ?_⟩
          have hz372 := hk370.size
          have hB373 := hB366.lo hk370
          have hq374 : VtLaw v371 := vt_law v371
          refine SR.alloc (l := [.int .i64 0, .int .i64 0, .int .i64 0, .int .i64 0]) tz45 rfl ?_
          intro g375 w376 hg377 hk378 hs379 hb380
          have hz381 := hk378.size
          have hB382 := hB373.lo hk378
          have hd383 : ¬ A8 = some ⟨g375, 0, none⟩ := fun e' => by have := ((((((((((((((((hm87).lo hk122).lo hk126).lo hk142).lo hk147).lo hk159).lo hk238).lo hk243).lo hk260).lo hk272).lo hk284).lo hk340).lo hk344).lo hk359).lo hk364).lo hk370).base_le e'; omega
          have hd384 : ¬ A24 = some ⟨g375, 0, none⟩ := fun e' => by have := (((((((((((((((((hm66).lo hk75).lo hk122).lo hk126).lo hk142).lo hk147).lo hk159).lo hk238).lo hk243).lo hk260).lo hk272).lo hk284).lo hk340).lo hk344).lo hk359).lo hk364).lo hk370).base_le e'; omega
          have hd385 : ¬ A35 = some ⟨g375, 0, none⟩ := fun e' => by have := ((((((((((((((((((((hO38).lo hk47).lo hk55).lo hk62).lo hk75).lo hk122).lo hk126).lo hk142).lo hk147).lo hk159).lo hk238).lo hk243).lo hk260).lo hk272).lo hk284).lo hk340).lo hk344).lo hk359).lo hk364).lo hk370).base_le e'; omega
          have hd386 : ¬ A127 = some ⟨g375, 0, none⟩ := fun e' => by have := ((((((((((((hm152).lo hk159).lo hk238).lo hk243).lo hk260).lo hk272).lo hk284).lo hk340).lo hk344).lo hk359).lo hk364).lo hk370).base_le e'; omega
          have hd387 : ¬ A244 = some ⟨g375, 0, none⟩ := fun e' => by have := (((((((hm282).lo hk284).lo hk340).lo hk344).lo hk359).lo hk364).lo hk370).base_le e'; omega
          have hd388 : ¬ A261 = some ⟨g375, 0, none⟩ := fun e' => by have := ((((((hm292).lo hk340).lo hk344).lo hk359).lo hk364).lo hk370).base_le e'; omega
          have hd389 : ¬ A273 = some ⟨g375, 0, none⟩ := fun e' => by have := (((((((hO276).lo hk284).lo hk340).lo hk344).lo hk359).lo hk364).lo hk370).base_le e'; omega
          have hd390 : ¬ A345 = some ⟨g375, 0, none⟩ := fun e' => by have := ((((hO348).lo hk359).lo hk364).lo hk370).base_le e'; omega
          refine SR.store (o := 0) (vs := [.int .i64 v371.Reader, .int .i64 v371.Seat, .int .i64 v371.From, .int .i64 v371.Until]) agg45.2 rfl rfl rfl rfl (hb380) (Nat.le_of_ble_eq_true rfl) rfl ?_
          intro w391 hk392 hs393 hb394
          have hz395 := hk392.size
          have hB396 := hB382.new hk392 (by omega)
          refine SR.nil ?_
          refine W.seq ?_
          refine W.regS (SR.q' (r_lda (l := [.int .i64 v371.Reader, .int .i64 v371.Seat, .int .i64 v371.From, .int .i64 v371.Until]) agg45 rfl (fun _ _ hu => (hb394).cell hu) rfl) <| SR.call ent25 (c_impl_VisitText w391 v371 (hE.lo (hB396))) rfl ?_)
          rintro e w397 ⟨rfl, hk398⟩
          refine ⟨_, rfl, ?_⟩
          have hz399 := hk398.size
          have hB400 := hB396.lo hk398
          refine SR.q' (r_mv (v := .tuple (List.toArray _)) rfl) <| SR.q' (r_ext (v := str _) rfl rfl) <| SR.q' (r_ext (v := .bool _) rfl rfl) <| SR.q' (r_as (v := str _) rfl) <| SR.q' (r_as (v := .bool _) rfl) <| SR.nil ?_
          refine W.seq ?_
          refine W.regS (SR.q' (r_lda (l := [.int .i64 v371.Reader, .int .i64 v371.Seat, .int .i64 v371.From, .int .i64 v371.Until]) agg45 rfl (fun _ _ hu => ((hb394).lo hk398).cell hu) rfl) <| SR.call ent26 (c_spec_VisitText w397 v371) rfl ?_)
          rintro e w401 ⟨rfl, hk402⟩
          refine ⟨_, rfl, ?_⟩
          have hz403 := hk402.size
          have hB404 := hB400.lo hk402
          refine SR.q' (r_mv (v := .tuple (List.toArray _)) rfl) <| SR.q' (r_ext (v := str _) rfl rfl) <| SR.q' (r_ext (v := .bool _) rfl rfl) <| SR.q' (r_as (v := str _) rfl) <| SR.q' (r_as (v := .bool _) rfl) <| SR.nil ?_
          refine W.seq ?_
          refine W.regJS (fun f' w' => At f' [(2, .bool (decide ((((impl_VisitText v371).1) = ((spec_VisitText v371).1)) ∧ ((((impl_VisitText v371).2) == ((spec_VisitText v371).2)) = true))))] ∧ Lo w401 w') ?_ ?_
          · refine SR.q' (r_mv (v := .int .i64 _) rfl) <| SR.q' (r_mv (v := .int .i64 _) rfl) <| SR.q' (r_eq_s rfl rfl) <| SR.q' (r_mv (v := .bool _) rfl) <| SR.g' rfl (r_mv (v := .bool _) rfl) <| SR.g' rfl (r_mv (v := .bool _) rfl) <| SR.g' rfl (r_eqb_s und4 rfl rfl) <| SR.q' (r_pick true rfl (v := .bool _) rfl) <| SR.q' (r_mv (v := .bool _) rfl) <| SR.g' rfl (r_mv (v := str _) rfl) <| SR.g' rfl (r_mv (v := str _) rfl) <| SR.g' rfl (r_eqs (s := (impl_VisitText v371).1) (r := (spec_VisitText v371).1) rfl rfl) <| SR.q' (r_pick true rfl (v := .bool _) rfl) <| SR.q' (r_mv (v := .bool _) rfl) <| SR.splitD (fun h405 => ?_) (fun h405 => ?_)
            · refine SR.g' rfl (r_mv (v := .bool _) rfl) <| SR.g' rfl (r_mv (v := .bool _) rfl) <| SR.g' rfl (r_eqb und4 rfl rfl) <| SR.q' (r_pick true rfl (v := .bool _) rfl) <| SR.q' (r_as (v := .bool _) rfl) <| SR.nil ?_
              exact ⟨_, rfl, ⟨⟨(eBD (jat h405)), trivial⟩, (Lo.refl _)⟩⟩
            · refine SR.s' rfl <| SR.s' rfl <| SR.s' rfl <| SR.q' (r_pick false rfl (v := .bool false) rfl) <| SR.q' (r_as (v := .bool _) rfl) <| SR.nil ?_
              exact ⟨_, rfl, ⟨⟨(eDF (jaf h405).2), trivial⟩, (Lo.refl _)⟩⟩
          rintro f406 w407 ⟨hat408, hk409⟩
          rw [← sets_of_at hat408]
          have hz410 := hk409.size
          have hB411 := hB404.lo hk409
          refine W.ret ?_
          refine ret1 rfl (v := .bool _) rfl ?_
          exact ⟨eR (eB (z_c_laws_FnRoom_412 C nC hbdC hleC h5 v12 v13 hq14 hq15 n9 hl18 hl19 hq20 n25 hl30 hl31 hq32 n36 hl41 hl42 hq43 h50 hq58 hq65 h78 v131 v132 hq133 hq134 n128 hl137 hl138 hq139 hq145 hq150 v248 v249 v250 v251 hq252 hq253 n245 hl256 hl257 hq258 n262 hl267 hl268 hq269 n274 hl279 hl280 hq281 h287 v349 v350 hq351 hq352 n346 hl355 hl356 hq362 hq367 v371 hq374)), hB411⟩
end Go.Proofs.YthgbcadgnihdiaaGreatDoor
