/- Walks, printed by a program of this claim's author. -/
import Derived.Test.YthgbcadgnihdiaaChecked
import Derived.Test.YthgbcadgnihdiaaRa
import Derived.Test.YthgbcadgnihdiaaRb
import Derived.Test.YthgbcadgnihdiaaFu
import Derived.Test.YthgbcadgnihdiaaFs
import Derived.Test.YthgbcadgnihdiaaFq
import Derived.Test.YthgbcadgnihdiaaFo
import Derived.Test.YthgbcadgnihdiaaFp
import Derived.Test.YthgbcadgnihdiaaG30w
namespace Go.Proofs.Ythgbcadgnihdiaa
open Go Go.RowKit Fw
set_option maxRecDepth 10000
set_option linter.unusedVariables false
theorem ent16 : Ent Try.prog 16 := ent_of Try.func16 (by decide +kernel) rfl
theorem ent17 : Ent Try.prog 17 := ent_of Try.func17 (by decide +kernel) rfl
theorem ent18 : Ent Try.prog 18 := ent_of Try.func18 (by decide +kernel) rfl
theorem ent19 : Ent Try.prog 19 := ent_of Try.func19 (by decide +kernel) rfl
theorem ent20 : Ent Try.prog 20 := ent_of Try.func20 (by decide +kernel) rfl
theorem ent21 : Ent Try.prog 21 := ent_of Try.func21 (by decide +kernel) rfl
theorem ent22 : Ent Try.prog 22 := ent_of Try.func22 (by decide +kernel) rfl
theorem ent23 : Ent Try.prog 23 := ent_of Try.func23 (by decide +kernel) rfl
theorem ent24 : Ent Try.prog 24 := ent_of Try.func24 (by decide +kernel) rfl
theorem ent25 : Ent Try.prog 25 := ent_of Try.func25 (by decide +kernel) rfl
theorem ent26 : Ent Try.prog 26 := ent_of Try.func26 (by decide +kernel) rfl
theorem ent28 : Ent Try.prog 28 := ent_of Try.func28 (by decide +kernel) rfl
theorem ent29 : Ent Try.prog 29 := ent_of Try.func29 (by decide +kernel) rfl
theorem ent30 : Ent Try.prog 30 := ent_of Try.func30 (by decide +kernel) rfl
theorem ent31 : Ent Try.prog 31 := ent_of Try.func31 (by decide +kernel) rfl
theorem ent32 : Ent Try.prog 32 := ent_of Try.func32 (by decide +kernel) rfl
theorem ent34 : Ent Try.prog 34 := ent_of Try.func34 (by decide +kernel) rfl
theorem und4 : Try.prog.underlying 4 = some (.bool) := by kernel_rfl

theorem z_c_laws_FnVisits_57 (C : List UInt8) (nC : Nat) (hbdC : (nC : Int) ≤ 9223372036854775807) (hleC : nC = C.length) (h5 : ¬ (65536 < (C.length : Int))) (v12 : List Visit) (v13 : Int) (v14 : Int) (v15 : Int) (hq16 : VsB v12) (hq17 : v12.length ≤ 60) (hq18 : -1000000000 ≤ v13 ∧ v13 ≤ 1000000000) (hq19 : -1000000000 ≤ v14 ∧ v14 ≤ 1000000000) (hq20 : -1000000000 ≤ v15 ∧ v15 ≤ 1000000000) (n9 : Nat) (hl23 : n9 = (v12).length) (hl24 : (n9 : Int) ≤ 9223372036854775807) (hq25 : ViLaw v12 v13 v14 v15) (n30 : Nat) (hl35 : n30 = ((seatR v12 v13 v14 v15).elim [] (·.1)).length) (hl36 : (n30 : Int) ≤ 9223372036854775807) (hq37 : ((seatR v12 v13 v14 v15).elim [] (·.1)).length ≤ 15) (n41 : Nat) (hl46 : n41 = ((seatR v12 v13 v14 v15).elim [] (·.1)).length) (hl47 : (n41 : Int) ≤ 9223372036854775807) (hq48 : ((seatR v12 v13 v14 v15).elim [] (·.1)).length ≤ 15) (h55 : ¬ (((seatR v12 v13 v14 v15).elim [] (·.1)) = ((seatR v12 v13 v14 v15).elim [] (·.1)))) : false = true := by
  first | (exfalso; first | exact vi_bad ‹ViLaw _ _ _ _› (by assumption) (by assumption) | exact le_bad ‹LeLaw _ _ _› (by assumption) (by assumption) | exact ‹¬ ((seatR _ _ _ _).elim _ _) = _› rfl | exact ‹¬ (lvs _ _ _).getD _ = _› rfl) | exact decide_eq_true rfl
theorem z_c_laws_FnVisits_133 (C : List UInt8) (nC : Nat) (hbdC : (nC : Int) ≤ 9223372036854775807) (hleC : nC = C.length) (h5 : ¬ (65536 < (C.length : Int))) (v12 : List Visit) (v13 : Int) (v14 : Int) (v15 : Int) (hq16 : VsB v12) (hq17 : v12.length ≤ 60) (hq18 : -1000000000 ≤ v13 ∧ v13 ≤ 1000000000) (hq19 : -1000000000 ≤ v14 ∧ v14 ≤ 1000000000) (hq20 : -1000000000 ≤ v15 ∧ v15 ≤ 1000000000) (n9 : Nat) (hl23 : n9 = (v12).length) (hl24 : (n9 : Int) ≤ 9223372036854775807) (hq25 : ViLaw v12 v13 v14 v15) (n30 : Nat) (hl35 : n30 = ((seatR v12 v13 v14 v15).elim [] (·.1)).length) (hl36 : (n30 : Int) ≤ 9223372036854775807) (hq37 : ((seatR v12 v13 v14 v15).elim [] (·.1)).length ≤ 15) (n41 : Nat) (hl46 : n41 = ((seatR v12 v13 v14 v15).elim [] (·.1)).length) (hl47 : (n41 : Int) ≤ 9223372036854775807) (hq48 : ((seatR v12 v13 v14 v15).elim [] (·.1)).length ≤ 15) (h55 : ((seatR v12 v13 v14 v15).elim [] (·.1)) = ((seatR v12 v13 v14 v15).elim [] (·.1))) (h59 : ((seatR v12 v13 v14 v15).isSome) = true) (n63 : Nat) (hl68 : n63 = (freeF v12 v14 v15).length) (hl69 : (n63 : Int) ≤ 9223372036854775807) (hq70 : (freeF v12 v14 v15).length ≤ 6) (hq82 : 0 ≤ (if VsOK v12 ∧ (1 ≤ v13 ∧ v13 ≤ 999) then minsN v12 v13 else 0) ∧ (if VsOK v12 ∧ (1 ≤ v13 ∧ v13 ≤ 999) then minsN v12 v13 else 0) ≤ 10800) (hq90 : 0 ≤ (if VsOK ((seatR v12 v13 v14 v15).elim [] (·.1)) ∧ (1 ≤ v13 ∧ v13 ≤ 999) then minsN ((seatR v12 v13 v14 v15).elim [] (·.1)) v13 else 0) ∧ (if VsOK ((seatR v12 v13 v14 v15).elim [] (·.1)) ∧ (1 ≤ v13 ∧ v13 ≤ 999) then minsN ((seatR v12 v13 v14 v15).elim [] (·.1)) v13 else 0) ≤ 10800) (n95 : Nat) (hl100 : n95 = ((lvs ((seatR v12 v13 v14 v15).elim [] (·.1)) v13 v14).getD []).length) (hl101 : (n95 : Int) ≤ 9223372036854775807) (hq102 : ((lvs ((seatR v12 v13 v14 v15).elim [] (·.1)) v13 v14).getD []).length ≤ 15) (h132 : (¬ (VsOK v12 ∧ (480 ≤ v14 ∧ v14 ≤ 1200) ∧ (480 ≤ v15 ∧ v15 ≤ 1200) ∧ v14 < v15)) ∨ ((¬ (VsOK ((seatR v12 v13 v14 v15).elim [] (·.1)) ∧ (1 ≤ v13 ∧ v13 ≤ 999) ∧ (480 ≤ v14 ∧ v14 ≤ 1200))) ∨ ((¬ (VsOK v12 ∧ (1 ≤ v13 ∧ v13 ≤ 999))) ∨ ((¬ (VsOK ((seatR v12 v13 v14 v15).elim [] (·.1)) ∧ (1 ≤ v13 ∧ v13 ≤ 999))) ∨ (((!((lvs ((seatR v12 v13 v14 v15).elim [] (·.1)) v13 v14).isSome)) = true) ∨ ((¬ (((seatR v12 v13 v14 v15).elim 0 (·.2)) ∈ (freeF v12 v14 v15))) ∨ ((¬ ((seatO ((seatR v12 v13 v14 v15).elim [] (·.1)) v13 v14) = ((seatR v12 v13 v14 v15).elim 0 (·.2)))) ∨ ((¬ (((if VsOK ((seatR v12 v13 v14 v15).elim [] (·.1)) ∧ (1 ≤ v13 ∧ v13 ≤ 999) then minsN ((seatR v12 v13 v14 v15).elim [] (·.1)) v13 else 0) - (if VsOK v12 ∧ (1 ≤ v13 ∧ v13 ≤ 999) then minsN v12 v13 else 0)) = (v15 - v14))) ∨ (¬ (((lvs ((seatR v12 v13 v14 v15).elim [] (·.1)) v13 v14).getD []) = v12)))))))))) : false = true := by
  first | (exfalso; first | exact vi_bad ‹ViLaw _ _ _ _› (by assumption) (by assumption) | exact le_bad ‹LeLaw _ _ _› (by assumption) (by assumption) | exact ‹¬ ((seatR _ _ _ _).elim _ _) = _› rfl | exact ‹¬ (lvs _ _ _).getD _ = _› rfl) | exact decide_eq_true rfl
theorem z_c_laws_FnVisits_194 (C : List UInt8) (nC : Nat) (hbdC : (nC : Int) ≤ 9223372036854775807) (hleC : nC = C.length) (h5 : ¬ (65536 < (C.length : Int))) (v12 : List Visit) (v13 : Int) (v14 : Int) (v15 : Int) (hq16 : VsB v12) (hq17 : v12.length ≤ 60) (hq18 : -1000000000 ≤ v13 ∧ v13 ≤ 1000000000) (hq19 : -1000000000 ≤ v14 ∧ v14 ≤ 1000000000) (hq20 : -1000000000 ≤ v15 ∧ v15 ≤ 1000000000) (n9 : Nat) (hl23 : n9 = (v12).length) (hl24 : (n9 : Int) ≤ 9223372036854775807) (hq25 : ViLaw v12 v13 v14 v15) (n30 : Nat) (hl35 : n30 = ((seatR v12 v13 v14 v15).elim [] (·.1)).length) (hl36 : (n30 : Int) ≤ 9223372036854775807) (hq37 : ((seatR v12 v13 v14 v15).elim [] (·.1)).length ≤ 15) (n41 : Nat) (hl46 : n41 = ((seatR v12 v13 v14 v15).elim [] (·.1)).length) (hl47 : (n41 : Int) ≤ 9223372036854775807) (hq48 : ((seatR v12 v13 v14 v15).elim [] (·.1)).length ≤ 15) (h55 : ((seatR v12 v13 v14 v15).elim [] (·.1)) = ((seatR v12 v13 v14 v15).elim [] (·.1))) (h59 : ((seatR v12 v13 v14 v15).isSome) = true) (n63 : Nat) (hl68 : n63 = (freeF v12 v14 v15).length) (hl69 : (n63 : Int) ≤ 9223372036854775807) (hq70 : (freeF v12 v14 v15).length ≤ 6) (hq82 : 0 ≤ (if VsOK v12 ∧ (1 ≤ v13 ∧ v13 ≤ 999) then minsN v12 v13 else 0) ∧ (if VsOK v12 ∧ (1 ≤ v13 ∧ v13 ≤ 999) then minsN v12 v13 else 0) ≤ 10800) (hq90 : 0 ≤ (if VsOK ((seatR v12 v13 v14 v15).elim [] (·.1)) ∧ (1 ≤ v13 ∧ v13 ≤ 999) then minsN ((seatR v12 v13 v14 v15).elim [] (·.1)) v13 else 0) ∧ (if VsOK ((seatR v12 v13 v14 v15).elim [] (·.1)) ∧ (1 ≤ v13 ∧ v13 ≤ 999) then minsN ((seatR v12 v13 v14 v15).elim [] (·.1)) v13 else 0) ≤ 10800) (n95 : Nat) (hl100 : n95 = ((lvs ((seatR v12 v13 v14 v15).elim [] (·.1)) v13 v14).getD []).length) (hl101 : (n95 : Int) ≤ 9223372036854775807) (hq102 : ((lvs ((seatR v12 v13 v14 v15).elim [] (·.1)) v13 v14).getD []).length ≤ 15) (h132 : ¬ ((¬ (VsOK v12 ∧ (480 ≤ v14 ∧ v14 ≤ 1200) ∧ (480 ≤ v15 ∧ v15 ≤ 1200) ∧ v14 < v15)) ∨ ((¬ (VsOK ((seatR v12 v13 v14 v15).elim [] (·.1)) ∧ (1 ≤ v13 ∧ v13 ≤ 999) ∧ (480 ≤ v14 ∧ v14 ≤ 1200))) ∨ ((¬ (VsOK v12 ∧ (1 ≤ v13 ∧ v13 ≤ 999))) ∨ ((¬ (VsOK ((seatR v12 v13 v14 v15).elim [] (·.1)) ∧ (1 ≤ v13 ∧ v13 ≤ 999))) ∨ (((!((lvs ((seatR v12 v13 v14 v15).elim [] (·.1)) v13 v14).isSome)) = true) ∨ ((¬ (((seatR v12 v13 v14 v15).elim 0 (·.2)) ∈ (freeF v12 v14 v15))) ∨ ((¬ ((seatO ((seatR v12 v13 v14 v15).elim [] (·.1)) v13 v14) = ((seatR v12 v13 v14 v15).elim 0 (·.2)))) ∨ ((¬ (((if VsOK ((seatR v12 v13 v14 v15).elim [] (·.1)) ∧ (1 ≤ v13 ∧ v13 ≤ 999) then minsN ((seatR v12 v13 v14 v15).elim [] (·.1)) v13 else 0) - (if VsOK v12 ∧ (1 ≤ v13 ∧ v13 ≤ 999) then minsN v12 v13 else 0)) = (v15 - v14))) ∨ (¬ (((lvs ((seatR v12 v13 v14 v15).elim [] (·.1)) v13 v14).getD []) = v12))))))))))) (hq134 : VsOK v12 ∧ (480 ≤ v14 ∧ v14 ≤ 1200) ∧ (480 ≤ v15 ∧ v15 ≤ 1200) ∧ v14 < v15) (hq135 : VsOK ((seatR v12 v13 v14 v15).elim [] (·.1)) ∧ (1 ≤ v13 ∧ v13 ≤ 999) ∧ (480 ≤ v14 ∧ v14 ≤ 1200)) (hq136 : VsOK v12 ∧ (1 ≤ v13 ∧ v13 ≤ 999)) (hq137 : VsOK ((seatR v12 v13 v14 v15).elim [] (·.1)) ∧ (1 ≤ v13 ∧ v13 ≤ 999)) (hq138 : ¬ ((!((lvs ((seatR v12 v13 v14 v15).elim [] (·.1)) v13 v14).isSome)) = true)) (hq139 : ((seatR v12 v13 v14 v15).elim 0 (·.2)) ∈ (freeF v12 v14 v15)) (hq140 : (seatO ((seatR v12 v13 v14 v15).elim [] (·.1)) v13 v14) = ((seatR v12 v13 v14 v15).elim 0 (·.2))) (hq141 : ((if VsOK ((seatR v12 v13 v14 v15).elim [] (·.1)) ∧ (1 ≤ v13 ∧ v13 ≤ 999) then minsN ((seatR v12 v13 v14 v15).elim [] (·.1)) v13 else 0) - (if VsOK v12 ∧ (1 ≤ v13 ∧ v13 ≤ 999) then minsN v12 v13 else 0)) = (v15 - v14)) (hq142 : ((lvs ((seatR v12 v13 v14 v15).elim [] (·.1)) v13 v14).getD []) = v12) (hq143 : VsOK v12) (hq144 : VsOK v12) (hq145 : v12.length ≤ 15) (hq146 : v12.length ≤ 15) (v153 : List Visit) (v154 : Int) (v155 : Int) (hq156 : VsB v153) (hq157 : v153.length ≤ 60) (n150 : Nat) (hl160 : n150 = (v153).length) (hl161 : (n150 : Int) ≤ 9223372036854775807) (hq162 : LeLaw v153 v154 v155) (n167 : Nat) (hl172 : n167 = ((lvs v153 v154 v155).getD []).length) (hl173 : (n167 : Int) ≤ 9223372036854775807) (hq174 : ((lvs v153 v154 v155).getD []).length ≤ 15) (n178 : Nat) (hl183 : n178 = ((lvs v153 v154 v155).getD []).length) (hl184 : (n178 : Int) ≤ 9223372036854775807) (hq185 : ((lvs v153 v154 v155).getD []).length ≤ 15) (h192 : ¬ (((lvs v153 v154 v155).getD []) = ((lvs v153 v154 v155).getD []))) : false = true := by
  first | (exfalso; first | exact vi_bad ‹ViLaw _ _ _ _› (by assumption) (by assumption) | exact le_bad ‹LeLaw _ _ _› (by assumption) (by assumption) | exact ‹¬ ((seatR _ _ _ _).elim _ _) = _› rfl | exact ‹¬ (lvs _ _ _).getD _ = _› rfl) | exact decide_eq_true rfl
theorem z_c_laws_FnVisits_211 (C : List UInt8) (nC : Nat) (hbdC : (nC : Int) ≤ 9223372036854775807) (hleC : nC = C.length) (h5 : ¬ (65536 < (C.length : Int))) (v12 : List Visit) (v13 : Int) (v14 : Int) (v15 : Int) (hq16 : VsB v12) (hq17 : v12.length ≤ 60) (hq18 : -1000000000 ≤ v13 ∧ v13 ≤ 1000000000) (hq19 : -1000000000 ≤ v14 ∧ v14 ≤ 1000000000) (hq20 : -1000000000 ≤ v15 ∧ v15 ≤ 1000000000) (n9 : Nat) (hl23 : n9 = (v12).length) (hl24 : (n9 : Int) ≤ 9223372036854775807) (hq25 : ViLaw v12 v13 v14 v15) (n30 : Nat) (hl35 : n30 = ((seatR v12 v13 v14 v15).elim [] (·.1)).length) (hl36 : (n30 : Int) ≤ 9223372036854775807) (hq37 : ((seatR v12 v13 v14 v15).elim [] (·.1)).length ≤ 15) (n41 : Nat) (hl46 : n41 = ((seatR v12 v13 v14 v15).elim [] (·.1)).length) (hl47 : (n41 : Int) ≤ 9223372036854775807) (hq48 : ((seatR v12 v13 v14 v15).elim [] (·.1)).length ≤ 15) (h55 : ((seatR v12 v13 v14 v15).elim [] (·.1)) = ((seatR v12 v13 v14 v15).elim [] (·.1))) (h59 : ((seatR v12 v13 v14 v15).isSome) = true) (n63 : Nat) (hl68 : n63 = (freeF v12 v14 v15).length) (hl69 : (n63 : Int) ≤ 9223372036854775807) (hq70 : (freeF v12 v14 v15).length ≤ 6) (hq82 : 0 ≤ (if VsOK v12 ∧ (1 ≤ v13 ∧ v13 ≤ 999) then minsN v12 v13 else 0) ∧ (if VsOK v12 ∧ (1 ≤ v13 ∧ v13 ≤ 999) then minsN v12 v13 else 0) ≤ 10800) (hq90 : 0 ≤ (if VsOK ((seatR v12 v13 v14 v15).elim [] (·.1)) ∧ (1 ≤ v13 ∧ v13 ≤ 999) then minsN ((seatR v12 v13 v14 v15).elim [] (·.1)) v13 else 0) ∧ (if VsOK ((seatR v12 v13 v14 v15).elim [] (·.1)) ∧ (1 ≤ v13 ∧ v13 ≤ 999) then minsN ((seatR v12 v13 v14 v15).elim [] (·.1)) v13 else 0) ≤ 10800) (n95 : Nat) (hl100 : n95 = ((lvs ((seatR v12 v13 v14 v15).elim [] (·.1)) v13 v14).getD []).length) (hl101 : (n95 : Int) ≤ 9223372036854775807) (hq102 : ((lvs ((seatR v12 v13 v14 v15).elim [] (·.1)) v13 v14).getD []).length ≤ 15) (h132 : ¬ ((¬ (VsOK v12 ∧ (480 ≤ v14 ∧ v14 ≤ 1200) ∧ (480 ≤ v15 ∧ v15 ≤ 1200) ∧ v14 < v15)) ∨ ((¬ (VsOK ((seatR v12 v13 v14 v15).elim [] (·.1)) ∧ (1 ≤ v13 ∧ v13 ≤ 999) ∧ (480 ≤ v14 ∧ v14 ≤ 1200))) ∨ ((¬ (VsOK v12 ∧ (1 ≤ v13 ∧ v13 ≤ 999))) ∨ ((¬ (VsOK ((seatR v12 v13 v14 v15).elim [] (·.1)) ∧ (1 ≤ v13 ∧ v13 ≤ 999))) ∨ (((!((lvs ((seatR v12 v13 v14 v15).elim [] (·.1)) v13 v14).isSome)) = true) ∨ ((¬ (((seatR v12 v13 v14 v15).elim 0 (·.2)) ∈ (freeF v12 v14 v15))) ∨ ((¬ ((seatO ((seatR v12 v13 v14 v15).elim [] (·.1)) v13 v14) = ((seatR v12 v13 v14 v15).elim 0 (·.2)))) ∨ ((¬ (((if VsOK ((seatR v12 v13 v14 v15).elim [] (·.1)) ∧ (1 ≤ v13 ∧ v13 ≤ 999) then minsN ((seatR v12 v13 v14 v15).elim [] (·.1)) v13 else 0) - (if VsOK v12 ∧ (1 ≤ v13 ∧ v13 ≤ 999) then minsN v12 v13 else 0)) = (v15 - v14))) ∨ (¬ (((lvs ((seatR v12 v13 v14 v15).elim [] (·.1)) v13 v14).getD []) = v12))))))))))) (hq134 : VsOK v12 ∧ (480 ≤ v14 ∧ v14 ≤ 1200) ∧ (480 ≤ v15 ∧ v15 ≤ 1200) ∧ v14 < v15) (hq135 : VsOK ((seatR v12 v13 v14 v15).elim [] (·.1)) ∧ (1 ≤ v13 ∧ v13 ≤ 999) ∧ (480 ≤ v14 ∧ v14 ≤ 1200)) (hq136 : VsOK v12 ∧ (1 ≤ v13 ∧ v13 ≤ 999)) (hq137 : VsOK ((seatR v12 v13 v14 v15).elim [] (·.1)) ∧ (1 ≤ v13 ∧ v13 ≤ 999)) (hq138 : ¬ ((!((lvs ((seatR v12 v13 v14 v15).elim [] (·.1)) v13 v14).isSome)) = true)) (hq139 : ((seatR v12 v13 v14 v15).elim 0 (·.2)) ∈ (freeF v12 v14 v15)) (hq140 : (seatO ((seatR v12 v13 v14 v15).elim [] (·.1)) v13 v14) = ((seatR v12 v13 v14 v15).elim 0 (·.2))) (hq141 : ((if VsOK ((seatR v12 v13 v14 v15).elim [] (·.1)) ∧ (1 ≤ v13 ∧ v13 ≤ 999) then minsN ((seatR v12 v13 v14 v15).elim [] (·.1)) v13 else 0) - (if VsOK v12 ∧ (1 ≤ v13 ∧ v13 ≤ 999) then minsN v12 v13 else 0)) = (v15 - v14)) (hq142 : ((lvs ((seatR v12 v13 v14 v15).elim [] (·.1)) v13 v14).getD []) = v12) (hq143 : VsOK v12) (hq144 : VsOK v12) (hq145 : v12.length ≤ 15) (hq146 : v12.length ≤ 15) (v153 : List Visit) (v154 : Int) (v155 : Int) (hq156 : VsB v153) (hq157 : v153.length ≤ 60) (n150 : Nat) (hl160 : n150 = (v153).length) (hl161 : (n150 : Int) ≤ 9223372036854775807) (hq162 : LeLaw v153 v154 v155) (n167 : Nat) (hl172 : n167 = ((lvs v153 v154 v155).getD []).length) (hl173 : (n167 : Int) ≤ 9223372036854775807) (hq174 : ((lvs v153 v154 v155).getD []).length ≤ 15) (n178 : Nat) (hl183 : n178 = ((lvs v153 v154 v155).getD []).length) (hl184 : (n178 : Int) ≤ 9223372036854775807) (hq185 : ((lvs v153 v154 v155).getD []).length ≤ 15) (h192 : ((lvs v153 v154 v155).getD []) = ((lvs v153 v154 v155).getD [])) (h196 : ((lvs v153 v154 v155).isSome) = true) (h210 : (¬ (VsOK ((lvs v153 v154 v155).getD []) ∧ (1 ≤ v154 ∧ v154 ≤ 999) ∧ (480 ≤ v155 ∧ v155 ≤ 1200))) ∨ (¬ ((seatO ((lvs v153 v154 v155).getD []) v154 v155) = 0))) : false = true := by
  first | (exfalso; first | exact vi_bad ‹ViLaw _ _ _ _› (by assumption) (by assumption) | exact le_bad ‹LeLaw _ _ _› (by assumption) (by assumption) | exact ‹¬ ((seatR _ _ _ _).elim _ _) = _› rfl | exact ‹¬ (lvs _ _ _).getD _ = _› rfl) | exact decide_eq_true rfl
theorem z_c_laws_FnVisits_301 (C : List UInt8) (nC : Nat) (hbdC : (nC : Int) ≤ 9223372036854775807) (hleC : nC = C.length) (h5 : ¬ (65536 < (C.length : Int))) (v12 : List Visit) (v13 : Int) (v14 : Int) (v15 : Int) (hq16 : VsB v12) (hq17 : v12.length ≤ 60) (hq18 : -1000000000 ≤ v13 ∧ v13 ≤ 1000000000) (hq19 : -1000000000 ≤ v14 ∧ v14 ≤ 1000000000) (hq20 : -1000000000 ≤ v15 ∧ v15 ≤ 1000000000) (n9 : Nat) (hl23 : n9 = (v12).length) (hl24 : (n9 : Int) ≤ 9223372036854775807) (hq25 : ViLaw v12 v13 v14 v15) (n30 : Nat) (hl35 : n30 = ((seatR v12 v13 v14 v15).elim [] (·.1)).length) (hl36 : (n30 : Int) ≤ 9223372036854775807) (hq37 : ((seatR v12 v13 v14 v15).elim [] (·.1)).length ≤ 15) (n41 : Nat) (hl46 : n41 = ((seatR v12 v13 v14 v15).elim [] (·.1)).length) (hl47 : (n41 : Int) ≤ 9223372036854775807) (hq48 : ((seatR v12 v13 v14 v15).elim [] (·.1)).length ≤ 15) (h55 : ((seatR v12 v13 v14 v15).elim [] (·.1)) = ((seatR v12 v13 v14 v15).elim [] (·.1))) (h59 : ((seatR v12 v13 v14 v15).isSome) = true) (n63 : Nat) (hl68 : n63 = (freeF v12 v14 v15).length) (hl69 : (n63 : Int) ≤ 9223372036854775807) (hq70 : (freeF v12 v14 v15).length ≤ 6) (hq82 : 0 ≤ (if VsOK v12 ∧ (1 ≤ v13 ∧ v13 ≤ 999) then minsN v12 v13 else 0) ∧ (if VsOK v12 ∧ (1 ≤ v13 ∧ v13 ≤ 999) then minsN v12 v13 else 0) ≤ 10800) (hq90 : 0 ≤ (if VsOK ((seatR v12 v13 v14 v15).elim [] (·.1)) ∧ (1 ≤ v13 ∧ v13 ≤ 999) then minsN ((seatR v12 v13 v14 v15).elim [] (·.1)) v13 else 0) ∧ (if VsOK ((seatR v12 v13 v14 v15).elim [] (·.1)) ∧ (1 ≤ v13 ∧ v13 ≤ 999) then minsN ((seatR v12 v13 v14 v15).elim [] (·.1)) v13 else 0) ≤ 10800) (n95 : Nat) (hl100 : n95 = ((lvs ((seatR v12 v13 v14 v15).elim [] (·.1)) v13 v14).getD []).length) (hl101 : (n95 : Int) ≤ 9223372036854775807) (hq102 : ((lvs ((seatR v12 v13 v14 v15).elim [] (·.1)) v13 v14).getD []).length ≤ 15) (h132 : ¬ ((¬ (VsOK v12 ∧ (480 ≤ v14 ∧ v14 ≤ 1200) ∧ (480 ≤ v15 ∧ v15 ≤ 1200) ∧ v14 < v15)) ∨ ((¬ (VsOK ((seatR v12 v13 v14 v15).elim [] (·.1)) ∧ (1 ≤ v13 ∧ v13 ≤ 999) ∧ (480 ≤ v14 ∧ v14 ≤ 1200))) ∨ ((¬ (VsOK v12 ∧ (1 ≤ v13 ∧ v13 ≤ 999))) ∨ ((¬ (VsOK ((seatR v12 v13 v14 v15).elim [] (·.1)) ∧ (1 ≤ v13 ∧ v13 ≤ 999))) ∨ (((!((lvs ((seatR v12 v13 v14 v15).elim [] (·.1)) v13 v14).isSome)) = true) ∨ ((¬ (((seatR v12 v13 v14 v15).elim 0 (·.2)) ∈ (freeF v12 v14 v15))) ∨ ((¬ ((seatO ((seatR v12 v13 v14 v15).elim [] (·.1)) v13 v14) = ((seatR v12 v13 v14 v15).elim 0 (·.2)))) ∨ ((¬ (((if VsOK ((seatR v12 v13 v14 v15).elim [] (·.1)) ∧ (1 ≤ v13 ∧ v13 ≤ 999) then minsN ((seatR v12 v13 v14 v15).elim [] (·.1)) v13 else 0) - (if VsOK v12 ∧ (1 ≤ v13 ∧ v13 ≤ 999) then minsN v12 v13 else 0)) = (v15 - v14))) ∨ (¬ (((lvs ((seatR v12 v13 v14 v15).elim [] (·.1)) v13 v14).getD []) = v12))))))))))) (hq134 : VsOK v12 ∧ (480 ≤ v14 ∧ v14 ≤ 1200) ∧ (480 ≤ v15 ∧ v15 ≤ 1200) ∧ v14 < v15) (hq135 : VsOK ((seatR v12 v13 v14 v15).elim [] (·.1)) ∧ (1 ≤ v13 ∧ v13 ≤ 999) ∧ (480 ≤ v14 ∧ v14 ≤ 1200)) (hq136 : VsOK v12 ∧ (1 ≤ v13 ∧ v13 ≤ 999)) (hq137 : VsOK ((seatR v12 v13 v14 v15).elim [] (·.1)) ∧ (1 ≤ v13 ∧ v13 ≤ 999)) (hq138 : ¬ ((!((lvs ((seatR v12 v13 v14 v15).elim [] (·.1)) v13 v14).isSome)) = true)) (hq139 : ((seatR v12 v13 v14 v15).elim 0 (·.2)) ∈ (freeF v12 v14 v15)) (hq140 : (seatO ((seatR v12 v13 v14 v15).elim [] (·.1)) v13 v14) = ((seatR v12 v13 v14 v15).elim 0 (·.2))) (hq141 : ((if VsOK ((seatR v12 v13 v14 v15).elim [] (·.1)) ∧ (1 ≤ v13 ∧ v13 ≤ 999) then minsN ((seatR v12 v13 v14 v15).elim [] (·.1)) v13 else 0) - (if VsOK v12 ∧ (1 ≤ v13 ∧ v13 ≤ 999) then minsN v12 v13 else 0)) = (v15 - v14)) (hq142 : ((lvs ((seatR v12 v13 v14 v15).elim [] (·.1)) v13 v14).getD []) = v12) (hq143 : VsOK v12) (hq144 : VsOK v12) (hq145 : v12.length ≤ 15) (hq146 : v12.length ≤ 15) (v153 : List Visit) (v154 : Int) (v155 : Int) (hq156 : VsB v153) (hq157 : v153.length ≤ 60) (n150 : Nat) (hl160 : n150 = (v153).length) (hl161 : (n150 : Int) ≤ 9223372036854775807) (hq162 : LeLaw v153 v154 v155) (n167 : Nat) (hl172 : n167 = ((lvs v153 v154 v155).getD []).length) (hl173 : (n167 : Int) ≤ 9223372036854775807) (hq174 : ((lvs v153 v154 v155).getD []).length ≤ 15) (n178 : Nat) (hl183 : n178 = ((lvs v153 v154 v155).getD []).length) (hl184 : (n178 : Int) ≤ 9223372036854775807) (hq185 : ((lvs v153 v154 v155).getD []).length ≤ 15) (h192 : ((lvs v153 v154 v155).getD []) = ((lvs v153 v154 v155).getD [])) (h196 : ((lvs v153 v154 v155).isSome) = true) (h210 : ¬ ((¬ (VsOK ((lvs v153 v154 v155).getD []) ∧ (1 ≤ v154 ∧ v154 ≤ 999) ∧ (480 ≤ v155 ∧ v155 ≤ 1200))) ∨ (¬ ((seatO ((lvs v153 v154 v155).getD []) v154 v155) = 0)))) (hq212 : VsOK ((lvs v153 v154 v155).getD []) ∧ (1 ≤ v154 ∧ v154 ≤ 999) ∧ (480 ≤ v155 ∧ v155 ≤ 1200)) (hq213 : (seatO ((lvs v153 v154 v155).getD []) v154 v155) = 0) (v220 : List Visit) (v221 : Int) (v222 : Int) (hq223 : VsB v220) (hq224 : v220.length ≤ 60) (n217 : Nat) (hl227 : n217 = (v220).length) (hl228 : (n217 : Int) ≤ 9223372036854775807) (n234 : Nat) (hl239 : n234 = (freeF v220 v221 v222).length) (hl240 : (n234 : Int) ≤ 9223372036854775807) (hq241 : (freeF v220 v221 v222).length ≤ 6) (n245 : Nat) (hl250 : n245 = (freeF v220 v221 v222).length) (hl251 : (n245 : Int) ≤ 9223372036854775807) (hq252 : (freeF v220 v221 v222).length ≤ 6) (v261 : List Visit) (v262 : Int) (v263 : Int) (hq264 : VsB v261) (hq265 : v261.length ≤ 60) (n258 : Nat) (hl268 : n258 = (v261).length) (hl269 : (n258 : Int) ≤ 9223372036854775807) : decide ((freeF v220 v221 v222) = (freeF v220 v221 v222)) = true := by
  first | (exfalso; first | exact vi_bad ‹ViLaw _ _ _ _› (by assumption) (by assumption) | exact le_bad ‹LeLaw _ _ _› (by assumption) (by assumption) | exact ‹¬ ((seatR _ _ _ _).elim _ _) = _› rfl | exact ‹¬ (lvs _ _ _).getD _ = _› rfl) | exact decide_eq_true rfl
theorem z_c_laws_FnVisits_389 (C : List UInt8) (nC : Nat) (hbdC : (nC : Int) ≤ 9223372036854775807) (hleC : nC = C.length) (h5 : ¬ (65536 < (C.length : Int))) (v12 : List Visit) (v13 : Int) (v14 : Int) (v15 : Int) (hq16 : VsB v12) (hq17 : v12.length ≤ 60) (hq18 : -1000000000 ≤ v13 ∧ v13 ≤ 1000000000) (hq19 : -1000000000 ≤ v14 ∧ v14 ≤ 1000000000) (hq20 : -1000000000 ≤ v15 ∧ v15 ≤ 1000000000) (n9 : Nat) (hl23 : n9 = (v12).length) (hl24 : (n9 : Int) ≤ 9223372036854775807) (hq25 : ViLaw v12 v13 v14 v15) (n30 : Nat) (hl35 : n30 = ((seatR v12 v13 v14 v15).elim [] (·.1)).length) (hl36 : (n30 : Int) ≤ 9223372036854775807) (hq37 : ((seatR v12 v13 v14 v15).elim [] (·.1)).length ≤ 15) (n41 : Nat) (hl46 : n41 = ((seatR v12 v13 v14 v15).elim [] (·.1)).length) (hl47 : (n41 : Int) ≤ 9223372036854775807) (hq48 : ((seatR v12 v13 v14 v15).elim [] (·.1)).length ≤ 15) (h55 : ((seatR v12 v13 v14 v15).elim [] (·.1)) = ((seatR v12 v13 v14 v15).elim [] (·.1))) (h59 : ((seatR v12 v13 v14 v15).isSome) = true) (n63 : Nat) (hl68 : n63 = (freeF v12 v14 v15).length) (hl69 : (n63 : Int) ≤ 9223372036854775807) (hq70 : (freeF v12 v14 v15).length ≤ 6) (hq82 : 0 ≤ (if VsOK v12 ∧ (1 ≤ v13 ∧ v13 ≤ 999) then minsN v12 v13 else 0) ∧ (if VsOK v12 ∧ (1 ≤ v13 ∧ v13 ≤ 999) then minsN v12 v13 else 0) ≤ 10800) (hq90 : 0 ≤ (if VsOK ((seatR v12 v13 v14 v15).elim [] (·.1)) ∧ (1 ≤ v13 ∧ v13 ≤ 999) then minsN ((seatR v12 v13 v14 v15).elim [] (·.1)) v13 else 0) ∧ (if VsOK ((seatR v12 v13 v14 v15).elim [] (·.1)) ∧ (1 ≤ v13 ∧ v13 ≤ 999) then minsN ((seatR v12 v13 v14 v15).elim [] (·.1)) v13 else 0) ≤ 10800) (n95 : Nat) (hl100 : n95 = ((lvs ((seatR v12 v13 v14 v15).elim [] (·.1)) v13 v14).getD []).length) (hl101 : (n95 : Int) ≤ 9223372036854775807) (hq102 : ((lvs ((seatR v12 v13 v14 v15).elim [] (·.1)) v13 v14).getD []).length ≤ 15) (h132 : ¬ ((¬ (VsOK v12 ∧ (480 ≤ v14 ∧ v14 ≤ 1200) ∧ (480 ≤ v15 ∧ v15 ≤ 1200) ∧ v14 < v15)) ∨ ((¬ (VsOK ((seatR v12 v13 v14 v15).elim [] (·.1)) ∧ (1 ≤ v13 ∧ v13 ≤ 999) ∧ (480 ≤ v14 ∧ v14 ≤ 1200))) ∨ ((¬ (VsOK v12 ∧ (1 ≤ v13 ∧ v13 ≤ 999))) ∨ ((¬ (VsOK ((seatR v12 v13 v14 v15).elim [] (·.1)) ∧ (1 ≤ v13 ∧ v13 ≤ 999))) ∨ (((!((lvs ((seatR v12 v13 v14 v15).elim [] (·.1)) v13 v14).isSome)) = true) ∨ ((¬ (((seatR v12 v13 v14 v15).elim 0 (·.2)) ∈ (freeF v12 v14 v15))) ∨ ((¬ ((seatO ((seatR v12 v13 v14 v15).elim [] (·.1)) v13 v14) = ((seatR v12 v13 v14 v15).elim 0 (·.2)))) ∨ ((¬ (((if VsOK ((seatR v12 v13 v14 v15).elim [] (·.1)) ∧ (1 ≤ v13 ∧ v13 ≤ 999) then minsN ((seatR v12 v13 v14 v15).elim [] (·.1)) v13 else 0) - (if VsOK v12 ∧ (1 ≤ v13 ∧ v13 ≤ 999) then minsN v12 v13 else 0)) = (v15 - v14))) ∨ (¬ (((lvs ((seatR v12 v13 v14 v15).elim [] (·.1)) v13 v14).getD []) = v12))))))))))) (hq134 : VsOK v12 ∧ (480 ≤ v14 ∧ v14 ≤ 1200) ∧ (480 ≤ v15 ∧ v15 ≤ 1200) ∧ v14 < v15) (hq135 : VsOK ((seatR v12 v13 v14 v15).elim [] (·.1)) ∧ (1 ≤ v13 ∧ v13 ≤ 999) ∧ (480 ≤ v14 ∧ v14 ≤ 1200)) (hq136 : VsOK v12 ∧ (1 ≤ v13 ∧ v13 ≤ 999)) (hq137 : VsOK ((seatR v12 v13 v14 v15).elim [] (·.1)) ∧ (1 ≤ v13 ∧ v13 ≤ 999)) (hq138 : ¬ ((!((lvs ((seatR v12 v13 v14 v15).elim [] (·.1)) v13 v14).isSome)) = true)) (hq139 : ((seatR v12 v13 v14 v15).elim 0 (·.2)) ∈ (freeF v12 v14 v15)) (hq140 : (seatO ((seatR v12 v13 v14 v15).elim [] (·.1)) v13 v14) = ((seatR v12 v13 v14 v15).elim 0 (·.2))) (hq141 : ((if VsOK ((seatR v12 v13 v14 v15).elim [] (·.1)) ∧ (1 ≤ v13 ∧ v13 ≤ 999) then minsN ((seatR v12 v13 v14 v15).elim [] (·.1)) v13 else 0) - (if VsOK v12 ∧ (1 ≤ v13 ∧ v13 ≤ 999) then minsN v12 v13 else 0)) = (v15 - v14)) (hq142 : ((lvs ((seatR v12 v13 v14 v15).elim [] (·.1)) v13 v14).getD []) = v12) (hq143 : VsOK v12) (hq144 : VsOK v12) (hq145 : v12.length ≤ 15) (hq146 : v12.length ≤ 15) (v153 : List Visit) (v154 : Int) (v155 : Int) (hq156 : VsB v153) (hq157 : v153.length ≤ 60) (n150 : Nat) (hl160 : n150 = (v153).length) (hl161 : (n150 : Int) ≤ 9223372036854775807) (hq162 : LeLaw v153 v154 v155) (n167 : Nat) (hl172 : n167 = ((lvs v153 v154 v155).getD []).length) (hl173 : (n167 : Int) ≤ 9223372036854775807) (hq174 : ((lvs v153 v154 v155).getD []).length ≤ 15) (n178 : Nat) (hl183 : n178 = ((lvs v153 v154 v155).getD []).length) (hl184 : (n178 : Int) ≤ 9223372036854775807) (hq185 : ((lvs v153 v154 v155).getD []).length ≤ 15) (h192 : ((lvs v153 v154 v155).getD []) = ((lvs v153 v154 v155).getD [])) (h196 : ((lvs v153 v154 v155).isSome) = false) (v308 : List Visit) (v309 : Int) (v310 : Int) (hq311 : VsB v308) (hq312 : v308.length ≤ 60) (n305 : Nat) (hl315 : n305 = (v308).length) (hl316 : (n305 : Int) ≤ 9223372036854775807) (n322 : Nat) (hl327 : n322 = (freeF v308 v309 v310).length) (hl328 : (n322 : Int) ≤ 9223372036854775807) (hq329 : (freeF v308 v309 v310).length ≤ 6) (n333 : Nat) (hl338 : n333 = (freeF v308 v309 v310).length) (hl339 : (n333 : Int) ≤ 9223372036854775807) (hq340 : (freeF v308 v309 v310).length ≤ 6) (v349 : List Visit) (v350 : Int) (v351 : Int) (hq352 : VsB v349) (hq353 : v349.length ≤ 60) (n346 : Nat) (hl356 : n346 = (v349).length) (hl357 : (n346 : Int) ≤ 9223372036854775807) : decide ((freeF v308 v309 v310) = (freeF v308 v309 v310)) = true := by
  first | (exfalso; first | exact vi_bad ‹ViLaw _ _ _ _› (by assumption) (by assumption) | exact le_bad ‹LeLaw _ _ _› (by assumption) (by assumption) | exact ‹¬ ((seatR _ _ _ _).elim _ _) = _› rfl | exact ‹¬ (lvs _ _ _).getD _ = _› rfl) | exact decide_eq_true rfl
theorem z_c_laws_FnVisits_437 (C : List UInt8) (nC : Nat) (hbdC : (nC : Int) ≤ 9223372036854775807) (hleC : nC = C.length) (h5 : ¬ (65536 < (C.length : Int))) (v12 : List Visit) (v13 : Int) (v14 : Int) (v15 : Int) (hq16 : VsB v12) (hq17 : v12.length ≤ 60) (hq18 : -1000000000 ≤ v13 ∧ v13 ≤ 1000000000) (hq19 : -1000000000 ≤ v14 ∧ v14 ≤ 1000000000) (hq20 : -1000000000 ≤ v15 ∧ v15 ≤ 1000000000) (n9 : Nat) (hl23 : n9 = (v12).length) (hl24 : (n9 : Int) ≤ 9223372036854775807) (hq25 : ViLaw v12 v13 v14 v15) (n30 : Nat) (hl35 : n30 = ((seatR v12 v13 v14 v15).elim [] (·.1)).length) (hl36 : (n30 : Int) ≤ 9223372036854775807) (hq37 : ((seatR v12 v13 v14 v15).elim [] (·.1)).length ≤ 15) (n41 : Nat) (hl46 : n41 = ((seatR v12 v13 v14 v15).elim [] (·.1)).length) (hl47 : (n41 : Int) ≤ 9223372036854775807) (hq48 : ((seatR v12 v13 v14 v15).elim [] (·.1)).length ≤ 15) (h55 : ((seatR v12 v13 v14 v15).elim [] (·.1)) = ((seatR v12 v13 v14 v15).elim [] (·.1))) (h59 : ((seatR v12 v13 v14 v15).isSome) = false) (v396 : List Visit) (v397 : Int) (v398 : Int) (hq399 : VsB v396) (hq400 : v396.length ≤ 60) (n393 : Nat) (hl403 : n393 = (v396).length) (hl404 : (n393 : Int) ≤ 9223372036854775807) (hq405 : LeLaw v396 v397 v398) (n410 : Nat) (hl415 : n410 = ((lvs v396 v397 v398).getD []).length) (hl416 : (n410 : Int) ≤ 9223372036854775807) (hq417 : ((lvs v396 v397 v398).getD []).length ≤ 15) (n421 : Nat) (hl426 : n421 = ((lvs v396 v397 v398).getD []).length) (hl427 : (n421 : Int) ≤ 9223372036854775807) (hq428 : ((lvs v396 v397 v398).getD []).length ≤ 15) (h435 : ¬ (((lvs v396 v397 v398).getD []) = ((lvs v396 v397 v398).getD []))) : false = true := by
  first | (exfalso; first | exact vi_bad ‹ViLaw _ _ _ _› (by assumption) (by assumption) | exact le_bad ‹LeLaw _ _ _› (by assumption) (by assumption) | exact ‹¬ ((seatR _ _ _ _).elim _ _) = _› rfl | exact ‹¬ (lvs _ _ _).getD _ = _› rfl) | exact decide_eq_true rfl
theorem z_c_laws_FnVisits_454 (C : List UInt8) (nC : Nat) (hbdC : (nC : Int) ≤ 9223372036854775807) (hleC : nC = C.length) (h5 : ¬ (65536 < (C.length : Int))) (v12 : List Visit) (v13 : Int) (v14 : Int) (v15 : Int) (hq16 : VsB v12) (hq17 : v12.length ≤ 60) (hq18 : -1000000000 ≤ v13 ∧ v13 ≤ 1000000000) (hq19 : -1000000000 ≤ v14 ∧ v14 ≤ 1000000000) (hq20 : -1000000000 ≤ v15 ∧ v15 ≤ 1000000000) (n9 : Nat) (hl23 : n9 = (v12).length) (hl24 : (n9 : Int) ≤ 9223372036854775807) (hq25 : ViLaw v12 v13 v14 v15) (n30 : Nat) (hl35 : n30 = ((seatR v12 v13 v14 v15).elim [] (·.1)).length) (hl36 : (n30 : Int) ≤ 9223372036854775807) (hq37 : ((seatR v12 v13 v14 v15).elim [] (·.1)).length ≤ 15) (n41 : Nat) (hl46 : n41 = ((seatR v12 v13 v14 v15).elim [] (·.1)).length) (hl47 : (n41 : Int) ≤ 9223372036854775807) (hq48 : ((seatR v12 v13 v14 v15).elim [] (·.1)).length ≤ 15) (h55 : ((seatR v12 v13 v14 v15).elim [] (·.1)) = ((seatR v12 v13 v14 v15).elim [] (·.1))) (h59 : ((seatR v12 v13 v14 v15).isSome) = false) (v396 : List Visit) (v397 : Int) (v398 : Int) (hq399 : VsB v396) (hq400 : v396.length ≤ 60) (n393 : Nat) (hl403 : n393 = (v396).length) (hl404 : (n393 : Int) ≤ 9223372036854775807) (hq405 : LeLaw v396 v397 v398) (n410 : Nat) (hl415 : n410 = ((lvs v396 v397 v398).getD []).length) (hl416 : (n410 : Int) ≤ 9223372036854775807) (hq417 : ((lvs v396 v397 v398).getD []).length ≤ 15) (n421 : Nat) (hl426 : n421 = ((lvs v396 v397 v398).getD []).length) (hl427 : (n421 : Int) ≤ 9223372036854775807) (hq428 : ((lvs v396 v397 v398).getD []).length ≤ 15) (h435 : ((lvs v396 v397 v398).getD []) = ((lvs v396 v397 v398).getD [])) (h439 : ((lvs v396 v397 v398).isSome) = true) (h453 : (¬ (VsOK ((lvs v396 v397 v398).getD []) ∧ (1 ≤ v397 ∧ v397 ≤ 999) ∧ (480 ≤ v398 ∧ v398 ≤ 1200))) ∨ (¬ ((seatO ((lvs v396 v397 v398).getD []) v397 v398) = 0))) : false = true := by
  first | (exfalso; first | exact vi_bad ‹ViLaw _ _ _ _› (by assumption) (by assumption) | exact le_bad ‹LeLaw _ _ _› (by assumption) (by assumption) | exact ‹¬ ((seatR _ _ _ _).elim _ _) = _› rfl | exact ‹¬ (lvs _ _ _).getD _ = _› rfl) | exact decide_eq_true rfl
theorem z_c_laws_FnVisits_544 (C : List UInt8) (nC : Nat) (hbdC : (nC : Int) ≤ 9223372036854775807) (hleC : nC = C.length) (h5 : ¬ (65536 < (C.length : Int))) (v12 : List Visit) (v13 : Int) (v14 : Int) (v15 : Int) (hq16 : VsB v12) (hq17 : v12.length ≤ 60) (hq18 : -1000000000 ≤ v13 ∧ v13 ≤ 1000000000) (hq19 : -1000000000 ≤ v14 ∧ v14 ≤ 1000000000) (hq20 : -1000000000 ≤ v15 ∧ v15 ≤ 1000000000) (n9 : Nat) (hl23 : n9 = (v12).length) (hl24 : (n9 : Int) ≤ 9223372036854775807) (hq25 : ViLaw v12 v13 v14 v15) (n30 : Nat) (hl35 : n30 = ((seatR v12 v13 v14 v15).elim [] (·.1)).length) (hl36 : (n30 : Int) ≤ 9223372036854775807) (hq37 : ((seatR v12 v13 v14 v15).elim [] (·.1)).length ≤ 15) (n41 : Nat) (hl46 : n41 = ((seatR v12 v13 v14 v15).elim [] (·.1)).length) (hl47 : (n41 : Int) ≤ 9223372036854775807) (hq48 : ((seatR v12 v13 v14 v15).elim [] (·.1)).length ≤ 15) (h55 : ((seatR v12 v13 v14 v15).elim [] (·.1)) = ((seatR v12 v13 v14 v15).elim [] (·.1))) (h59 : ((seatR v12 v13 v14 v15).isSome) = false) (v396 : List Visit) (v397 : Int) (v398 : Int) (hq399 : VsB v396) (hq400 : v396.length ≤ 60) (n393 : Nat) (hl403 : n393 = (v396).length) (hl404 : (n393 : Int) ≤ 9223372036854775807) (hq405 : LeLaw v396 v397 v398) (n410 : Nat) (hl415 : n410 = ((lvs v396 v397 v398).getD []).length) (hl416 : (n410 : Int) ≤ 9223372036854775807) (hq417 : ((lvs v396 v397 v398).getD []).length ≤ 15) (n421 : Nat) (hl426 : n421 = ((lvs v396 v397 v398).getD []).length) (hl427 : (n421 : Int) ≤ 9223372036854775807) (hq428 : ((lvs v396 v397 v398).getD []).length ≤ 15) (h435 : ((lvs v396 v397 v398).getD []) = ((lvs v396 v397 v398).getD [])) (h439 : ((lvs v396 v397 v398).isSome) = true) (h453 : ¬ ((¬ (VsOK ((lvs v396 v397 v398).getD []) ∧ (1 ≤ v397 ∧ v397 ≤ 999) ∧ (480 ≤ v398 ∧ v398 ≤ 1200))) ∨ (¬ ((seatO ((lvs v396 v397 v398).getD []) v397 v398) = 0)))) (hq455 : VsOK ((lvs v396 v397 v398).getD []) ∧ (1 ≤ v397 ∧ v397 ≤ 999) ∧ (480 ≤ v398 ∧ v398 ≤ 1200)) (hq456 : (seatO ((lvs v396 v397 v398).getD []) v397 v398) = 0) (v463 : List Visit) (v464 : Int) (v465 : Int) (hq466 : VsB v463) (hq467 : v463.length ≤ 60) (n460 : Nat) (hl470 : n460 = (v463).length) (hl471 : (n460 : Int) ≤ 9223372036854775807) (n477 : Nat) (hl482 : n477 = (freeF v463 v464 v465).length) (hl483 : (n477 : Int) ≤ 9223372036854775807) (hq484 : (freeF v463 v464 v465).length ≤ 6) (n488 : Nat) (hl493 : n488 = (freeF v463 v464 v465).length) (hl494 : (n488 : Int) ≤ 9223372036854775807) (hq495 : (freeF v463 v464 v465).length ≤ 6) (v504 : List Visit) (v505 : Int) (v506 : Int) (hq507 : VsB v504) (hq508 : v504.length ≤ 60) (n501 : Nat) (hl511 : n501 = (v504).length) (hl512 : (n501 : Int) ≤ 9223372036854775807) : decide ((freeF v463 v464 v465) = (freeF v463 v464 v465)) = true := by
  first | (exfalso; first | exact vi_bad ‹ViLaw _ _ _ _› (by assumption) (by assumption) | exact le_bad ‹LeLaw _ _ _› (by assumption) (by assumption) | exact ‹¬ ((seatR _ _ _ _).elim _ _) = _› rfl | exact ‹¬ (lvs _ _ _).getD _ = _› rfl) | exact decide_eq_true rfl
theorem z_c_laws_FnVisits_632 (C : List UInt8) (nC : Nat) (hbdC : (nC : Int) ≤ 9223372036854775807) (hleC : nC = C.length) (h5 : ¬ (65536 < (C.length : Int))) (v12 : List Visit) (v13 : Int) (v14 : Int) (v15 : Int) (hq16 : VsB v12) (hq17 : v12.length ≤ 60) (hq18 : -1000000000 ≤ v13 ∧ v13 ≤ 1000000000) (hq19 : -1000000000 ≤ v14 ∧ v14 ≤ 1000000000) (hq20 : -1000000000 ≤ v15 ∧ v15 ≤ 1000000000) (n9 : Nat) (hl23 : n9 = (v12).length) (hl24 : (n9 : Int) ≤ 9223372036854775807) (hq25 : ViLaw v12 v13 v14 v15) (n30 : Nat) (hl35 : n30 = ((seatR v12 v13 v14 v15).elim [] (·.1)).length) (hl36 : (n30 : Int) ≤ 9223372036854775807) (hq37 : ((seatR v12 v13 v14 v15).elim [] (·.1)).length ≤ 15) (n41 : Nat) (hl46 : n41 = ((seatR v12 v13 v14 v15).elim [] (·.1)).length) (hl47 : (n41 : Int) ≤ 9223372036854775807) (hq48 : ((seatR v12 v13 v14 v15).elim [] (·.1)).length ≤ 15) (h55 : ((seatR v12 v13 v14 v15).elim [] (·.1)) = ((seatR v12 v13 v14 v15).elim [] (·.1))) (h59 : ((seatR v12 v13 v14 v15).isSome) = false) (v396 : List Visit) (v397 : Int) (v398 : Int) (hq399 : VsB v396) (hq400 : v396.length ≤ 60) (n393 : Nat) (hl403 : n393 = (v396).length) (hl404 : (n393 : Int) ≤ 9223372036854775807) (hq405 : LeLaw v396 v397 v398) (n410 : Nat) (hl415 : n410 = ((lvs v396 v397 v398).getD []).length) (hl416 : (n410 : Int) ≤ 9223372036854775807) (hq417 : ((lvs v396 v397 v398).getD []).length ≤ 15) (n421 : Nat) (hl426 : n421 = ((lvs v396 v397 v398).getD []).length) (hl427 : (n421 : Int) ≤ 9223372036854775807) (hq428 : ((lvs v396 v397 v398).getD []).length ≤ 15) (h435 : ((lvs v396 v397 v398).getD []) = ((lvs v396 v397 v398).getD [])) (h439 : ((lvs v396 v397 v398).isSome) = false) (v551 : List Visit) (v552 : Int) (v553 : Int) (hq554 : VsB v551) (hq555 : v551.length ≤ 60) (n548 : Nat) (hl558 : n548 = (v551).length) (hl559 : (n548 : Int) ≤ 9223372036854775807) (n565 : Nat) (hl570 : n565 = (freeF v551 v552 v553).length) (hl571 : (n565 : Int) ≤ 9223372036854775807) (hq572 : (freeF v551 v552 v553).length ≤ 6) (n576 : Nat) (hl581 : n576 = (freeF v551 v552 v553).length) (hl582 : (n576 : Int) ≤ 9223372036854775807) (hq583 : (freeF v551 v552 v553).length ≤ 6) (v592 : List Visit) (v593 : Int) (v594 : Int) (hq595 : VsB v592) (hq596 : v592.length ≤ 60) (n589 : Nat) (hl599 : n589 = (v592).length) (hl600 : (n589 : Int) ≤ 9223372036854775807) : decide ((freeF v551 v552 v553) = (freeF v551 v552 v553)) = true := by
  first | (exfalso; first | exact vi_bad ‹ViLaw _ _ _ _› (by assumption) (by assumption) | exact le_bad ‹LeLaw _ _ _› (by assumption) (by assumption) | exact ‹¬ ((seatR _ _ _ _).elim _ _) = _› rfl | exact ‹¬ (lvs _ _ _).getD _ = _› rfl) | exact decide_eq_true rfl
theorem c_laws_FnVisits (w : World) {AC : Option Addr} {nC cC BC : Nat}  (C : List UInt8) (hC : SlR w BC encB 1 AC nC cC C) : Calls Try.prog 6 #[.slice AC nC cC] w fun e w' => e = .returned (.bool true) ∧ Lo w w' := by
  refine calls_W 273 Try.func6 rfl rfl rfl ?_
  have hbdC := hC.bound
  have hleC := hC.len
  have hBbC := hC.bd
  refine W.seq ?_
  refine W.regS (SR.q' (r_as (v := .bool false) rfl) <| SR.nil ?_)
  refine W.seq ?_
  refine W.seq ?_
  refine W.regS (SR.q' (r_mv (v := .slice _ _ _) rfl) <| SR.call ent20 (c_laws_rBig w C ((hC))) rfl ?_)
  rintro e w1 ⟨rfl, hk2⟩
  refine ⟨_, rfl, ?_⟩
  have hz3 := hk2.size
  have hB4 := (Lo.refl w).lo hk2
  refine SR.nil ?_
  refine W.cond_d rfl (fun h5 => ?_) (fun h5 => ?_)
  · refine W.seq ?_
    refine W.regS (SR.q' (r_as (v := .bool true) rfl) <| SR.nil ?_)
    refine W.ret ?_
    refine ret1 rfl (v := .bool _) rfl ?_
    exact ⟨eR rfl, hB4⟩
  · refine W.skip ?_
    refine W.seq ?_
    refine W.regS (SR.q' (r_mv (v := .slice _ _ _) rfl) <| SR.call ent21 (c_spec_DrawSeatReader w1 C (((hC).lo hk2)) (by omega)) rfl ?_)
    rintro e w6 ⟨A8, n9, c10, v12, v13, v14, v15, rfl, hO11, hq16, hq17, hq18, hq19, hq20, hk7⟩
    refine ⟨_, rfl, ?_⟩
    have hz21 := hk7.size
    have hB22 := hB4.lo hk7
    have hl23 := hO11.len
    have hl24 := hO11.rd.bound
    have hq25 : ViLaw v12 v13 v14 v15 := vi_law v12 v13 v14 v15
    refine SR.q' (r_mv (v := .tuple (List.toArray _)) rfl) <| SR.q' (r_ext (v := .slice _ _ _) rfl rfl) <| SR.q' (r_ext (v := .int .i64 _) rfl rfl) <| SR.q' (r_ext (v := .int .i64 _) rfl rfl) <| SR.q' (r_ext (v := .int .i64 _) rfl rfl) <| SR.q' (r_as (v := .slice _ _ _) rfl) <| SR.q' (r_as (v := .int .i64 _) rfl) <| SR.q' (r_as (v := .int .i64 _) rfl) <| SR.q' (r_as (v := .int .i64 _) rfl) <| SR.nil ?_
    refine W.seq ?_
    have hm26 := ((hC).lo hk2).lo hk7
    refine W.regS (SR.q' (r_mv (v := .slice _ _ _) rfl) <| SR.q' (r_mv (v := .int .i64 _) rfl) <| SR.q' (r_mv (v := .int .i64 _) rfl) <| SR.q' (r_mv (v := .int .i64 _) rfl) <| SR.call ent19 (c_impl_SeatReader w6 v12 (((hO11).rd)) v13 v14 v15) rfl ?_)
    rintro e w27 ⟨A29, n30, c31, rfl, hO32, hk28⟩
    refine ⟨_, rfl, ?_⟩
    have hz33 := hk28.size
    have hB34 := hB22.lo hk28
    have hl35 := hO32.len
    have hl36 := hO32.rd.bound
    have hq37 := seat_len v12 v13 v14 v15
    refine SR.q' (r_mv (v := .tuple (List.toArray _)) rfl) <| SR.q' (r_ext (v := .slice _ _ _) rfl rfl) <| SR.q' (r_ext (v := .int .i64 _) rfl rfl) <| SR.q' (r_ext (v := .bool _) rfl rfl) <| SR.q' (r_as (v := .slice _ _ _) rfl) <| SR.q' (r_as (v := .int .i64 _) rfl) <| SR.q' (r_as (v := .bool _) rfl) <| SR.nil ?_
    refine W.seq ?_
    refine W.seq ?_
    refine W.regS (SR.q' (r_mv (v := .slice _ _ _) rfl) <| SR.q' (r_mv (v := .int .i64 _) rfl) <| SR.q' (r_mv (v := .int .i64 _) rfl) <| SR.q' (r_mv (v := .int .i64 _) rfl) <| SR.call ent18 (c_spec_SeatReader w27 v12 ((((hO11).lo hk28).rd)) v13 v14 v15) rfl ?_)
    rintro e w38 ⟨A40, n41, c42, rfl, hO43, hk39⟩
    refine ⟨_, rfl, ?_⟩
    have hz44 := hk39.size
    have hB45 := hB34.lo hk39
    have hl46 := hO43.len
    have hl47 := hO43.rd.bound
    have hq48 := seat_len v12 v13 v14 v15
    refine SR.q' (r_mv (v := .tuple (List.toArray _)) rfl) <| SR.q' (r_ext (v := .slice _ _ _) rfl rfl) <| SR.q' (r_ext (v := .int .i64 _) rfl rfl) <| SR.q' (r_ext (v := .bool _) rfl rfl) <| SR.q' (r_as (v := .slice _ _ _) rfl) <| SR.q' (r_as (v := .int .i64 _) rfl) <| SR.q' (r_as (v := .bool _) rfl) <| SR.nil ?_
    refine W.seq ?_
    have hm49 := ((hm26).lo hk28).lo hk39
    have hm50 := ((hO11).lo hk28).lo hk39
    refine W.regS (SR.q' (r_mv (v := .bool _) rfl) <| SR.q' (r_mv (v := .bool _) rfl) <| SR.q' (r_neb_s und4 rfl rfl) <| SR.q' (r_mv (v := .bool _) rfl) <| SR.g' rfl (r_mv (v := .int .i64 _) rfl) <| SR.g' rfl (r_mv (v := .int .i64 _) rfl) <| SR.g' rfl (r_ne_s rfl rfl) <| SR.q' (r_pick false rfl (v := .bool _) rfl) <| SR.q' (r_mv (v := .bool _) rfl) <| SR.g' rfl (r_mv (v := .slice _ _ _) rfl) <| SR.g' rfl (r_mv (v := .slice _ _ _) rfl) <| SR.gcall rfl ent22 (c_laws_rVisits w38 ((seatR v12 v13 v14 v15).elim [] (·.1)) ((((hO32).lo hk39).rd)) ((seatR v12 v13 v14 v15).elim [] (·.1)) (((hO43).rd))) rfl ?_)
    rintro e w51 ⟨rfl, hk52⟩
    refine ⟨_, rfl, ?_⟩
    have hz53 := hk52.size
    have hB54 := hB45.lo hk52
    refine SR.g' rfl (r_not rfl) <| SR.q' (r_pick false rfl (v := .bool _) rfl) <| SR.nil ?_
    refine W.cond_n rfl (fun h55 => ?_) (fun h55 => ?_)
    · refine W.seq ?_
      have hm56 := ((hO32).lo hk39).lo hk52
      refine W.regS (SR.q' (r_as (v := .bool false) rfl) <| SR.nil ?_)
      refine W.ret ?_
      refine ret1 rfl (v := .bool _) rfl ?_
      exact ⟨eR (eB (z_c_laws_FnVisits_57 C nC hbdC hleC h5 v12 v13 v14 v15 hq16 hq17 hq18 hq19 hq20 n9 hl23 hl24 hq25 n30 hl35 hl36 hq37 n41 hl46 hl47 hq48 h55)), hB54⟩
    · refine W.skip ?_
      refine W.seq ?_
      refine W.seq ?_
      have hm58 := ((hO32).lo hk39).lo hk52
      refine W.regS (SR.q' (r_mv (v := .bool _) rfl) <| SR.nil ?_)
      refine W.cond_b rfl (fun h59 => ?_) (fun h59 => ?_)
      · refine W.seq ?_
        refine W.regS (SR.q' (r_mv (v := .slice _ _ _) rfl) <| SR.q' (r_mv (v := .int .i64 _) rfl) <| SR.q' (r_mv (v := .int .i64 _) rfl) <| SR.call ent23 (c_impl_FreeSeats w51 v12 ((((hm50).lo hk52).rd)) v14 v15) rfl ?_)
        rintro e w60 ⟨A62, n63, c64, rfl, hO65, hk61⟩
        refine ⟨_, rfl, ?_⟩
        have hz66 := hk61.size
        have hB67 := hB54.lo hk61
        have hl68 := hO65.len
        have hl69 := hO65.rd.bound
        have hq70 := freeF_len v12 v14 v15
        refine SR.q' (r_mv (v := .tuple (List.toArray _)) rfl) <| SR.q' (r_ext (v := .slice _ _ _) rfl rfl) <| SR.q' (r_ext (v := .bool _) rfl rfl) <| SR.q' (r_as (v := .slice _ _ _) rfl) <| SR.q' (r_as (v := .bool _) rfl) <| SR.nil ?_
        refine W.seq ?_
        have hm71 := ((hm49).lo hk52).lo hk61
        have hm72 := ((hm50).lo hk52).lo hk61
        refine W.regS (SR.q' (r_mv (v := .slice _ _ _) rfl) <| SR.q' (r_mv (v := .int .i64 _) rfl) <| SR.q' (r_mv (v := .int .i64 _) rfl) <| SR.call ent24 (c_impl_SeatOf w60 ((seatR v12 v13 v14 v15).elim [] (·.1)) ((((hm58).lo hk61).rd)) v13 v14) rfl ?_)
        rintro e w73 ⟨rfl, hk74⟩
        refine ⟨_, rfl, ?_⟩
        have hz75 := hk74.size
        have hB76 := hB67.lo hk74
        refine SR.q' (r_mv (v := .tuple (List.toArray _)) rfl) <| SR.q' (r_ext (v := .int .i64 _) rfl rfl) <| SR.q' (r_ext (v := .bool _) rfl rfl) <| SR.q' (r_as (v := .int .i64 _) rfl) <| SR.q' (r_as (v := .bool _) rfl) <| SR.nil ?_
        refine W.seq ?_
        have hm77 := ((hm58).lo hk61).lo hk74
        refine W.regS (SR.q' (r_mv (v := .slice _ _ _) rfl) <| SR.q' (r_mv (v := .int .i64 _) rfl) <| SR.call ent25 (c_impl_SeatMinutes w73 v12 ((((hm72).lo hk74).rd)) v13) rfl ?_)
        rintro e w78 ⟨rfl, hk79⟩
        refine ⟨_, rfl, ?_⟩
        have hz80 := hk79.size
        have hB81 := hB76.lo hk79
        have hq82 : 0 ≤ (if VsOK v12 ∧ (1 ≤ v13 ∧ v13 ≤ 999) then minsN v12 v13 else 0) ∧ (if VsOK v12 ∧ (1 ≤ v13 ∧ v13 ≤ 999) then minsN v12 v13 else 0) ≤ 10800 := mins_rng v12 v13
        refine SR.q' (r_mv (v := .tuple (List.toArray _)) rfl) <| SR.q' (r_ext (v := .int .i64 _) rfl rfl) <| SR.q' (r_ext (v := .bool _) rfl rfl) <| SR.q' (r_as (v := .int .i64 _) rfl) <| SR.q' (r_as (v := .bool _) rfl) <| SR.nil ?_
        refine W.seq ?_
        have hm83 := ((hm71).lo hk74).lo hk79
        have hm84 := ((hm72).lo hk74).lo hk79
        have hm85 := ((hO65).lo hk74).lo hk79
        refine W.regS (SR.q' (r_mv (v := .slice _ _ _) rfl) <| SR.q' (r_mv (v := .int .i64 _) rfl) <| SR.call ent25 (c_impl_SeatMinutes w78 ((seatR v12 v13 v14 v15).elim [] (·.1)) ((((hm77).lo hk79).rd)) v13) rfl ?_)
        rintro e w86 ⟨rfl, hk87⟩
        refine ⟨_, rfl, ?_⟩
        have hz88 := hk87.size
        have hB89 := hB81.lo hk87
        have hq90 : 0 ≤ (if VsOK ((seatR v12 v13 v14 v15).elim [] (·.1)) ∧ (1 ≤ v13 ∧ v13 ≤ 999) then minsN ((seatR v12 v13 v14 v15).elim [] (·.1)) v13 else 0) ∧ (if VsOK ((seatR v12 v13 v14 v15).elim [] (·.1)) ∧ (1 ≤ v13 ∧ v13 ≤ 999) then minsN ((seatR v12 v13 v14 v15).elim [] (·.1)) v13 else 0) ≤ 10800 := mins_rng ((seatR v12 v13 v14 v15).elim [] (·.1)) v13
        refine SR.q' (r_mv (v := .tuple (List.toArray _)) rfl) <| SR.q' (r_ext (v := .int .i64 _) rfl rfl) <| SR.q' (r_ext (v := .bool _) rfl rfl) <| SR.q' (r_as (v := .int .i64 _) rfl) <| SR.q' (r_as (v := .bool _) rfl) <| SR.nil ?_
        refine W.seq ?_
        have hm91 := ((hm77).lo hk79).lo hk87
        refine W.regS (SR.q' (r_mv (v := .slice _ _ _) rfl) <| SR.q' (r_mv (v := .int .i64 _) rfl) <| SR.q' (r_mv (v := .int .i64 _) rfl) <| SR.call ent17 (c_impl_LeaveSeat w86 ((seatR v12 v13 v14 v15).elim [] (·.1)) (((hm91).rd)) v13 v14) rfl ?_)
        rintro e w92 ⟨A94, n95, c96, rfl, hO97, hk93⟩
        refine ⟨_, rfl, ?_⟩
        have hz98 := hk93.size
        have hB99 := hB89.lo hk93
        have hl100 := hO97.len
        have hl101 := hO97.rd.bound
        have hq102 := lvs_len ((seatR v12 v13 v14 v15).elim [] (·.1)) v13 v14
        refine SR.q' (r_mv (v := .tuple (List.toArray _)) rfl) <| SR.q' (r_ext (v := .slice _ _ _) rfl rfl) <| SR.q' (r_ext (v := .bool _) rfl rfl) <| SR.q' (r_as (v := .slice _ _ _) rfl) <| SR.q' (r_as (v := .bool _) rfl) <| SR.nil ?_
        refine W.seq ?_
        have hm103 := ((hm83).lo hk87).lo hk93
        have hm104 := ((hm84).lo hk87).lo hk93
        have hm105 := ((hm85).lo hk87).lo hk93
        refine W.regJS (fun f' w' => At f' [(0, .slice AC nC cC), (2, .bool false), (164, .bool (decide ((¬ (VsOK v12 ∧ (480 ≤ v14 ∧ v14 ≤ 1200) ∧ (480 ≤ v15 ∧ v15 ≤ 1200) ∧ v14 < v15)) ∨ ((¬ (VsOK ((seatR v12 v13 v14 v15).elim [] (·.1)) ∧ (1 ≤ v13 ∧ v13 ≤ 999) ∧ (480 ≤ v14 ∧ v14 ≤ 1200))) ∨ ((¬ (VsOK v12 ∧ (1 ≤ v13 ∧ v13 ≤ 999))) ∨ ((¬ (VsOK ((seatR v12 v13 v14 v15).elim [] (·.1)) ∧ (1 ≤ v13 ∧ v13 ≤ 999))) ∨ (((!((lvs ((seatR v12 v13 v14 v15).elim [] (·.1)) v13 v14).isSome)) = true) ∨ ((¬ (((seatR v12 v13 v14 v15).elim 0 (·.2)) ∈ (freeF v12 v14 v15))) ∨ ((¬ ((seatO ((seatR v12 v13 v14 v15).elim [] (·.1)) v13 v14) = ((seatR v12 v13 v14 v15).elim 0 (·.2)))) ∨ ((¬ (((if VsOK ((seatR v12 v13 v14 v15).elim [] (·.1)) ∧ (1 ≤ v13 ∧ v13 ≤ 999) then minsN ((seatR v12 v13 v14 v15).elim [] (·.1)) v13 else 0) - (if VsOK v12 ∧ (1 ≤ v13 ∧ v13 ≤ 999) then minsN v12 v13 else 0)) = (v15 - v14))) ∨ (¬ (((lvs ((seatR v12 v13 v14 v15).elim [] (·.1)) v13 v14).getD []) = v12))))))))))))] ∧ Lo w92 w') ?_ ?_
        · refine SR.q' (r_mv (v := .bool _) rfl) <| SR.q' (r_not rfl) <| SR.q' (r_mv (v := .bool _) rfl) <| SR.splitN (fun h106 => ?_) (fun h106 => ?_)
          · refine SR.s' rfl <| SR.s' rfl <| SR.q' (r_pick true rfl (v := .bool true) rfl) <| SR.q' (r_mv (v := .bool _) rfl) <| SR.s' rfl <| SR.s' rfl <| SR.q' (r_pick true rfl (v := .bool true) rfl) <| SR.q' (r_mv (v := .bool _) rfl) <| SR.s' rfl <| SR.s' rfl <| SR.q' (r_pick true rfl (v := .bool true) rfl) <| SR.q' (r_mv (v := .bool _) rfl) <| SR.s' rfl <| SR.s' rfl <| SR.q' (r_pick true rfl (v := .bool true) rfl) <| SR.q' (r_mv (v := .bool _) rfl) <| SR.s' rfl <| SR.s' rfl <| SR.s' rfl <| SR.s' rfl <| SR.q' (r_pick true rfl (v := .bool true) rfl) <| SR.q' (r_mv (v := .bool _) rfl) <| SR.s' rfl <| SR.s' rfl <| SR.s' rfl <| SR.q' (r_pick true rfl (v := .bool true) rfl) <| SR.q' (r_mv (v := .bool _) rfl) <| SR.s' rfl <| SR.s' rfl <| SR.s' rfl <| SR.s' rfl <| SR.s' rfl <| SR.s' rfl <| SR.s' rfl <| SR.q' (r_pick true rfl (v := .bool true) rfl) <| SR.q' (r_mv (v := .bool _) rfl) <| SR.s' rfl <| SR.s' rfl <| SR.s' rfl <| SR.s' rfl <| SR.q' (r_pick true rfl (v := .bool true) rfl) <| SR.nil ?_
            exact ⟨_, rfl, ⟨⟨rfl, rfl, (eDT ((jmf h106).1 trivial)), trivial⟩, (Lo.refl _)⟩⟩
          · have hq107 := And.left h106
            have hq108 := vs_len hq107
            refine SR.g' rfl (r_mv (v := .bool _) rfl) <| SR.g' rfl (r_not rfl) <| SR.q' (r_pick false rfl (v := .bool _) rfl) <| SR.q' (r_mv (v := .bool _) rfl) <| SR.splitN (fun h109 => ?_) (fun h109 => ?_)
            · refine SR.s' rfl <| SR.s' rfl <| SR.q' (r_pick true rfl (v := .bool true) rfl) <| SR.q' (r_mv (v := .bool _) rfl) <| SR.s' rfl <| SR.s' rfl <| SR.q' (r_pick true rfl (v := .bool true) rfl) <| SR.q' (r_mv (v := .bool _) rfl) <| SR.s' rfl <| SR.s' rfl <| SR.q' (r_pick true rfl (v := .bool true) rfl) <| SR.q' (r_mv (v := .bool _) rfl) <| SR.s' rfl <| SR.s' rfl <| SR.s' rfl <| SR.s' rfl <| SR.q' (r_pick true rfl (v := .bool true) rfl) <| SR.q' (r_mv (v := .bool _) rfl) <| SR.s' rfl <| SR.s' rfl <| SR.s' rfl <| SR.q' (r_pick true rfl (v := .bool true) rfl) <| SR.q' (r_mv (v := .bool _) rfl) <| SR.s' rfl <| SR.s' rfl <| SR.s' rfl <| SR.s' rfl <| SR.s' rfl <| SR.s' rfl <| SR.s' rfl <| SR.q' (r_pick true rfl (v := .bool true) rfl) <| SR.q' (r_mv (v := .bool _) rfl) <| SR.s' rfl <| SR.s' rfl <| SR.s' rfl <| SR.s' rfl <| SR.q' (r_pick true rfl (v := .bool true) rfl) <| SR.nil ?_
              exact ⟨_, rfl, ⟨⟨rfl, rfl, (eDT (((jmf h109).trans (jmt h106)).1 trivial)), trivial⟩, (Lo.refl _)⟩⟩
            · refine SR.g' rfl (r_mv (v := .bool _) rfl) <| SR.g' rfl (r_not rfl) <| SR.q' (r_pick false rfl (v := .bool _) rfl) <| SR.q' (r_mv (v := .bool _) rfl) <| SR.splitN (fun h110 => ?_) (fun h110 => ?_)
              · refine SR.s' rfl <| SR.s' rfl <| SR.q' (r_pick true rfl (v := .bool true) rfl) <| SR.q' (r_mv (v := .bool _) rfl) <| SR.s' rfl <| SR.s' rfl <| SR.q' (r_pick true rfl (v := .bool true) rfl) <| SR.q' (r_mv (v := .bool _) rfl) <| SR.s' rfl <| SR.s' rfl <| SR.s' rfl <| SR.s' rfl <| SR.q' (r_pick true rfl (v := .bool true) rfl) <| SR.q' (r_mv (v := .bool _) rfl) <| SR.s' rfl <| SR.s' rfl <| SR.s' rfl <| SR.q' (r_pick true rfl (v := .bool true) rfl) <| SR.q' (r_mv (v := .bool _) rfl) <| SR.s' rfl <| SR.s' rfl <| SR.s' rfl <| SR.s' rfl <| SR.s' rfl <| SR.s' rfl <| SR.s' rfl <| SR.q' (r_pick true rfl (v := .bool true) rfl) <| SR.q' (r_mv (v := .bool _) rfl) <| SR.s' rfl <| SR.s' rfl <| SR.s' rfl <| SR.s' rfl <| SR.q' (r_pick true rfl (v := .bool true) rfl) <| SR.nil ?_
                exact ⟨_, rfl, ⟨⟨rfl, rfl, (eDT ((((jmf h110).trans (jmt h109)).trans (jmt h106)).1 trivial)), trivial⟩, (Lo.refl _)⟩⟩
              · have hq111 := And.left h110
                have hq112 := vs_len hq111
                refine SR.g' rfl (r_mv (v := .bool _) rfl) <| SR.g' rfl (r_not rfl) <| SR.q' (r_pick false rfl (v := .bool _) rfl) <| SR.q' (r_mv (v := .bool _) rfl) <| SR.splitN (fun h113 => ?_) (fun h113 => ?_)
                · refine SR.s' rfl <| SR.s' rfl <| SR.q' (r_pick true rfl (v := .bool true) rfl) <| SR.q' (r_mv (v := .bool _) rfl) <| SR.s' rfl <| SR.s' rfl <| SR.s' rfl <| SR.s' rfl <| SR.q' (r_pick true rfl (v := .bool true) rfl) <| SR.q' (r_mv (v := .bool _) rfl) <| SR.s' rfl <| SR.s' rfl <| SR.s' rfl <| SR.q' (r_pick true rfl (v := .bool true) rfl) <| SR.q' (r_mv (v := .bool _) rfl) <| SR.s' rfl <| SR.s' rfl <| SR.s' rfl <| SR.s' rfl <| SR.s' rfl <| SR.s' rfl <| SR.s' rfl <| SR.q' (r_pick true rfl (v := .bool true) rfl) <| SR.q' (r_mv (v := .bool _) rfl) <| SR.s' rfl <| SR.s' rfl <| SR.s' rfl <| SR.s' rfl <| SR.q' (r_pick true rfl (v := .bool true) rfl) <| SR.nil ?_
                  exact ⟨_, rfl, ⟨⟨rfl, rfl, (eDT (((((jmf h113).trans (jmt h110)).trans (jmt h109)).trans (jmt h106)).1 trivial)), trivial⟩, (Lo.refl _)⟩⟩
                · refine SR.g' rfl (r_mv (v := .bool _) rfl) <| SR.g' rfl (r_not rfl) <| SR.q' (r_pick false rfl (v := .bool _) rfl) <| SR.q' (r_mv (v := .bool _) rfl) <| SR.split (fun h114 => ?_) (fun h114 => ?_)
                  · refine SR.s' rfl <| SR.s' rfl <| SR.s' rfl <| SR.s' rfl <| SR.q' (r_pick true rfl (v := .bool true) rfl) <| SR.q' (r_mv (v := .bool _) rfl) <| SR.s' rfl <| SR.s' rfl <| SR.s' rfl <| SR.q' (r_pick true rfl (v := .bool true) rfl) <| SR.q' (r_mv (v := .bool _) rfl) <| SR.s' rfl <| SR.s' rfl <| SR.s' rfl <| SR.s' rfl <| SR.s' rfl <| SR.s' rfl <| SR.s' rfl <| SR.q' (r_pick true rfl (v := .bool true) rfl) <| SR.q' (r_mv (v := .bool _) rfl) <| SR.s' rfl <| SR.s' rfl <| SR.s' rfl <| SR.s' rfl <| SR.q' (r_pick true rfl (v := .bool true) rfl) <| SR.nil ?_
                    exact ⟨_, rfl, ⟨⟨rfl, rfl, (eDT ((((((jot h114).trans (jmt h113)).trans (jmt h110)).trans (jmt h109)).trans (jmt h106)).1 trivial)), trivial⟩, (Lo.refl _)⟩⟩
                  · refine SR.g' rfl (r_mv (v := .slice _ _ _) rfl) <| SR.g' rfl (r_mv (v := .int .i64 _) rfl) <| SR.gcall rfl ent26 (c_laws_rHas w92 (freeF v12 v14 v15) (((hm105).rd)) ((seatR v12 v13 v14 v15).elim 0 (·.2))) rfl ?_
                    rintro e w115 ⟨rfl, hk116⟩
                    refine ⟨_, rfl, ?_⟩
                    have hz117 := hk116.size
                    have hB118 := hB99.lo hk116
                    refine SR.g' rfl (r_not rfl) <| SR.q' (r_pick false rfl (v := .bool _) rfl) <| SR.q' (r_mv (v := .bool _) rfl) <| SR.splitN (fun h119 => ?_) (fun h119 => ?_)
                    · refine SR.s' rfl <| SR.s' rfl <| SR.s' rfl <| SR.q' (r_pick true rfl (v := .bool true) rfl) <| SR.q' (r_mv (v := .bool _) rfl) <| SR.s' rfl <| SR.s' rfl <| SR.s' rfl <| SR.s' rfl <| SR.s' rfl <| SR.s' rfl <| SR.s' rfl <| SR.q' (r_pick true rfl (v := .bool true) rfl) <| SR.q' (r_mv (v := .bool _) rfl) <| SR.s' rfl <| SR.s' rfl <| SR.s' rfl <| SR.s' rfl <| SR.q' (r_pick true rfl (v := .bool true) rfl) <| SR.nil ?_
                      exact ⟨_, rfl, ⟨⟨rfl, rfl, (eDT (((((((jmf h119).trans (jof (ne_true_of_eq_false h114))).trans (jmt h113)).trans (jmt h110)).trans (jmt h109)).trans (jmt h106)).1 trivial)), trivial⟩, (hk116)⟩⟩
                    · refine SR.g' rfl (r_mv (v := .int .i64 _) rfl) <| SR.g' rfl (r_mv (v := .int .i64 _) rfl) <| SR.g' rfl (r_ne rfl rfl) <| SR.q' (r_pick false rfl (v := .bool _) rfl) <| SR.q' (r_mv (v := .bool _) rfl) <| SR.splitN (fun h120 => ?_) (fun h120 => ?_)
                      · refine SR.s' rfl <| SR.s' rfl <| SR.s' rfl <| SR.s' rfl <| SR.s' rfl <| SR.s' rfl <| SR.s' rfl <| SR.q' (r_pick true rfl (v := .bool true) rfl) <| SR.q' (r_mv (v := .bool _) rfl) <| SR.s' rfl <| SR.s' rfl <| SR.s' rfl <| SR.s' rfl <| SR.q' (r_pick true rfl (v := .bool true) rfl) <| SR.nil ?_
                        exact ⟨_, rfl, ⟨⟨rfl, rfl, (eDT ((((((((jmf h120).trans (jmt h119)).trans (jof (ne_true_of_eq_false h114))).trans (jmt h113)).trans (jmt h110)).trans (jmt h109)).trans (jmt h106)).1 trivial)), trivial⟩, (hk116)⟩⟩
                      · refine SR.g' rfl (r_mv (v := .int .i64 _) rfl) <| SR.g' rfl (r_mv (v := .int .i64 _) rfl) <| SR.g' rfl (r_sub rfl rfl (by omega)) <| SR.g' rfl (r_mv (v := .int .i64 _) rfl) <| SR.g' rfl (r_mv (v := .int .i64 _) rfl) <| SR.g' rfl (r_sub rfl rfl (by omega)) <| SR.g' rfl (r_ne rfl rfl) <| SR.q' (r_pick false rfl (v := .bool _) rfl) <| SR.q' (r_mv (v := .bool _) rfl) <| SR.splitN (fun h121 => ?_) (fun h121 => ?_)
                        · refine SR.s' rfl <| SR.s' rfl <| SR.s' rfl <| SR.s' rfl <| SR.q' (r_pick true rfl (v := .bool true) rfl) <| SR.nil ?_
                          exact ⟨_, rfl, ⟨⟨rfl, rfl, (eDT (((((((((jmf h121).trans (jmt h120)).trans (jmt h119)).trans (jof (ne_true_of_eq_false h114))).trans (jmt h113)).trans (jmt h110)).trans (jmt h109)).trans (jmt h106)).1 trivial)), trivial⟩, (hk116)⟩⟩
                        · refine SR.g' rfl (r_mv (v := .slice _ _ _) rfl) <| SR.g' rfl (r_mv (v := .slice _ _ _) rfl) <| SR.gcall rfl ent22 (c_laws_rVisits w115 ((lvs ((seatR v12 v13 v14 v15).elim [] (·.1)) v13 v14).getD []) ((((hO97).lo hk116).rd)) v12 ((((hm104).lo hk116).rd))) rfl ?_
                          rintro e w122 ⟨rfl, hk123⟩
                          refine ⟨_, rfl, ?_⟩
                          have hz124 := hk123.size
                          have hB125 := hB118.lo hk123
                          refine SR.g' rfl (r_not rfl) <| SR.q' (r_pick false rfl (v := .bool _) rfl) <| SR.nil ?_
                          exact ⟨_, rfl, ⟨⟨rfl, rfl, (eND ((((((((jmt h121).trans (jmt h120)).trans (jmt h119)).trans (jof (ne_true_of_eq_false h114))).trans (jmt h113)).trans (jmt h110)).trans (jmt h109)).trans (jmt h106))), trivial⟩, ((hk116).trans hk123)⟩⟩
        rintro f126 w127 ⟨hat128, hk129⟩
        rw [← sets_of_at hat128]
        have hz130 := hk129.size
        have hB131 := hB99.lo hk129
        refine W.cond_d rfl (fun h132 => ?_) (fun h132 => ?_)
        · refine W.seq ?_
          refine W.regS (SR.q' (r_as (v := .bool false) rfl) <| SR.nil ?_)
          refine W.ret ?_
          refine ret1 rfl (v := .bool _) rfl ?_
          exact ⟨eR (eB (z_c_laws_FnVisits_133 C nC hbdC hleC h5 v12 v13 v14 v15 hq16 hq17 hq18 hq19 hq20 n9 hl23 hl24 hq25 n30 hl35 hl36 hq37 n41 hl46 hl47 hq48 h55 h59 n63 hl68 hl69 hq70 hq82 hq90 n95 hl100 hl101 hq102 h132)), hB131⟩
        · have hq134 : VsOK v12 ∧ (480 ≤ v14 ∧ v14 ≤ 1200) ∧ (480 ≤ v15 ∧ v15 ≤ 1200) ∧ v14 < v15 := (Classical.not_not.1 (not_or.1 h132).1)
          have hq135 : VsOK ((seatR v12 v13 v14 v15).elim [] (·.1)) ∧ (1 ≤ v13 ∧ v13 ≤ 999) ∧ (480 ≤ v14 ∧ v14 ≤ 1200) := (Classical.not_not.1 (not_or.1 (not_or.1 h132).2).1)
          have hq136 : VsOK v12 ∧ (1 ≤ v13 ∧ v13 ≤ 999) := (Classical.not_not.1 (not_or.1 (not_or.1 (not_or.1 h132).2).2).1)
          have hq137 : VsOK ((seatR v12 v13 v14 v15).elim [] (·.1)) ∧ (1 ≤ v13 ∧ v13 ≤ 999) := (Classical.not_not.1 (not_or.1 (not_or.1 (not_or.1 (not_or.1 h132).2).2).2).1)
          have hq138 : ¬ ((!((lvs ((seatR v12 v13 v14 v15).elim [] (·.1)) v13 v14).isSome)) = true) := (not_or.1 (not_or.1 (not_or.1 (not_or.1 (not_or.1 h132).2).2).2).2).1
          have hq139 : ((seatR v12 v13 v14 v15).elim 0 (·.2)) ∈ (freeF v12 v14 v15) := (Classical.not_not.1 (not_or.1 (not_or.1 (not_or.1 (not_or.1 (not_or.1 (not_or.1 h132).2).2).2).2).2).1)
          have hq140 : (seatO ((seatR v12 v13 v14 v15).elim [] (·.1)) v13 v14) = ((seatR v12 v13 v14 v15).elim 0 (·.2)) := (Classical.not_not.1 (not_or.1 (not_or.1 (not_or.1 (not_or.1 (not_or.1 (not_or.1 (not_or.1 h132).2).2).2).2).2).2).1)
          have hq141 : ((if VsOK ((seatR v12 v13 v14 v15).elim [] (·.1)) ∧ (1 ≤ v13 ∧ v13 ≤ 999) then minsN ((seatR v12 v13 v14 v15).elim [] (·.1)) v13 else 0) - (if VsOK v12 ∧ (1 ≤ v13 ∧ v13 ≤ 999) then minsN v12 v13 else 0)) = (v15 - v14) := (Classical.not_not.1 (not_or.1 (not_or.1 (not_or.1 (not_or.1 (not_or.1 (not_or.1 (not_or.1 (not_or.1 h132).2).2).2).2).2).2).2).1)
          have hq142 : ((lvs ((seatR v12 v13 v14 v15).elim [] (·.1)) v13 v14).getD []) = v12 := (Classical.not_not.1 (not_or.1 (not_or.1 (not_or.1 (not_or.1 (not_or.1 (not_or.1 (not_or.1 (not_or.1 h132).2).2).2).2).2).2).2).2)
          have hq143 := And.left hq134
          have hq144 := And.left hq136
          have hq145 := vs_len hq143
          have hq146 := vs_len hq144
          refine W.skip ?_
          refine W.seq ?_
          refine W.regS (SR.q' (r_mv (v := .slice _ _ _) rfl) <| SR.call ent27 (c_spec_DrawLeaveSeat w127 C (((hm103).lo hk129)) (by omega)) rfl ?_)
          rintro e w147 ⟨A149, n150, c151, v153, v154, v155, rfl, hO152, hq156, hq157, hk148⟩
          refine ⟨_, rfl, ?_⟩
          have hz158 := hk148.size
          have hB159 := hB131.lo hk148
          have hl160 := hO152.len
          have hl161 := hO152.rd.bound
          have hq162 : LeLaw v153 v154 v155 := le_law v153 v154 v155
          refine SR.q' (r_mv (v := .tuple (List.toArray _)) rfl) <| SR.q' (r_ext (v := .slice _ _ _) rfl rfl) <| SR.q' (r_ext (v := .int .i64 _) rfl rfl) <| SR.q' (r_ext (v := .int .i64 _) rfl rfl) <| SR.q' (r_as (v := .slice _ _ _) rfl) <| SR.q' (r_as (v := .int .i64 _) rfl) <| SR.q' (r_as (v := .int .i64 _) rfl) <| SR.nil ?_
          refine W.seq ?_
          have hm163 := ((hm103).lo hk129).lo hk148
          refine W.regS (SR.q' (r_mv (v := .slice _ _ _) rfl) <| SR.q' (r_mv (v := .int .i64 _) rfl) <| SR.q' (r_mv (v := .int .i64 _) rfl) <| SR.call ent17 (c_impl_LeaveSeat w147 v153 (((hO152).rd)) v154 v155) rfl ?_)
          rintro e w164 ⟨A166, n167, c168, rfl, hO169, hk165⟩
          refine ⟨_, rfl, ?_⟩
          have hz170 := hk165.size
          have hB171 := hB159.lo hk165
          have hl172 := hO169.len
          have hl173 := hO169.rd.bound
          have hq174 := lvs_len v153 v154 v155
          refine SR.q' (r_mv (v := .tuple (List.toArray _)) rfl) <| SR.q' (r_ext (v := .slice _ _ _) rfl rfl) <| SR.q' (r_ext (v := .bool _) rfl rfl) <| SR.q' (r_as (v := .slice _ _ _) rfl) <| SR.q' (r_as (v := .bool _) rfl) <| SR.nil ?_
          refine W.seq ?_
          refine W.seq ?_
          refine W.regS (SR.q' (r_mv (v := .slice _ _ _) rfl) <| SR.q' (r_mv (v := .int .i64 _) rfl) <| SR.q' (r_mv (v := .int .i64 _) rfl) <| SR.call ent16 (c_spec_LeaveSeat w164 v153 ((((hO152).lo hk165).rd)) v154 v155) rfl ?_)
          rintro e w175 ⟨A177, n178, c179, rfl, hO180, hk176⟩
          refine ⟨_, rfl, ?_⟩
          have hz181 := hk176.size
          have hB182 := hB171.lo hk176
          have hl183 := hO180.len
          have hl184 := hO180.rd.bound
          have hq185 := lvs_len v153 v154 v155
          refine SR.q' (r_mv (v := .tuple (List.toArray _)) rfl) <| SR.q' (r_ext (v := .slice _ _ _) rfl rfl) <| SR.q' (r_ext (v := .bool _) rfl rfl) <| SR.q' (r_as (v := .slice _ _ _) rfl) <| SR.q' (r_as (v := .bool _) rfl) <| SR.nil ?_
          refine W.seq ?_
          have hm186 := ((hm163).lo hk165).lo hk176
          have hm187 := ((hO152).lo hk165).lo hk176
          refine W.regS (SR.q' (r_mv (v := .bool _) rfl) <| SR.q' (r_mv (v := .bool _) rfl) <| SR.q' (r_neb_s und4 rfl rfl) <| SR.q' (r_mv (v := .bool _) rfl) <| SR.g' rfl (r_mv (v := .slice _ _ _) rfl) <| SR.g' rfl (r_mv (v := .slice _ _ _) rfl) <| SR.gcall rfl ent22 (c_laws_rVisits w175 ((lvs v153 v154 v155).getD []) ((((hO169).lo hk176).rd)) ((lvs v153 v154 v155).getD []) (((hO180).rd))) rfl ?_)
          rintro e w188 ⟨rfl, hk189⟩
          refine ⟨_, rfl, ?_⟩
          have hz190 := hk189.size
          have hB191 := hB182.lo hk189
          refine SR.g' rfl (r_not rfl) <| SR.q' (r_pick false rfl (v := .bool _) rfl) <| SR.nil ?_
          refine W.cond_n rfl (fun h192 => ?_) (fun h192 => ?_)
          · refine W.seq ?_
            have hm193 := ((hO169).lo hk176).lo hk189
            refine W.regS (SR.q' (r_as (v := .bool false) rfl) <| SR.nil ?_)
            refine W.ret ?_
            refine ret1 rfl (v := .bool _) rfl ?_
            exact ⟨eR (eB (z_c_laws_FnVisits_194 C nC hbdC hleC h5 v12 v13 v14 v15 hq16 hq17 hq18 hq19 hq20 n9 hl23 hl24 hq25 n30 hl35 hl36 hq37 n41 hl46 hl47 hq48 h55 h59 n63 hl68 hl69 hq70 hq82 hq90 n95 hl100 hl101 hq102 h132 hq134 hq135 hq136 hq137 hq138 hq139 hq140 hq141 hq142 hq143 hq144 hq145 hq146 v153 v154 v155 hq156 hq157 n150 hl160 hl161 hq162 n167 hl172 hl173 hq174 n178 hl183 hl184 hq185 h192)), hB191⟩
          · refine W.skip ?_
            refine W.seq ?_
            refine W.seq ?_
            have hm195 := ((hO169).lo hk176).lo hk189
            refine W.regS (SR.q' (r_mv (v := .bool _) rfl) <| SR.nil ?_)
            refine W.cond_b rfl (fun h196 => ?_) (fun h196 => ?_)
            · refine W.seq ?_
              refine W.regS (SR.q' (r_mv (v := .slice _ _ _) rfl) <| SR.q' (r_mv (v := .int .i64 _) rfl) <| SR.q' (r_mv (v := .int .i64 _) rfl) <| SR.call ent24 (c_impl_SeatOf w188 ((lvs v153 v154 v155).getD []) (((hm195).rd)) v154 v155) rfl ?_)
              rintro e w197 ⟨rfl, hk198⟩
              refine ⟨_, rfl, ?_⟩
              have hz199 := hk198.size
              have hB200 := hB191.lo hk198
              refine SR.q' (r_mv (v := .tuple (List.toArray _)) rfl) <| SR.q' (r_ext (v := .int .i64 _) rfl rfl) <| SR.q' (r_ext (v := .bool _) rfl rfl) <| SR.q' (r_as (v := .int .i64 _) rfl) <| SR.q' (r_as (v := .bool _) rfl) <| SR.nil ?_
              refine W.seq ?_
              have hm201 := ((hm186).lo hk189).lo hk198
              have hm202 := ((hm187).lo hk189).lo hk198
              refine W.regJS (fun f' w' => At f' [(0, .slice AC nC cC), (2, .bool false), (23, .slice A149 n150 c151), (207, .bool (decide ((¬ (VsOK ((lvs v153 v154 v155).getD []) ∧ (1 ≤ v154 ∧ v154 ≤ 999) ∧ (480 ≤ v155 ∧ v155 ≤ 1200))) ∨ (¬ ((seatO ((lvs v153 v154 v155).getD []) v154 v155) = 0)))))] ∧ Lo w197 w') ?_ ?_
              · refine SR.q' (r_mv (v := .bool _) rfl) <| SR.q' (r_not rfl) <| SR.q' (r_mv (v := .bool _) rfl) <| SR.splitN (fun h203 => ?_) (fun h203 => ?_)
                · refine SR.s' rfl <| SR.s' rfl <| SR.q' (r_pick true rfl (v := .bool true) rfl) <| SR.nil ?_
                  exact ⟨_, rfl, ⟨⟨rfl, rfl, rfl, (eDT ((jmf h203).1 trivial)), trivial⟩, (Lo.refl _)⟩⟩
                · refine SR.g' rfl (r_mv (v := .int .i64 _) rfl) <| SR.g' rfl (r_ne rfl rfl) <| SR.q' (r_pick false rfl (v := .bool _) rfl) <| SR.nil ?_
                  exact ⟨_, rfl, ⟨⟨rfl, rfl, rfl, (eND (jmt h203)), trivial⟩, (Lo.refl _)⟩⟩
              rintro f204 w205 ⟨hat206, hk207⟩
              rw [← sets_of_at hat206]
              have hz208 := hk207.size
              have hB209 := hB200.lo hk207
              refine W.cond_d rfl (fun h210 => ?_) (fun h210 => ?_)
              · refine W.seq ?_
                refine W.regS (SR.q' (r_as (v := .bool false) rfl) <| SR.nil ?_)
                refine W.ret ?_
                refine ret1 rfl (v := .bool _) rfl ?_
                exact ⟨eR (eB (z_c_laws_FnVisits_211 C nC hbdC hleC h5 v12 v13 v14 v15 hq16 hq17 hq18 hq19 hq20 n9 hl23 hl24 hq25 n30 hl35 hl36 hq37 n41 hl46 hl47 hq48 h55 h59 n63 hl68 hl69 hq70 hq82 hq90 n95 hl100 hl101 hq102 h132 hq134 hq135 hq136 hq137 hq138 hq139 hq140 hq141 hq142 hq143 hq144 hq145 hq146 v153 v154 v155 hq156 hq157 n150 hl160 hl161 hq162 n167 hl172 hl173 hq174 n178 hl183 hl184 hq185 h192 h196 h210)), hB209⟩
              · have hq212 : VsOK ((lvs v153 v154 v155).getD []) ∧ (1 ≤ v154 ∧ v154 ≤ 999) ∧ (480 ≤ v155 ∧ v155 ≤ 1200) := (Classical.not_not.1 (not_or.1 h210).1)
                have hq213 : (seatO ((lvs v153 v154 v155).getD []) v154 v155) = 0 := (Classical.not_not.1 (not_or.1 h210).2)
                refine W.skip ?_
                refine W.seq ?_
                refine W.regS (SR.q' (r_mv (v := .slice _ _ _) rfl) <| SR.call ent28 (c_spec_DrawFreeSeats w205 C (((hm201).lo hk207)) (by omega)) rfl ?_)
                rintro e w214 ⟨A216, n217, c218, v220, v221, v222, rfl, hO219, hq223, hq224, hk215⟩
                refine ⟨_, rfl, ?_⟩
                have hz225 := hk215.size
                have hB226 := hB209.lo hk215
                have hl227 := hO219.len
                have hl228 := hO219.rd.bound
                refine SR.q' (r_mv (v := .tuple (List.toArray _)) rfl) <| SR.q' (r_ext (v := .slice _ _ _) rfl rfl) <| SR.q' (r_ext (v := .int .i64 _) rfl rfl) <| SR.q' (r_ext (v := .int .i64 _) rfl rfl) <| SR.q' (r_as (v := .slice _ _ _) rfl) <| SR.q' (r_as (v := .int .i64 _) rfl) <| SR.q' (r_as (v := .int .i64 _) rfl) <| SR.nil ?_
                refine W.seq ?_
                have hm229 := ((hm201).lo hk207).lo hk215
                have hm230 := ((hm202).lo hk207).lo hk215
                refine W.regS (SR.q' (r_mv (v := .slice _ _ _) rfl) <| SR.q' (r_mv (v := .int .i64 _) rfl) <| SR.q' (r_mv (v := .int .i64 _) rfl) <| SR.call ent23 (c_impl_FreeSeats w214 v220 (((hO219).rd)) v221 v222) rfl ?_)
                rintro e w231 ⟨A233, n234, c235, rfl, hO236, hk232⟩
                refine ⟨_, rfl, ?_⟩
                have hz237 := hk232.size
                have hB238 := hB226.lo hk232
                have hl239 := hO236.len
                have hl240 := hO236.rd.bound
                have hq241 := freeF_len v220 v221 v222
                refine SR.q' (r_mv (v := .tuple (List.toArray _)) rfl) <| SR.q' (r_ext (v := .slice _ _ _) rfl rfl) <| SR.q' (r_ext (v := .bool _) rfl rfl) <| SR.q' (r_as (v := .slice _ _ _) rfl) <| SR.q' (r_as (v := .bool _) rfl) <| SR.nil ?_
                refine W.seq ?_
                refine W.regS (SR.q' (r_mv (v := .slice _ _ _) rfl) <| SR.q' (r_mv (v := .int .i64 _) rfl) <| SR.q' (r_mv (v := .int .i64 _) rfl) <| SR.call ent29 (c_spec_FreeSeats w231 v220 ((((hO219).lo hk232).rd)) v221 v222) rfl ?_)
                rintro e w242 ⟨A244, n245, c246, rfl, hO247, hk243⟩
                refine ⟨_, rfl, ?_⟩
                have hz248 := hk243.size
                have hB249 := hB238.lo hk243
                have hl250 := hO247.len
                have hl251 := hO247.rd.bound
                have hq252 := freeF_len v220 v221 v222
                refine SR.q' (r_mv (v := .tuple (List.toArray _)) rfl) <| SR.q' (r_ext (v := .slice _ _ _) rfl rfl) <| SR.q' (r_ext (v := .bool _) rfl rfl) <| SR.q' (r_as (v := .slice _ _ _) rfl) <| SR.q' (r_as (v := .bool _) rfl) <| SR.nil ?_
                refine W.seq ?_
                have hm253 := ((hm229).lo hk232).lo hk243
                have hm254 := ((hm230).lo hk232).lo hk243
                refine W.regS (SR.q' (r_mv (v := .slice _ _ _) rfl) <| SR.call ent30 (c_spec_DrawSeatOf w242 C ((hm253)) (by omega)) rfl ?_)
                rintro e w255 ⟨A257, n258, c259, v261, v262, v263, rfl, hO260, hq264, hq265, hk256⟩
                refine ⟨_, rfl, ?_⟩
                have hz266 := hk256.size
                have hB267 := hB249.lo hk256
                have hl268 := hO260.len
                have hl269 := hO260.rd.bound
                refine SR.q' (r_mv (v := .tuple (List.toArray _)) rfl) <| SR.q' (r_ext (v := .slice _ _ _) rfl rfl) <| SR.q' (r_ext (v := .int .i64 _) rfl rfl) <| SR.q' (r_ext (v := .int .i64 _) rfl rfl) <| SR.q' (r_as (v := .slice _ _ _) rfl) <| SR.q' (r_as (v := .int .i64 _) rfl) <| SR.q' (r_as (v := .int .i64 _) rfl) <| SR.nil ?_
                refine W.seq ?_
                have hm270 := ((hO236).lo hk243).lo hk256
                refine W.regS (SR.q' (r_mv (v := .slice _ _ _) rfl) <| SR.q' (r_mv (v := .int .i64 _) rfl) <| SR.q' (r_mv (v := .int .i64 _) rfl) <| SR.call ent24 (c_impl_SeatOf w255 v261 (((hO260).rd)) v262 v263) rfl ?_)
                rintro e w271 ⟨rfl, hk272⟩
                refine ⟨_, rfl, ?_⟩
                have hz273 := hk272.size
                have hB274 := hB267.lo hk272
                refine SR.q' (r_mv (v := .tuple (List.toArray _)) rfl) <| SR.q' (r_ext (v := .int .i64 _) rfl rfl) <| SR.q' (r_ext (v := .bool _) rfl rfl) <| SR.q' (r_as (v := .int .i64 _) rfl) <| SR.q' (r_as (v := .bool _) rfl) <| SR.nil ?_
                refine W.seq ?_
                have hm275 := ((hm254).lo hk256).lo hk272
                have hm276 := ((hO247).lo hk256).lo hk272
                refine W.regS (SR.q' (r_mv (v := .slice _ _ _) rfl) <| SR.q' (r_mv (v := .int .i64 _) rfl) <| SR.q' (r_mv (v := .int .i64 _) rfl) <| SR.call ent31 (c_spec_SeatOf w271 v261 ((((hO260).lo hk272).rd)) v262 v263) rfl ?_)
                rintro e w277 ⟨rfl, hk278⟩
                refine ⟨_, rfl, ?_⟩
                have hz279 := hk278.size
                have hB280 := hB274.lo hk278
                refine SR.q' (r_mv (v := .tuple (List.toArray _)) rfl) <| SR.q' (r_ext (v := .int .i64 _) rfl rfl) <| SR.q' (r_ext (v := .bool _) rfl rfl) <| SR.q' (r_as (v := .int .i64 _) rfl) <| SR.q' (r_as (v := .bool _) rfl) <| SR.nil ?_
                refine W.seq ?_
                have hm281 := ((hm270).lo hk272).lo hk278
                refine W.regJS (fun f' w' => At f' [(2, .bool (decide ((freeF v220 v221 v222) = (freeF v220 v221 v222))))] ∧ Lo w277 w') ?_ ?_
                · refine SR.q' (r_mv (v := .bool _) rfl) <| SR.q' (r_mv (v := .bool _) rfl) <| SR.q' (r_eqb_s und4 rfl rfl) <| SR.q' (r_mv (v := .bool _) rfl) <| SR.g' rfl (r_mv (v := .slice _ _ _) rfl) <| SR.g' rfl (r_mv (v := .slice _ _ _) rfl) <| SR.gcall rfl ent32 (c_laws_rInts w277 (freeF v220 v221 v222) (((hm281).rd)) (freeF v220 v221 v222) ((((hm276).lo hk278).rd))) rfl ?_
                  rintro e w282 ⟨rfl, hk283⟩
                  refine ⟨_, rfl, ?_⟩
                  have hz284 := hk283.size
                  have hB285 := hB280.lo hk283
                  refine SR.q' (r_pick true rfl (v := .bool _) rfl) <| SR.q' (r_mv (v := .bool _) rfl) <| SR.splitD (fun h286 => ?_) (fun h286 => ?_)
                  · refine SR.g' rfl (r_mv (v := .int .i64 _) rfl) <| SR.g' rfl (r_mv (v := .int .i64 _) rfl) <| SR.g' rfl (r_eq_s rfl rfl) <| SR.q' (r_pick true rfl (v := .bool _) rfl) <| SR.q' (r_mv (v := .bool _) rfl) <| SR.g' rfl (r_mv (v := .bool _) rfl) <| SR.g' rfl (r_mv (v := .bool _) rfl) <| SR.g' rfl (r_eqb_s und4 rfl rfl) <| SR.q' (r_pick true rfl (v := .bool _) rfl) <| SR.q' (r_mv (v := .bool _) rfl) <| SR.g' rfl (r_mv (v := .slice _ _ _) rfl) <| SR.gcall rfl ent33 (c_impl_AreVisits w282 v153 (((((hm275).lo hk278).lo hk283).rd))) rfl ?_
                    rintro e w287 ⟨rfl, hk288⟩
                    refine ⟨_, rfl, ?_⟩
                    have hz289 := hk288.size
                    have hB290 := hB285.lo hk288
                    refine SR.g' rfl (r_mv (v := .slice _ _ _) rfl) <| SR.gcall rfl ent34 (c_spec_AreVisits w287 v153 ((((((hm275).lo hk278).lo hk283).lo hk288).rd))) rfl ?_
                    rintro e w291 ⟨rfl, hk292⟩
                    refine ⟨_, rfl, ?_⟩
                    have hz293 := hk292.size
                    have hB294 := hB290.lo hk292
                    refine SR.g' rfl (r_eqb_s und4 rfl rfl) <| SR.q' (r_pick true rfl (v := .bool _) rfl) <| SR.q' (r_as (v := .bool _) rfl) <| SR.nil ?_
                    exact ⟨_, rfl, ⟨⟨(eDT ((j1t h286).1 trivial)), trivial⟩, (((hk283).trans hk288).trans hk292)⟩⟩
                  · refine SR.s' rfl <| SR.s' rfl <| SR.s' rfl <| SR.q' (r_pick false rfl (v := .bool false) rfl) <| SR.q' (r_mv (v := .bool _) rfl) <| SR.s' rfl <| SR.s' rfl <| SR.s' rfl <| SR.q' (r_pick false rfl (v := .bool false) rfl) <| SR.q' (r_mv (v := .bool _) rfl) <| SR.s' rfl <| SR.s' rfl <| SR.s' rfl <| SR.s' rfl <| SR.s' rfl <| SR.q' (r_pick false rfl (v := .bool false) rfl) <| SR.q' (r_as (v := .bool _) rfl) <| SR.nil ?_
                    exact ⟨_, rfl, ⟨⟨(eDF (j1f h286).2), trivial⟩, (hk283)⟩⟩
                rintro f295 w296 ⟨hat297, hk298⟩
                rw [← sets_of_at hat297]
                have hz299 := hk298.size
                have hB300 := hB280.lo hk298
                refine W.ret ?_
                refine ret1 rfl (v := .bool _) rfl ?_
                exact ⟨eR (eB (z_c_laws_FnVisits_301 C nC hbdC hleC h5 v12 v13 v14 v15 hq16 hq17 hq18 hq19 hq20 n9 hl23 hl24 hq25 n30 hl35 hl36 hq37 n41 hl46 hl47 hq48 h55 h59 n63 hl68 hl69 hq70 hq82 hq90 n95 hl100 hl101 hq102 h132 hq134 hq135 hq136 hq137 hq138 hq139 hq140 hq141 hq142 hq143 hq144 hq145 hq146 v153 v154 v155 hq156 hq157 n150 hl160 hl161 hq162 n167 hl172 hl173 hq174 n178 hl183 hl184 hq185 h192 h196 h210 hq212 hq213 v220 v221 v222 hq223 hq224 n217 hl227 hl228 n234 hl239 hl240 hq241 n245 hl250 hl251 hq252 v261 v262 v263 hq264 hq265 n258 hl268 hl269)), hB300⟩
            · refine W.skip ?_
              refine W.seq ?_
              refine W.regS (SR.q' (r_mv (v := .slice _ _ _) rfl) <| SR.call ent28 (c_spec_DrawFreeSeats w188 C (((hm186).lo hk189)) (by omega)) rfl ?_)
              rintro e w302 ⟨A304, n305, c306, v308, v309, v310, rfl, hO307, hq311, hq312, hk303⟩
              refine ⟨_, rfl, ?_⟩
              have hz313 := hk303.size
              have hB314 := hB191.lo hk303
              have hl315 := hO307.len
              have hl316 := hO307.rd.bound
              refine SR.q' (r_mv (v := .tuple (List.toArray _)) rfl) <| SR.q' (r_ext (v := .slice _ _ _) rfl rfl) <| SR.q' (r_ext (v := .int .i64 _) rfl rfl) <| SR.q' (r_ext (v := .int .i64 _) rfl rfl) <| SR.q' (r_as (v := .slice _ _ _) rfl) <| SR.q' (r_as (v := .int .i64 _) rfl) <| SR.q' (r_as (v := .int .i64 _) rfl) <| SR.nil ?_
              refine W.seq ?_
              have hm317 := ((hm186).lo hk189).lo hk303
              have hm318 := ((hm187).lo hk189).lo hk303
              refine W.regS (SR.q' (r_mv (v := .slice _ _ _) rfl) <| SR.q' (r_mv (v := .int .i64 _) rfl) <| SR.q' (r_mv (v := .int .i64 _) rfl) <| SR.call ent23 (c_impl_FreeSeats w302 v308 (((hO307).rd)) v309 v310) rfl ?_)
              rintro e w319 ⟨A321, n322, c323, rfl, hO324, hk320⟩
              refine ⟨_, rfl, ?_⟩
              have hz325 := hk320.size
              have hB326 := hB314.lo hk320
              have hl327 := hO324.len
              have hl328 := hO324.rd.bound
              have hq329 := freeF_len v308 v309 v310
              refine SR.q' (r_mv (v := .tuple (List.toArray _)) rfl) <| SR.q' (r_ext (v := .slice _ _ _) rfl rfl) <| SR.q' (r_ext (v := .bool _) rfl rfl) <| SR.q' (r_as (v := .slice _ _ _) rfl) <| SR.q' (r_as (v := .bool _) rfl) <| SR.nil ?_
              refine W.seq ?_
              refine W.regS (SR.q' (r_mv (v := .slice _ _ _) rfl) <| SR.q' (r_mv (v := .int .i64 _) rfl) <| SR.q' (r_mv (v := .int .i64 _) rfl) <| SR.call ent29 (c_spec_FreeSeats w319 v308 ((((hO307).lo hk320).rd)) v309 v310) rfl ?_)
              rintro e w330 ⟨A332, n333, c334, rfl, hO335, hk331⟩
              refine ⟨_, rfl, ?_⟩
              have hz336 := hk331.size
              have hB337 := hB326.lo hk331
              have hl338 := hO335.len
              have hl339 := hO335.rd.bound
              have hq340 := freeF_len v308 v309 v310
              refine SR.q' (r_mv (v := .tuple (List.toArray _)) rfl) <| SR.q' (r_ext (v := .slice _ _ _) rfl rfl) <| SR.q' (r_ext (v := .bool _) rfl rfl) <| SR.q' (r_as (v := .slice _ _ _) rfl) <| SR.q' (r_as (v := .bool _) rfl) <| SR.nil ?_
              refine W.seq ?_
              have hm341 := ((hm317).lo hk320).lo hk331
              have hm342 := ((hm318).lo hk320).lo hk331
              refine W.regS (SR.q' (r_mv (v := .slice _ _ _) rfl) <| SR.call ent30 (c_spec_DrawSeatOf w330 C ((hm341)) (by omega)) rfl ?_)
              rintro e w343 ⟨A345, n346, c347, v349, v350, v351, rfl, hO348, hq352, hq353, hk344⟩
              refine ⟨_, rfl, ?_⟩
              have hz354 := hk344.size
              have hB355 := hB337.lo hk344
              have hl356 := hO348.len
              have hl357 := hO348.rd.bound
              refine SR.q' (r_mv (v := .tuple (List.toArray _)) rfl) <| SR.q' (r_ext (v := .slice _ _ _) rfl rfl) <| SR.q' (r_ext (v := .int .i64 _) rfl rfl) <| SR.q' (r_ext (v := .int .i64 _) rfl rfl) <| SR.q' (r_as (v := .slice _ _ _) rfl) <| SR.q' (r_as (v := .int .i64 _) rfl) <| SR.q' (r_as (v := .int .i64 _) rfl) <| SR.nil ?_
              refine W.seq ?_
              have hm358 := ((hO324).lo hk331).lo hk344
              refine W.regS (SR.q' (r_mv (v := .slice _ _ _) rfl) <| SR.q' (r_mv (v := .int .i64 _) rfl) <| SR.q' (r_mv (v := .int .i64 _) rfl) <| SR.call ent24 (c_impl_SeatOf w343 v349 (((hO348).rd)) v350 v351) rfl ?_)
              rintro e w359 ⟨rfl, hk360⟩
              refine ⟨_, rfl, ?_⟩
              have hz361 := hk360.size
              have hB362 := hB355.lo hk360
              refine SR.q' (r_mv (v := .tuple (List.toArray _)) rfl) <| SR.q' (r_ext (v := .int .i64 _) rfl rfl) <| SR.q' (r_ext (v := .bool _) rfl rfl) <| SR.q' (r_as (v := .int .i64 _) rfl) <| SR.q' (r_as (v := .bool _) rfl) <| SR.nil ?_
              refine W.seq ?_
              have hm363 := ((hm342).lo hk344).lo hk360
              have hm364 := ((hO335).lo hk344).lo hk360
              refine W.regS (SR.q' (r_mv (v := .slice _ _ _) rfl) <| SR.q' (r_mv (v := .int .i64 _) rfl) <| SR.q' (r_mv (v := .int .i64 _) rfl) <| SR.call ent31 (c_spec_SeatOf w359 v349 ((((hO348).lo hk360).rd)) v350 v351) rfl ?_)
              rintro e w365 ⟨rfl, hk366⟩
              refine ⟨_, rfl, ?_⟩
              have hz367 := hk366.size
              have hB368 := hB362.lo hk366
              refine SR.q' (r_mv (v := .tuple (List.toArray _)) rfl) <| SR.q' (r_ext (v := .int .i64 _) rfl rfl) <| SR.q' (r_ext (v := .bool _) rfl rfl) <| SR.q' (r_as (v := .int .i64 _) rfl) <| SR.q' (r_as (v := .bool _) rfl) <| SR.nil ?_
              refine W.seq ?_
              have hm369 := ((hm358).lo hk360).lo hk366
              refine W.regJS (fun f' w' => At f' [(2, .bool (decide ((freeF v308 v309 v310) = (freeF v308 v309 v310))))] ∧ Lo w365 w') ?_ ?_
              · refine SR.q' (r_mv (v := .bool _) rfl) <| SR.q' (r_mv (v := .bool _) rfl) <| SR.q' (r_eqb_s und4 rfl rfl) <| SR.q' (r_mv (v := .bool _) rfl) <| SR.g' rfl (r_mv (v := .slice _ _ _) rfl) <| SR.g' rfl (r_mv (v := .slice _ _ _) rfl) <| SR.gcall rfl ent32 (c_laws_rInts w365 (freeF v308 v309 v310) (((hm369).rd)) (freeF v308 v309 v310) ((((hm364).lo hk366).rd))) rfl ?_
                rintro e w370 ⟨rfl, hk371⟩
                refine ⟨_, rfl, ?_⟩
                have hz372 := hk371.size
                have hB373 := hB368.lo hk371
                refine SR.q' (r_pick true rfl (v := .bool _) rfl) <| SR.q' (r_mv (v := .bool _) rfl) <| SR.splitD (fun h374 => ?_) (fun h374 => ?_)
                · refine SR.g' rfl (r_mv (v := .int .i64 _) rfl) <| SR.g' rfl (r_mv (v := .int .i64 _) rfl) <| SR.g' rfl (r_eq_s rfl rfl) <| SR.q' (r_pick true rfl (v := .bool _) rfl) <| SR.q' (r_mv (v := .bool _) rfl) <| SR.g' rfl (r_mv (v := .bool _) rfl) <| SR.g' rfl (r_mv (v := .bool _) rfl) <| SR.g' rfl (r_eqb_s und4 rfl rfl) <| SR.q' (r_pick true rfl (v := .bool _) rfl) <| SR.q' (r_mv (v := .bool _) rfl) <| SR.g' rfl (r_mv (v := .slice _ _ _) rfl) <| SR.gcall rfl ent33 (c_impl_AreVisits w370 v153 (((((hm363).lo hk366).lo hk371).rd))) rfl ?_
                  rintro e w375 ⟨rfl, hk376⟩
                  refine ⟨_, rfl, ?_⟩
                  have hz377 := hk376.size
                  have hB378 := hB373.lo hk376
                  refine SR.g' rfl (r_mv (v := .slice _ _ _) rfl) <| SR.gcall rfl ent34 (c_spec_AreVisits w375 v153 ((((((hm363).lo hk366).lo hk371).lo hk376).rd))) rfl ?_
                  rintro e w379 ⟨rfl, hk380⟩
                  refine ⟨_, rfl, ?_⟩
                  have hz381 := hk380.size
                  have hB382 := hB378.lo hk380
                  refine SR.g' rfl (r_eqb_s und4 rfl rfl) <| SR.q' (r_pick true rfl (v := .bool _) rfl) <| SR.q' (r_as (v := .bool _) rfl) <| SR.nil ?_
                  exact ⟨_, rfl, ⟨⟨(eDT ((j1t h374).1 trivial)), trivial⟩, (((hk371).trans hk376).trans hk380)⟩⟩
                · refine SR.s' rfl <| SR.s' rfl <| SR.s' rfl <| SR.q' (r_pick false rfl (v := .bool false) rfl) <| SR.q' (r_mv (v := .bool _) rfl) <| SR.s' rfl <| SR.s' rfl <| SR.s' rfl <| SR.q' (r_pick false rfl (v := .bool false) rfl) <| SR.q' (r_mv (v := .bool _) rfl) <| SR.s' rfl <| SR.s' rfl <| SR.s' rfl <| SR.s' rfl <| SR.s' rfl <| SR.q' (r_pick false rfl (v := .bool false) rfl) <| SR.q' (r_as (v := .bool _) rfl) <| SR.nil ?_
                  exact ⟨_, rfl, ⟨⟨(eDF (j1f h374).2), trivial⟩, (hk371)⟩⟩
              rintro f383 w384 ⟨hat385, hk386⟩
              rw [← sets_of_at hat385]
              have hz387 := hk386.size
              have hB388 := hB368.lo hk386
              refine W.ret ?_
              refine ret1 rfl (v := .bool _) rfl ?_
              exact ⟨eR (eB (z_c_laws_FnVisits_389 C nC hbdC hleC h5 v12 v13 v14 v15 hq16 hq17 hq18 hq19 hq20 n9 hl23 hl24 hq25 n30 hl35 hl36 hq37 n41 hl46 hl47 hq48 h55 h59 n63 hl68 hl69 hq70 hq82 hq90 n95 hl100 hl101 hq102 h132 hq134 hq135 hq136 hq137 hq138 hq139 hq140 hq141 hq142 hq143 hq144 hq145 hq146 v153 v154 v155 hq156 hq157 n150 hl160 hl161 hq162 n167 hl172 hl173 hq174 n178 hl183 hl184 hq185 h192 h196 v308 v309 v310 hq311 hq312 n305 hl315 hl316 n322 hl327 hl328 hq329 n333 hl338 hl339 hq340 v349 v350 v351 hq352 hq353 n346 hl356 hl357)), hB388⟩
      · refine W.skip ?_
        refine W.seq ?_
        refine W.regS (SR.q' (r_mv (v := .slice _ _ _) rfl) <| SR.call ent27 (c_spec_DrawLeaveSeat w51 C (((hm49).lo hk52)) (by omega)) rfl ?_)
        rintro e w390 ⟨A392, n393, c394, v396, v397, v398, rfl, hO395, hq399, hq400, hk391⟩
        refine ⟨_, rfl, ?_⟩
        have hz401 := hk391.size
        have hB402 := hB54.lo hk391
        have hl403 := hO395.len
        have hl404 := hO395.rd.bound
        have hq405 : LeLaw v396 v397 v398 := le_law v396 v397 v398
        refine SR.q' (r_mv (v := .tuple (List.toArray _)) rfl) <| SR.q' (r_ext (v := .slice _ _ _) rfl rfl) <| SR.q' (r_ext (v := .int .i64 _) rfl rfl) <| SR.q' (r_ext (v := .int .i64 _) rfl rfl) <| SR.q' (r_as (v := .slice _ _ _) rfl) <| SR.q' (r_as (v := .int .i64 _) rfl) <| SR.q' (r_as (v := .int .i64 _) rfl) <| SR.nil ?_
        refine W.seq ?_
        have hm406 := ((hm49).lo hk52).lo hk391
        refine W.regS (SR.q' (r_mv (v := .slice _ _ _) rfl) <| SR.q' (r_mv (v := .int .i64 _) rfl) <| SR.q' (r_mv (v := .int .i64 _) rfl) <| SR.call ent17 (c_impl_LeaveSeat w390 v396 (((hO395).rd)) v397 v398) rfl ?_)
        rintro e w407 ⟨A409, n410, c411, rfl, hO412, hk408⟩
        refine ⟨_, rfl, ?_⟩
        have hz413 := hk408.size
        have hB414 := hB402.lo hk408
        have hl415 := hO412.len
        have hl416 := hO412.rd.bound
        have hq417 := lvs_len v396 v397 v398
        refine SR.q' (r_mv (v := .tuple (List.toArray _)) rfl) <| SR.q' (r_ext (v := .slice _ _ _) rfl rfl) <| SR.q' (r_ext (v := .bool _) rfl rfl) <| SR.q' (r_as (v := .slice _ _ _) rfl) <| SR.q' (r_as (v := .bool _) rfl) <| SR.nil ?_
        refine W.seq ?_
        refine W.seq ?_
        refine W.regS (SR.q' (r_mv (v := .slice _ _ _) rfl) <| SR.q' (r_mv (v := .int .i64 _) rfl) <| SR.q' (r_mv (v := .int .i64 _) rfl) <| SR.call ent16 (c_spec_LeaveSeat w407 v396 ((((hO395).lo hk408).rd)) v397 v398) rfl ?_)
        rintro e w418 ⟨A420, n421, c422, rfl, hO423, hk419⟩
        refine ⟨_, rfl, ?_⟩
        have hz424 := hk419.size
        have hB425 := hB414.lo hk419
        have hl426 := hO423.len
        have hl427 := hO423.rd.bound
        have hq428 := lvs_len v396 v397 v398
        refine SR.q' (r_mv (v := .tuple (List.toArray _)) rfl) <| SR.q' (r_ext (v := .slice _ _ _) rfl rfl) <| SR.q' (r_ext (v := .bool _) rfl rfl) <| SR.q' (r_as (v := .slice _ _ _) rfl) <| SR.q' (r_as (v := .bool _) rfl) <| SR.nil ?_
        refine W.seq ?_
        have hm429 := ((hm406).lo hk408).lo hk419
        have hm430 := ((hO395).lo hk408).lo hk419
        refine W.regS (SR.q' (r_mv (v := .bool _) rfl) <| SR.q' (r_mv (v := .bool _) rfl) <| SR.q' (r_neb_s und4 rfl rfl) <| SR.q' (r_mv (v := .bool _) rfl) <| SR.g' rfl (r_mv (v := .slice _ _ _) rfl) <| SR.g' rfl (r_mv (v := .slice _ _ _) rfl) <| SR.gcall rfl ent22 (c_laws_rVisits w418 ((lvs v396 v397 v398).getD []) ((((hO412).lo hk419).rd)) ((lvs v396 v397 v398).getD []) (((hO423).rd))) rfl ?_)
        rintro e w431 ⟨rfl, hk432⟩
        refine ⟨_, rfl, ?_⟩
        have hz433 := hk432.size
        have hB434 := hB425.lo hk432
        refine SR.g' rfl (r_not rfl) <| SR.q' (r_pick false rfl (v := .bool _) rfl) <| SR.nil ?_
        refine W.cond_n rfl (fun h435 => ?_) (fun h435 => ?_)
        · refine W.seq ?_
          have hm436 := ((hO412).lo hk419).lo hk432
          refine W.regS (SR.q' (r_as (v := .bool false) rfl) <| SR.nil ?_)
          refine W.ret ?_
          refine ret1 rfl (v := .bool _) rfl ?_
          exact ⟨eR (eB (z_c_laws_FnVisits_437 C nC hbdC hleC h5 v12 v13 v14 v15 hq16 hq17 hq18 hq19 hq20 n9 hl23 hl24 hq25 n30 hl35 hl36 hq37 n41 hl46 hl47 hq48 h55 h59 v396 v397 v398 hq399 hq400 n393 hl403 hl404 hq405 n410 hl415 hl416 hq417 n421 hl426 hl427 hq428 h435)), hB434⟩
        · refine W.skip ?_
          refine W.seq ?_
          refine W.seq ?_
          have hm438 := ((hO412).lo hk419).lo hk432
          refine W.regS (SR.q' (r_mv (v := .bool _) rfl) <| SR.nil ?_)
          refine W.cond_b rfl (fun h439 => ?_) (fun h439 => ?_)
          · refine W.seq ?_
            refine W.regS (SR.q' (r_mv (v := .slice _ _ _) rfl) <| SR.q' (r_mv (v := .int .i64 _) rfl) <| SR.q' (r_mv (v := .int .i64 _) rfl) <| SR.call ent24 (c_impl_SeatOf w431 ((lvs v396 v397 v398).getD []) (((hm438).rd)) v397 v398) rfl ?_)
            rintro e w440 ⟨rfl, hk441⟩
            refine ⟨_, rfl, ?_⟩
            have hz442 := hk441.size
            have hB443 := hB434.lo hk441
            refine SR.q' (r_mv (v := .tuple (List.toArray _)) rfl) <| SR.q' (r_ext (v := .int .i64 _) rfl rfl) <| SR.q' (r_ext (v := .bool _) rfl rfl) <| SR.q' (r_as (v := .int .i64 _) rfl) <| SR.q' (r_as (v := .bool _) rfl) <| SR.nil ?_
            refine W.seq ?_
            have hm444 := ((hm429).lo hk432).lo hk441
            have hm445 := ((hm430).lo hk432).lo hk441
            refine W.regJS (fun f' w' => At f' [(0, .slice AC nC cC), (2, .bool false), (23, .slice A392 n393 c394), (207, .bool (decide ((¬ (VsOK ((lvs v396 v397 v398).getD []) ∧ (1 ≤ v397 ∧ v397 ≤ 999) ∧ (480 ≤ v398 ∧ v398 ≤ 1200))) ∨ (¬ ((seatO ((lvs v396 v397 v398).getD []) v397 v398) = 0)))))] ∧ Lo w440 w') ?_ ?_
            · refine SR.q' (r_mv (v := .bool _) rfl) <| SR.q' (r_not rfl) <| SR.q' (r_mv (v := .bool _) rfl) <| SR.splitN (fun h446 => ?_) (fun h446 => ?_)
              · refine SR.s' rfl <| SR.s' rfl <| SR.q' (r_pick true rfl (v := .bool true) rfl) <| SR.nil ?_
                exact ⟨_, rfl, ⟨⟨rfl, rfl, rfl, (eDT ((jmf h446).1 trivial)), trivial⟩, (Lo.refl _)⟩⟩
              · refine SR.g' rfl (r_mv (v := .int .i64 _) rfl) <| SR.g' rfl (r_ne rfl rfl) <| SR.q' (r_pick false rfl (v := .bool _) rfl) <| SR.nil ?_
                exact ⟨_, rfl, ⟨⟨rfl, rfl, rfl, (eND (jmt h446)), trivial⟩, (Lo.refl _)⟩⟩
            rintro f447 w448 ⟨hat449, hk450⟩
            rw [← sets_of_at hat449]
            have hz451 := hk450.size
            have hB452 := hB443.lo hk450
            refine W.cond_d rfl (fun h453 => ?_) (fun h453 => ?_)
            · refine W.seq ?_
              refine W.regS (SR.q' (r_as (v := .bool false) rfl) <| SR.nil ?_)
              refine W.ret ?_
              refine ret1 rfl (v := .bool _) rfl ?_
              exact ⟨eR (eB (z_c_laws_FnVisits_454 C nC hbdC hleC h5 v12 v13 v14 v15 hq16 hq17 hq18 hq19 hq20 n9 hl23 hl24 hq25 n30 hl35 hl36 hq37 n41 hl46 hl47 hq48 h55 h59 v396 v397 v398 hq399 hq400 n393 hl403 hl404 hq405 n410 hl415 hl416 hq417 n421 hl426 hl427 hq428 h435 h439 h453)), hB452⟩
            · have hq455 : VsOK ((lvs v396 v397 v398).getD []) ∧ (1 ≤ v397 ∧ v397 ≤ 999) ∧ (480 ≤ v398 ∧ v398 ≤ 1200) := (Classical.not_not.1 (not_or.1 h453).1)
              have hq456 : (seatO ((lvs v396 v397 v398).getD []) v397 v398) = 0 := (Classical.not_not.1 (not_or.1 h453).2)
              refine W.skip ?_
              refine W.seq ?_
              refine W.regS (SR.q' (r_mv (v := .slice _ _ _) rfl) <| SR.call ent28 (c_spec_DrawFreeSeats w448 C (((hm444).lo hk450)) (by omega)) rfl ?_)
              rintro e w457 ⟨A459, n460, c461, v463, v464, v465, rfl, hO462, hq466, hq467, hk458⟩
              refine ⟨_, rfl, ?_⟩
              have hz468 := hk458.size
              have hB469 := hB452.lo hk458
              have hl470 := hO462.len
              have hl471 := hO462.rd.bound
              refine SR.q' (r_mv (v := .tuple (List.toArray _)) rfl) <| SR.q' (r_ext (v := .slice _ _ _) rfl rfl) <| SR.q' (r_ext (v := .int .i64 _) rfl rfl) <| SR.q' (r_ext (v := .int .i64 _) rfl rfl) <| SR.q' (r_as (v := .slice _ _ _) rfl) <| SR.q' (r_as (v := .int .i64 _) rfl) <| SR.q' (r_as (v := .int .i64 _) rfl) <| SR.nil ?_
              refine W.seq ?_
              have hm472 := ((hm444).lo hk450).lo hk458
              have hm473 := ((hm445).lo hk450).lo hk458
              refine W.regS (SR.q' (r_mv (v := .slice _ _ _) rfl) <| SR.q' (r_mv (v := .int .i64 _) rfl) <| SR.q' (r_mv (v := .int .i64 _) rfl) <| SR.call ent23 (c_impl_FreeSeats w457 v463 (((hO462).rd)) v464 v465) rfl ?_)
              rintro e w474 ⟨A476, n477, c478, rfl, hO479, hk475⟩
              refine ⟨_, rfl, ?_⟩
              have hz480 := hk475.size
              have hB481 := hB469.lo hk475
              have hl482 := hO479.len
              have hl483 := hO479.rd.bound
              have hq484 := freeF_len v463 v464 v465
              refine SR.q' (r_mv (v := .tuple (List.toArray _)) rfl) <| SR.q' (r_ext (v := .slice _ _ _) rfl rfl) <| SR.q' (r_ext (v := .bool _) rfl rfl) <| SR.q' (r_as (v := .slice _ _ _) rfl) <| SR.q' (r_as (v := .bool _) rfl) <| SR.nil ?_
              refine W.seq ?_
              refine W.regS (SR.q' (r_mv (v := .slice _ _ _) rfl) <| SR.q' (r_mv (v := .int .i64 _) rfl) <| SR.q' (r_mv (v := .int .i64 _) rfl) <| SR.call ent29 (c_spec_FreeSeats w474 v463 ((((hO462).lo hk475).rd)) v464 v465) rfl ?_)
              rintro e w485 ⟨A487, n488, c489, rfl, hO490, hk486⟩
              refine ⟨_, rfl, ?_⟩
              have hz491 := hk486.size
              have hB492 := hB481.lo hk486
              have hl493 := hO490.len
              have hl494 := hO490.rd.bound
              have hq495 := freeF_len v463 v464 v465
              refine SR.q' (r_mv (v := .tuple (List.toArray _)) rfl) <| SR.q' (r_ext (v := .slice _ _ _) rfl rfl) <| SR.q' (r_ext (v := .bool _) rfl rfl) <| SR.q' (r_as (v := .slice _ _ _) rfl) <| SR.q' (r_as (v := .bool _) rfl) <| SR.nil ?_
              refine W.seq ?_
              have hm496 := ((hm472).lo hk475).lo hk486
              have hm497 := ((hm473).lo hk475).lo hk486
              refine W.regS (SR.q' (r_mv (v := .slice _ _ _) rfl) <| SR.call ent30 (c_spec_DrawSeatOf w485 C ((hm496)) (by omega)) rfl ?_)
              rintro e w498 ⟨A500, n501, c502, v504, v505, v506, rfl, hO503, hq507, hq508, hk499⟩
              refine ⟨_, rfl, ?_⟩
              have hz509 := hk499.size
              have hB510 := hB492.lo hk499
              have hl511 := hO503.len
              have hl512 := hO503.rd.bound
              refine SR.q' (r_mv (v := .tuple (List.toArray _)) rfl) <| SR.q' (r_ext (v := .slice _ _ _) rfl rfl) <| SR.q' (r_ext (v := .int .i64 _) rfl rfl) <| SR.q' (r_ext (v := .int .i64 _) rfl rfl) <| SR.q' (r_as (v := .slice _ _ _) rfl) <| SR.q' (r_as (v := .int .i64 _) rfl) <| SR.q' (r_as (v := .int .i64 _) rfl) <| SR.nil ?_
              refine W.seq ?_
              have hm513 := ((hO479).lo hk486).lo hk499
              refine W.regS (SR.q' (r_mv (v := .slice _ _ _) rfl) <| SR.q' (r_mv (v := .int .i64 _) rfl) <| SR.q' (r_mv (v := .int .i64 _) rfl) <| SR.call ent24 (c_impl_SeatOf w498 v504 (((hO503).rd)) v505 v506) rfl ?_)
              rintro e w514 ⟨rfl, hk515⟩
              refine ⟨_, rfl, ?_⟩
              have hz516 := hk515.size
              have hB517 := hB510.lo hk515
              refine SR.q' (r_mv (v := .tuple (List.toArray _)) rfl) <| SR.q' (r_ext (v := .int .i64 _) rfl rfl) <| SR.q' (r_ext (v := .bool _) rfl rfl) <| SR.q' (r_as (v := .int .i64 _) rfl) <| SR.q' (r_as (v := .bool _) rfl) <| SR.nil ?_
              refine W.seq ?_
              have hm518 := ((hm497).lo hk499).lo hk515
              have hm519 := ((hO490).lo hk499).lo hk515
              refine W.regS (SR.q' (r_mv (v := .slice _ _ _) rfl) <| SR.q' (r_mv (v := .int .i64 _) rfl) <| SR.q' (r_mv (v := .int .i64 _) rfl) <| SR.call ent31 (c_spec_SeatOf w514 v504 ((((hO503).lo hk515).rd)) v505 v506) rfl ?_)
              rintro e w520 ⟨rfl, hk521⟩
              refine ⟨_, rfl, ?_⟩
              have hz522 := hk521.size
              have hB523 := hB517.lo hk521
              refine SR.q' (r_mv (v := .tuple (List.toArray _)) rfl) <| SR.q' (r_ext (v := .int .i64 _) rfl rfl) <| SR.q' (r_ext (v := .bool _) rfl rfl) <| SR.q' (r_as (v := .int .i64 _) rfl) <| SR.q' (r_as (v := .bool _) rfl) <| SR.nil ?_
              refine W.seq ?_
              have hm524 := ((hm513).lo hk515).lo hk521
              refine W.regJS (fun f' w' => At f' [(2, .bool (decide ((freeF v463 v464 v465) = (freeF v463 v464 v465))))] ∧ Lo w520 w') ?_ ?_
              · refine SR.q' (r_mv (v := .bool _) rfl) <| SR.q' (r_mv (v := .bool _) rfl) <| SR.q' (r_eqb_s und4 rfl rfl) <| SR.q' (r_mv (v := .bool _) rfl) <| SR.g' rfl (r_mv (v := .slice _ _ _) rfl) <| SR.g' rfl (r_mv (v := .slice _ _ _) rfl) <| SR.gcall rfl ent32 (c_laws_rInts w520 (freeF v463 v464 v465) (((hm524).rd)) (freeF v463 v464 v465) ((((hm519).lo hk521).rd))) rfl ?_
                rintro e w525 ⟨rfl, hk526⟩
                refine ⟨_, rfl, ?_⟩
                have hz527 := hk526.size
                have hB528 := hB523.lo hk526
                refine SR.q' (r_pick true rfl (v := .bool _) rfl) <| SR.q' (r_mv (v := .bool _) rfl) <| SR.splitD (fun h529 => ?_) (fun h529 => ?_)
                · refine SR.g' rfl (r_mv (v := .int .i64 _) rfl) <| SR.g' rfl (r_mv (v := .int .i64 _) rfl) <| SR.g' rfl (r_eq_s rfl rfl) <| SR.q' (r_pick true rfl (v := .bool _) rfl) <| SR.q' (r_mv (v := .bool _) rfl) <| SR.g' rfl (r_mv (v := .bool _) rfl) <| SR.g' rfl (r_mv (v := .bool _) rfl) <| SR.g' rfl (r_eqb_s und4 rfl rfl) <| SR.q' (r_pick true rfl (v := .bool _) rfl) <| SR.q' (r_mv (v := .bool _) rfl) <| SR.g' rfl (r_mv (v := .slice _ _ _) rfl) <| SR.gcall rfl ent33 (c_impl_AreVisits w525 v396 (((((hm518).lo hk521).lo hk526).rd))) rfl ?_
                  rintro e w530 ⟨rfl, hk531⟩
                  refine ⟨_, rfl, ?_⟩
                  have hz532 := hk531.size
                  have hB533 := hB528.lo hk531
                  refine SR.g' rfl (r_mv (v := .slice _ _ _) rfl) <| SR.gcall rfl ent34 (c_spec_AreVisits w530 v396 ((((((hm518).lo hk521).lo hk526).lo hk531).rd))) rfl ?_
                  rintro e w534 ⟨rfl, hk535⟩
                  refine ⟨_, rfl, ?_⟩
                  have hz536 := hk535.size
                  have hB537 := hB533.lo hk535
                  refine SR.g' rfl (r_eqb_s und4 rfl rfl) <| SR.q' (r_pick true rfl (v := .bool _) rfl) <| SR.q' (r_as (v := .bool _) rfl) <| SR.nil ?_
                  exact ⟨_, rfl, ⟨⟨(eDT ((j1t h529).1 trivial)), trivial⟩, (((hk526).trans hk531).trans hk535)⟩⟩
                · refine SR.s' rfl <| SR.s' rfl <| SR.s' rfl <| SR.q' (r_pick false rfl (v := .bool false) rfl) <| SR.q' (r_mv (v := .bool _) rfl) <| SR.s' rfl <| SR.s' rfl <| SR.s' rfl <| SR.q' (r_pick false rfl (v := .bool false) rfl) <| SR.q' (r_mv (v := .bool _) rfl) <| SR.s' rfl <| SR.s' rfl <| SR.s' rfl <| SR.s' rfl <| SR.s' rfl <| SR.q' (r_pick false rfl (v := .bool false) rfl) <| SR.q' (r_as (v := .bool _) rfl) <| SR.nil ?_
                  exact ⟨_, rfl, ⟨⟨(eDF (j1f h529).2), trivial⟩, (hk526)⟩⟩
              rintro f538 w539 ⟨hat540, hk541⟩
              rw [← sets_of_at hat540]
              have hz542 := hk541.size
              have hB543 := hB523.lo hk541
              refine W.ret ?_
              refine ret1 rfl (v := .bool _) rfl ?_
              exact ⟨eR (eB (z_c_laws_FnVisits_544 C nC hbdC hleC h5 v12 v13 v14 v15 hq16 hq17 hq18 hq19 hq20 n9 hl23 hl24 hq25 n30 hl35 hl36 hq37 n41 hl46 hl47 hq48 h55 h59 v396 v397 v398 hq399 hq400 n393 hl403 hl404 hq405 n410 hl415 hl416 hq417 n421 hl426 hl427 hq428 h435 h439 h453 hq455 hq456 v463 v464 v465 hq466 hq467 n460 hl470 hl471 n477 hl482 hl483 hq484 n488 hl493 hl494 hq495 v504 v505 v506 hq507 hq508 n501 hl511 hl512)), hB543⟩
          · refine W.skip ?_
            refine W.seq ?_
            refine W.regS (SR.q' (r_mv (v := .slice _ _ _) rfl) <| SR.call ent28 (c_spec_DrawFreeSeats w431 C (((hm429).lo hk432)) (by omega)) rfl ?_)
            rintro e w545 ⟨A547, n548, c549, v551, v552, v553, rfl, hO550, hq554, hq555, hk546⟩
            refine ⟨_, rfl, ?_⟩
            have hz556 := hk546.size
            have hB557 := hB434.lo hk546
            have hl558 := hO550.len
            have hl559 := hO550.rd.bound
            refine SR.q' (r_mv (v := .tuple (List.toArray _)) rfl) <| SR.q' (r_ext (v := .slice _ _ _) rfl rfl) <| SR.q' (r_ext (v := .int .i64 _) rfl rfl) <| SR.q' (r_ext (v := .int .i64 _) rfl rfl) <| SR.q' (r_as (v := .slice _ _ _) rfl) <| SR.q' (r_as (v := .int .i64 _) rfl) <| SR.q' (r_as (v := .int .i64 _) rfl) <| SR.nil ?_
            refine W.seq ?_
            have hm560 := ((hm429).lo hk432).lo hk546
            have hm561 := ((hm430).lo hk432).lo hk546
            refine W.regS (SR.q' (r_mv (v := .slice _ _ _) rfl) <| SR.q' (r_mv (v := .int .i64 _) rfl) <| SR.q' (r_mv (v := .int .i64 _) rfl) <| SR.call ent23 (c_impl_FreeSeats w545 v551 (((hO550).rd)) v552 v553) rfl ?_)
            rintro e w562 ⟨A564, n565, c566, rfl, hO567, hk563⟩
            refine ⟨_, rfl, ?_⟩
            have hz568 := hk563.size
            have hB569 := hB557.lo hk563
            have hl570 := hO567.len
            have hl571 := hO567.rd.bound
            have hq572 := freeF_len v551 v552 v553
            refine SR.q' (r_mv (v := .tuple (List.toArray _)) rfl) <| SR.q' (r_ext (v := .slice _ _ _) rfl rfl) <| SR.q' (r_ext (v := .bool _) rfl rfl) <| SR.q' (r_as (v := .slice _ _ _) rfl) <| SR.q' (r_as (v := .bool _) rfl) <| SR.nil ?_
            refine W.seq ?_
            refine W.regS (SR.q' (r_mv (v := .slice _ _ _) rfl) <| SR.q' (r_mv (v := .int .i64 _) rfl) <| SR.q' (r_mv (v := .int .i64 _) rfl) <| SR.call ent29 (c_spec_FreeSeats w562 v551 ((((hO550).lo hk563).rd)) v552 v553) rfl ?_)
            rintro e w573 ⟨A575, n576, c577, rfl, hO578, hk574⟩
            refine ⟨_, rfl, ?_⟩
            have hz579 := hk574.size
            have hB580 := hB569.lo hk574
            have hl581 := hO578.len
            have hl582 := hO578.rd.bound
            have hq583 := freeF_len v551 v552 v553
            refine SR.q' (r_mv (v := .tuple (List.toArray _)) rfl) <| SR.q' (r_ext (v := .slice _ _ _) rfl rfl) <| SR.q' (r_ext (v := .bool _) rfl rfl) <| SR.q' (r_as (v := .slice _ _ _) rfl) <| SR.q' (r_as (v := .bool _) rfl) <| SR.nil ?_
            refine W.seq ?_
            have hm584 := ((hm560).lo hk563).lo hk574
            have hm585 := ((hm561).lo hk563).lo hk574
            refine W.regS (SR.q' (r_mv (v := .slice _ _ _) rfl) <| SR.call ent30 (c_spec_DrawSeatOf w573 C ((hm584)) (by omega)) rfl ?_)
            rintro e w586 ⟨A588, n589, c590, v592, v593, v594, rfl, hO591, hq595, hq596, hk587⟩
            refine ⟨_, rfl, ?_⟩
            have hz597 := hk587.size
            have hB598 := hB580.lo hk587
            have hl599 := hO591.len
            have hl600 := hO591.rd.bound
            refine SR.q' (r_mv (v := .tuple (List.toArray _)) rfl) <| SR.q' (r_ext (v := .slice _ _ _) rfl rfl) <| SR.q' (r_ext (v := .int .i64 _) rfl rfl) <| SR.q' (r_ext (v := .int .i64 _) rfl rfl) <| SR.q' (r_as (v := .slice _ _ _) rfl) <| SR.q' (r_as (v := .int .i64 _) rfl) <| SR.q' (r_as (v := .int .i64 _) rfl) <| SR.nil ?_
            refine W.seq ?_
            have hm601 := ((hO567).lo hk574).lo hk587
            refine W.regS (SR.q' (r_mv (v := .slice _ _ _) rfl) <| SR.q' (r_mv (v := .int .i64 _) rfl) <| SR.q' (r_mv (v := .int .i64 _) rfl) <| SR.call ent24 (c_impl_SeatOf w586 v592 (((hO591).rd)) v593 v594) rfl ?_)
            rintro e w602 ⟨rfl, hk603⟩
            refine ⟨_, rfl, ?_⟩
            have hz604 := hk603.size
            have hB605 := hB598.lo hk603
            refine SR.q' (r_mv (v := .tuple (List.toArray _)) rfl) <| SR.q' (r_ext (v := .int .i64 _) rfl rfl) <| SR.q' (r_ext (v := .bool _) rfl rfl) <| SR.q' (r_as (v := .int .i64 _) rfl) <| SR.q' (r_as (v := .bool _) rfl) <| SR.nil ?_
            refine W.seq ?_
            have hm606 := ((hm585).lo hk587).lo hk603
            have hm607 := ((hO578).lo hk587).lo hk603
            refine W.regS (SR.q' (r_mv (v := .slice _ _ _) rfl) <| SR.q' (r_mv (v := .int .i64 _) rfl) <| SR.q' (r_mv (v := .int .i64 _) rfl) <| SR.call ent31 (c_spec_SeatOf w602 v592 ((((hO591).lo hk603).rd)) v593 v594) rfl ?_)
            rintro e w608 ⟨rfl, hk609⟩
            refine ⟨_, rfl, ?_⟩
            have hz610 := hk609.size
            have hB611 := hB605.lo hk609
            refine SR.q' (r_mv (v := .tuple (List.toArray _)) rfl) <| SR.q' (r_ext (v := .int .i64 _) rfl rfl) <| SR.q' (r_ext (v := .bool _) rfl rfl) <| SR.q' (r_as (v := .int .i64 _) rfl) <| SR.q' (r_as (v := .bool _) rfl) <| SR.nil ?_
            refine W.seq ?_
            have hm612 := ((hm601).lo hk603).lo hk609
            refine W.regJS (fun f' w' => At f' [(2, .bool (decide ((freeF v551 v552 v553) = (freeF v551 v552 v553))))] ∧ Lo w608 w') ?_ ?_
            · refine SR.q' (r_mv (v := .bool _) rfl) <| SR.q' (r_mv (v := .bool _) rfl) <| SR.q' (r_eqb_s und4 rfl rfl) <| SR.q' (r_mv (v := .bool _) rfl) <| SR.g' rfl (r_mv (v := .slice _ _ _) rfl) <| SR.g' rfl (r_mv (v := .slice _ _ _) rfl) <| SR.gcall rfl ent32 (c_laws_rInts w608 (freeF v551 v552 v553) (((hm612).rd)) (freeF v551 v552 v553) ((((hm607).lo hk609).rd))) rfl ?_
              rintro e w613 ⟨rfl, hk614⟩
              refine ⟨_, rfl, ?_⟩
              have hz615 := hk614.size
              have hB616 := hB611.lo hk614
              refine SR.q' (r_pick true rfl (v := .bool _) rfl) <| SR.q' (r_mv (v := .bool _) rfl) <| SR.splitD (fun h617 => ?_) (fun h617 => ?_)
              · refine SR.g' rfl (r_mv (v := .int .i64 _) rfl) <| SR.g' rfl (r_mv (v := .int .i64 _) rfl) <| SR.g' rfl (r_eq_s rfl rfl) <| SR.q' (r_pick true rfl (v := .bool _) rfl) <| SR.q' (r_mv (v := .bool _) rfl) <| SR.g' rfl (r_mv (v := .bool _) rfl) <| SR.g' rfl (r_mv (v := .bool _) rfl) <| SR.g' rfl (r_eqb_s und4 rfl rfl) <| SR.q' (r_pick true rfl (v := .bool _) rfl) <| SR.q' (r_mv (v := .bool _) rfl) <| SR.g' rfl (r_mv (v := .slice _ _ _) rfl) <| SR.gcall rfl ent33 (c_impl_AreVisits w613 v396 (((((hm606).lo hk609).lo hk614).rd))) rfl ?_
                rintro e w618 ⟨rfl, hk619⟩
                refine ⟨_, rfl, ?_⟩
                have hz620 := hk619.size
                have hB621 := hB616.lo hk619
                refine SR.g' rfl (r_mv (v := .slice _ _ _) rfl) <| SR.gcall rfl ent34 (c_spec_AreVisits w618 v396 ((((((hm606).lo hk609).lo hk614).lo hk619).rd))) rfl ?_
                rintro e w622 ⟨rfl, hk623⟩
                refine ⟨_, rfl, ?_⟩
                have hz624 := hk623.size
                have hB625 := hB621.lo hk623
                refine SR.g' rfl (r_eqb_s und4 rfl rfl) <| SR.q' (r_pick true rfl (v := .bool _) rfl) <| SR.q' (r_as (v := .bool _) rfl) <| SR.nil ?_
                exact ⟨_, rfl, ⟨⟨(eDT ((j1t h617).1 trivial)), trivial⟩, (((hk614).trans hk619).trans hk623)⟩⟩
              · refine SR.s' rfl <| SR.s' rfl <| SR.s' rfl <| SR.q' (r_pick false rfl (v := .bool false) rfl) <| SR.q' (r_mv (v := .bool _) rfl) <| SR.s' rfl <| SR.s' rfl <| SR.s' rfl <| SR.q' (r_pick false rfl (v := .bool false) rfl) <| SR.q' (r_mv (v := .bool _) rfl) <| SR.s' rfl <| SR.s' rfl <| SR.s' rfl <| SR.s' rfl <| SR.s' rfl <| SR.q' (r_pick false rfl (v := .bool false) rfl) <| SR.q' (r_as (v := .bool _) rfl) <| SR.nil ?_
                exact ⟨_, rfl, ⟨⟨(eDF (j1f h617).2), trivial⟩, (hk614)⟩⟩
            rintro f626 w627 ⟨hat628, hk629⟩
            rw [← sets_of_at hat628]
            have hz630 := hk629.size
            have hB631 := hB611.lo hk629
            refine W.ret ?_
            refine ret1 rfl (v := .bool _) rfl ?_
            exact ⟨eR (eB (z_c_laws_FnVisits_632 C nC hbdC hleC h5 v12 v13 v14 v15 hq16 hq17 hq18 hq19 hq20 n9 hl23 hl24 hq25 n30 hl35 hl36 hq37 n41 hl46 hl47 hq48 h55 h59 v396 v397 v398 hq399 hq400 n393 hl403 hl404 hq405 n410 hl415 hl416 hq417 n421 hl426 hl427 hq428 h435 h439 v551 v552 v553 hq554 hq555 n548 hl558 hl559 n565 hl570 hl571 hq572 n576 hl581 hl582 hq583 v592 v593 v594 hq595 hq596 n589 hl599 hl600)), hB631⟩
end Go.Proofs.Ythgbcadgnihdiaa
