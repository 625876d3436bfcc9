/- Walks, printed by a program of this claim's author. -/
import Derived.Test.YtgobbcilgcbkaaaChecked
import Derived.Test.YtgobbcilgcbkaaaUa
import Derived.Test.YtgobbcilgcbkaaaFu
import Derived.Test.YtgobbcilgcbkaaaFs
import Derived.Test.YtgobbcilgcbkaaaFq
import Derived.Test.YtgobbcilgcbkaaaFo
import Derived.Test.YtgobbcilgcbkaaaDa
import Derived.Test.YtgobbcilgcbkaaaG32x
namespace Go.Proofs.Ytgobbcilgcbkaaa
open Go Go.RowKit Fw
set_option maxRecDepth 10000
set_option maxHeartbeats 2000000
set_option linter.unusedVariables false
theorem ent10 : Ent Try.prog 10 := ent_of Try.func10 (by decide +kernel) rfl
theorem ent11 : Ent Try.prog 11 := ent_of Try.func11 (by decide +kernel) rfl
theorem ent12 : Ent Try.prog 12 := ent_of Try.func12 (by decide +kernel) rfl
theorem ent13 : Ent Try.prog 13 := ent_of Try.func13 (by decide +kernel) rfl
theorem ent14 : Ent Try.prog 14 := ent_of Try.func14 (by decide +kernel) rfl
theorem ent15 : Ent Try.prog 15 := ent_of Try.func15 (by decide +kernel) rfl
theorem ent16 : Ent Try.prog 16 := ent_of Try.func16 (by decide +kernel) rfl
theorem ent17 : Ent Try.prog 17 := ent_of Try.func17 (by decide +kernel) rfl
theorem ent18 : Ent Try.prog 18 := ent_of Try.func18 (by decide +kernel) rfl
theorem ent19 : Ent Try.prog 19 := ent_of Try.func19 (by decide +kernel) rfl
theorem ent4 : Ent Try.prog 4 := ent_of Try.func4 (by decide +kernel) rfl
theorem ent5 : Ent Try.prog 5 := ent_of Try.func5 (by decide +kernel) rfl
theorem ent6 : Ent Try.prog 6 := ent_of Try.func6 (by decide +kernel) rfl
theorem ent8 : Ent Try.prog 8 := ent_of Try.func8 (by decide +kernel) rfl
theorem und4 : Try.prog.underlying 4 = some (.bool) := by kernel_rfl

theorem z_c_laws_FnLibraries_177 (L : List UInt8) (nL : Nat) (hbdL : (nL : Int) ≤ 9223372036854775807) (hleL : nL = L.length) (h5 : ¬ (65536 < (L.length : Int))) (v17 : Library) (v18 : LibraryStep) (hq19 : v17.Maps.length ≤ 9 ∧ v17.Away.length ≤ 9) (hq20 : MapB v17.Maps) (hq21 : v18.Value ≤ 9223372036854775807) (n9 : Nat) (hl24 : n9 = (v17.Maps).length) (hl25 : (n9 : Int) ≤ 9223372036854775807) (n13 : Nat) (hl26 : n13 = (v17.Away).length) (hl27 : (n13 : Int) ≤ 9223372036854775807) (hq28 : LiLaw v17 v18) (n67 : Nat) (hl77 : n67 = (((impl_StepLibrary v17 v18).1).Maps).length) (hl78 : (n67 : Int) ≤ 9223372036854775807) (hq79 : (((impl_StepLibrary v17 v18).1).Maps).length ≤ 8) (n71 : Nat) (hl80 : n71 = (((impl_StepLibrary v17 v18).1).Away).length) (hl81 : (n71 : Int) ≤ 9223372036854775807) (hq82 : (((impl_StepLibrary v17 v18).1).Away).length ≤ 8) (n111 : Nat) (hl121 : n111 = (((spec_StepLibrary v17 v18).1).Maps).length) (hl122 : (n111 : Int) ≤ 9223372036854775807) (hq123 : (((spec_StepLibrary v17 v18).1).Maps).length ≤ 8) (n115 : Nat) (hl124 : n115 = (((spec_StepLibrary v17 v18).1).Away).length) (hl125 : (n115 : Int) ≤ 9223372036854775807) (hq126 : (((spec_StepLibrary v17 v18).1).Away).length ≤ 8) (h176 : ((!(((impl_StepLibrary v17 v18).2) == ((spec_StepLibrary v17 v18).2))) = true) ∨ ((¬ (((impl_StepLibrary v17 v18).1) = ((spec_StepLibrary v17 v18).1))) ∨ ((((impl_StepLibrary v17 v18).2) = true) ∧ (¬ (LibOK ((impl_StepLibrary v17 v18).1)))))) : false = true := by
  exfalso; first | exact li_bad1 ‹LiLaw _ _› (by assumption) | exact li_bad2 ‹LiLaw _ _› (by assumption) (by assumption) (by assumption) | exact li_bad3 ‹LiLaw _ _› (by assumption) (by omega) (by assumption) | exact ‹¬ (runFL _ _).1 = (runFL _ _).1› rfl | exact runL_bad ‹(runFL _ _).2.2 = true› (by assumption) (by omega) (by assumption)
theorem z_c_laws_FnLibraries_206 (L : List UInt8) (nL : Nat) (hbdL : (nL : Int) ≤ 9223372036854775807) (hleL : nL = L.length) (h5 : ¬ (65536 < (L.length : Int))) (v17 : Library) (v18 : LibraryStep) (hq19 : v17.Maps.length ≤ 9 ∧ v17.Away.length ≤ 9) (hq20 : MapB v17.Maps) (hq21 : v18.Value ≤ 9223372036854775807) (n9 : Nat) (hl24 : n9 = (v17.Maps).length) (hl25 : (n9 : Int) ≤ 9223372036854775807) (n13 : Nat) (hl26 : n13 = (v17.Away).length) (hl27 : (n13 : Int) ≤ 9223372036854775807) (hq28 : LiLaw v17 v18) (n67 : Nat) (hl77 : n67 = (((impl_StepLibrary v17 v18).1).Maps).length) (hl78 : (n67 : Int) ≤ 9223372036854775807) (hq79 : (((impl_StepLibrary v17 v18).1).Maps).length ≤ 8) (n71 : Nat) (hl80 : n71 = (((impl_StepLibrary v17 v18).1).Away).length) (hl81 : (n71 : Int) ≤ 9223372036854775807) (hq82 : (((impl_StepLibrary v17 v18).1).Away).length ≤ 8) (n111 : Nat) (hl121 : n111 = (((spec_StepLibrary v17 v18).1).Maps).length) (hl122 : (n111 : Int) ≤ 9223372036854775807) (hq123 : (((spec_StepLibrary v17 v18).1).Maps).length ≤ 8) (n115 : Nat) (hl124 : n115 = (((spec_StepLibrary v17 v18).1).Away).length) (hl125 : (n115 : Int) ≤ 9223372036854775807) (hq126 : (((spec_StepLibrary v17 v18).1).Away).length ≤ 8) (h176 : ¬ (((!(((impl_StepLibrary v17 v18).2) == ((spec_StepLibrary v17 v18).2))) = true) ∨ ((¬ (((impl_StepLibrary v17 v18).1) = ((spec_StepLibrary v17 v18).1))) ∨ ((((impl_StepLibrary v17 v18).2) = true) ∧ (¬ (LibOK ((impl_StepLibrary v17 v18).1))))))) (hq178 : ¬ ((!(((impl_StepLibrary v17 v18).2) == ((spec_StepLibrary v17 v18).2))) = true)) (hq179 : ((impl_StepLibrary v17 v18).1) = ((spec_StepLibrary v17 v18).1)) (hq180 : ¬ ((((impl_StepLibrary v17 v18).2) = true) ∧ (¬ (LibOK ((impl_StepLibrary v17 v18).1))))) (h181 : ((impl_StepLibrary v17 v18).2) = true) (h205 : (¬ (LibOK ((impl_StepLibrary v17 v18).1))) ∨ ((¬ ((((impl_StepLibrary v17 v18).1).Bought) = (IntKind.i64.wrap ((IntKind.i64.wrap ((if LibOK ((impl_StepLibrary v17 v18).1) then sumC ((impl_StepLibrary v17 v18).1).Maps else 0) + (n71 : Int))) + (((impl_StepLibrary v17 v18).1).Dropped))))) ∨ ((¬ (v18.Kind = 1)) ∧ (¬ ((((impl_StepLibrary v17 v18).1).Bought) = v17.Bought))))) : false = true := by
  exfalso; first | exact li_bad1 ‹LiLaw _ _› (by assumption) | exact li_bad2 ‹LiLaw _ _› (by assumption) (by assumption) (by assumption) | exact li_bad3 ‹LiLaw _ _› (by assumption) (by omega) (by assumption) | exact ‹¬ (runFL _ _).1 = (runFL _ _).1› rfl | exact runL_bad ‹(runFL _ _).2.2 = true› (by assumption) (by omega) (by assumption)
theorem z_c_laws_FnLibraries_331 (L : List UInt8) (nL : Nat) (hbdL : (nL : Int) ≤ 9223372036854775807) (hleL : nL = L.length) (h5 : ¬ (65536 < (L.length : Int))) (v17 : Library) (v18 : LibraryStep) (hq19 : v17.Maps.length ≤ 9 ∧ v17.Away.length ≤ 9) (hq20 : MapB v17.Maps) (hq21 : v18.Value ≤ 9223372036854775807) (n9 : Nat) (hl24 : n9 = (v17.Maps).length) (hl25 : (n9 : Int) ≤ 9223372036854775807) (n13 : Nat) (hl26 : n13 = (v17.Away).length) (hl27 : (n13 : Int) ≤ 9223372036854775807) (hq28 : LiLaw v17 v18) (n67 : Nat) (hl77 : n67 = (((impl_StepLibrary v17 v18).1).Maps).length) (hl78 : (n67 : Int) ≤ 9223372036854775807) (hq79 : (((impl_StepLibrary v17 v18).1).Maps).length ≤ 8) (n71 : Nat) (hl80 : n71 = (((impl_StepLibrary v17 v18).1).Away).length) (hl81 : (n71 : Int) ≤ 9223372036854775807) (hq82 : (((impl_StepLibrary v17 v18).1).Away).length ≤ 8) (n111 : Nat) (hl121 : n111 = (((spec_StepLibrary v17 v18).1).Maps).length) (hl122 : (n111 : Int) ≤ 9223372036854775807) (hq123 : (((spec_StepLibrary v17 v18).1).Maps).length ≤ 8) (n115 : Nat) (hl124 : n115 = (((spec_StepLibrary v17 v18).1).Away).length) (hl125 : (n115 : Int) ≤ 9223372036854775807) (hq126 : (((spec_StepLibrary v17 v18).1).Away).length ≤ 8) (h176 : ¬ (((!(((impl_StepLibrary v17 v18).2) == ((spec_StepLibrary v17 v18).2))) = true) ∨ ((¬ (((impl_StepLibrary v17 v18).1) = ((spec_StepLibrary v17 v18).1))) ∨ ((((impl_StepLibrary v17 v18).2) = true) ∧ (¬ (LibOK ((impl_StepLibrary v17 v18).1))))))) (hq178 : ¬ ((!(((impl_StepLibrary v17 v18).2) == ((spec_StepLibrary v17 v18).2))) = true)) (hq179 : ((impl_StepLibrary v17 v18).1) = ((spec_StepLibrary v17 v18).1)) (hq180 : ¬ ((((impl_StepLibrary v17 v18).2) = true) ∧ (¬ (LibOK ((impl_StepLibrary v17 v18).1))))) (h231 : (((impl_StepLibrary v17 v18).2) = true) ∧ (v18.Kind = 2)) (hq232 : ((impl_StepLibrary v17 v18).2) = true) (hq233 : v18.Kind = 2) (n237 : Nat) (hl243 : n237 = ((if LibOK v17 then selL mayM LMap.Id v17.Maps else [])).length) (hl244 : (n237 : Int) ≤ 9223372036854775807) (hq245 : (if LibOK v17 then selL mayM LMap.Id v17.Maps else []).length ≤ v17.Maps.length) (n257 : Nat) (hl263 : n257 = ((if LibOK ((impl_StepLibrary v17 v18).1) ∧ (1 ≤ v18.Reader ∧ v18.Reader ≤ 999) then selL (atR v18.Reader) Away.Map ((impl_StepLibrary v17 v18).1).Away else [])).length) (hl264 : (n257 : Int) ≤ 9223372036854775807) (n268 : Nat) (hl274 : n268 = ((if LibOK ((impl_StepLibrary v17 v18).1) ∧ 0 ≤ idxF (hasId v18.Id) ((impl_StepLibrary v17 v18).1).Maps then selL (ofM v18.Id) Away.Reader ((impl_StepLibrary v17 v18).1).Away else [])).length) (hl275 : (n268 : Int) ≤ 9223372036854775807) (h330 : (¬ (LibOK v17)) ∨ ((¬ (v18.Id ∈ (if LibOK v17 then selL mayM LMap.Id v17.Maps else []))) ∨ ((¬ (LibOK ((impl_StepLibrary v17 v18).1) ∧ (1 ≤ v18.Reader ∧ v18.Reader ≤ 999))) ∨ ((¬ (v18.Id ∈ (if LibOK ((impl_StepLibrary v17 v18).1) ∧ (1 ≤ v18.Reader ∧ v18.Reader ≤ 999) then selL (atR v18.Reader) Away.Map ((impl_StepLibrary v17 v18).1).Away else []))) ∨ ((¬ (LibOK ((impl_StepLibrary v17 v18).1) ∧ 0 ≤ idxF (hasId v18.Id) ((impl_StepLibrary v17 v18).1).Maps)) ∨ ((¬ (v18.Reader ∈ (if LibOK ((impl_StepLibrary v17 v18).1) ∧ 0 ≤ idxF (hasId v18.Id) ((impl_StepLibrary v17 v18).1).Maps then selL (ofM v18.Id) Away.Reader ((impl_StepLibrary v17 v18).1).Away else []))) ∨ ((¬ (LibOK ((impl_StepLibrary v17 v18).1))) ∨ (¬ ((if LibOK v17 then sumT v17.Maps else 0) = (if LibOK ((impl_StepLibrary v17 v18).1) then sumT ((impl_StepLibrary v17 v18).1).Maps else 0)))))))))) : false = true := by
  exfalso; first | exact li_bad1 ‹LiLaw _ _› (by assumption) | exact li_bad2 ‹LiLaw _ _› (by assumption) (by assumption) (by assumption) | exact li_bad3 ‹LiLaw _ _› (by assumption) (by omega) (by assumption) | exact ‹¬ (runFL _ _).1 = (runFL _ _).1› rfl | exact runL_bad ‹(runFL _ _).2.2 = true› (by assumption) (by omega) (by assumption)
theorem z_c_laws_FnLibraries_518 (L : List UInt8) (nL : Nat) (hbdL : (nL : Int) ≤ 9223372036854775807) (hleL : nL = L.length) (h5 : ¬ (65536 < (L.length : Int))) (v17 : Library) (v18 : LibraryStep) (hq19 : v17.Maps.length ≤ 9 ∧ v17.Away.length ≤ 9) (hq20 : MapB v17.Maps) (hq21 : v18.Value ≤ 9223372036854775807) (n9 : Nat) (hl24 : n9 = (v17.Maps).length) (hl25 : (n9 : Int) ≤ 9223372036854775807) (n13 : Nat) (hl26 : n13 = (v17.Away).length) (hl27 : (n13 : Int) ≤ 9223372036854775807) (hq28 : LiLaw v17 v18) (n67 : Nat) (hl77 : n67 = (((impl_StepLibrary v17 v18).1).Maps).length) (hl78 : (n67 : Int) ≤ 9223372036854775807) (hq79 : (((impl_StepLibrary v17 v18).1).Maps).length ≤ 8) (n71 : Nat) (hl80 : n71 = (((impl_StepLibrary v17 v18).1).Away).length) (hl81 : (n71 : Int) ≤ 9223372036854775807) (hq82 : (((impl_StepLibrary v17 v18).1).Away).length ≤ 8) (n111 : Nat) (hl121 : n111 = (((spec_StepLibrary v17 v18).1).Maps).length) (hl122 : (n111 : Int) ≤ 9223372036854775807) (hq123 : (((spec_StepLibrary v17 v18).1).Maps).length ≤ 8) (n115 : Nat) (hl124 : n115 = (((spec_StepLibrary v17 v18).1).Away).length) (hl125 : (n115 : Int) ≤ 9223372036854775807) (hq126 : (((spec_StepLibrary v17 v18).1).Away).length ≤ 8) (h176 : ¬ (((!(((impl_StepLibrary v17 v18).2) == ((spec_StepLibrary v17 v18).2))) = true) ∨ ((¬ (((impl_StepLibrary v17 v18).1) = ((spec_StepLibrary v17 v18).1))) ∨ ((((impl_StepLibrary v17 v18).2) = true) ∧ (¬ (LibOK ((impl_StepLibrary v17 v18).1))))))) (hq178 : ¬ ((!(((impl_StepLibrary v17 v18).2) == ((spec_StepLibrary v17 v18).2))) = true)) (hq179 : ((impl_StepLibrary v17 v18).1) = ((spec_StepLibrary v17 v18).1)) (hq180 : ¬ ((((impl_StepLibrary v17 v18).2) = true) ∧ (¬ (LibOK ((impl_StepLibrary v17 v18).1))))) (v368 : Library) (v369 : List LibraryStep) (hq370 : v368.Maps.length ≤ 9 ∧ v368.Away.length ≤ 9) (hq371 : MapB v368.Maps) (hq372 : v369.length ≤ 60) (hq373 : StepsIn v369) (n354 : Nat) (hl376 : n354 = (v368.Maps).length) (hl377 : (n354 : Int) ≤ 9223372036854775807) (n358 : Nat) (hl378 : n358 = (v368.Away).length) (hl379 : (n358 : Int) ≤ 9223372036854775807) (n362 : Nat) (hl380 : n362 = (v369).length) (hl381 : (n362 : Int) ≤ 9223372036854775807) (n411 : Nat) (hl421 : n411 = (((runFL v368 v369).1).Maps).length) (hl422 : (n411 : Int) ≤ 9223372036854775807) (hq423 : (((runFL v368 v369).1).Maps).length ≤ 8) (n415 : Nat) (hl424 : n415 = (((runFL v368 v369).1).Away).length) (hl425 : (n415 : Int) ≤ 9223372036854775807) (hq426 : (((runFL v368 v369).1).Away).length ≤ 8) (n461 : Nat) (hl471 : n461 = (((runFL v368 v369).1).Maps).length) (hl472 : (n461 : Int) ≤ 9223372036854775807) (hq473 : (((runFL v368 v369).1).Maps).length ≤ 8) (n465 : Nat) (hl474 : n465 = (((runFL v368 v369).1).Away).length) (hl475 : (n465 : Int) ≤ 9223372036854775807) (hq476 : (((runFL v368 v369).1).Away).length ≤ 8) (h517 : ¬ (((runFL v368 v369).1) = ((runFL v368 v369).1))) : false = true := by
  exfalso; first | exact li_bad1 ‹LiLaw _ _› (by assumption) | exact li_bad2 ‹LiLaw _ _› (by assumption) (by assumption) (by assumption) | exact li_bad3 ‹LiLaw _ _› (by assumption) (by omega) (by assumption) | exact ‹¬ (runFL _ _).1 = (runFL _ _).1› rfl | exact runL_bad ‹(runFL _ _).2.2 = true› (by assumption) (by omega) (by assumption)
theorem z_c_laws_FnLibraries_555 (L : List UInt8) (nL : Nat) (hbdL : (nL : Int) ≤ 9223372036854775807) (hleL : nL = L.length) (h5 : ¬ (65536 < (L.length : Int))) (v17 : Library) (v18 : LibraryStep) (hq19 : v17.Maps.length ≤ 9 ∧ v17.Away.length ≤ 9) (hq20 : MapB v17.Maps) (hq21 : v18.Value ≤ 9223372036854775807) (n9 : Nat) (hl24 : n9 = (v17.Maps).length) (hl25 : (n9 : Int) ≤ 9223372036854775807) (n13 : Nat) (hl26 : n13 = (v17.Away).length) (hl27 : (n13 : Int) ≤ 9223372036854775807) (hq28 : LiLaw v17 v18) (n67 : Nat) (hl77 : n67 = (((impl_StepLibrary v17 v18).1).Maps).length) (hl78 : (n67 : Int) ≤ 9223372036854775807) (hq79 : (((impl_StepLibrary v17 v18).1).Maps).length ≤ 8) (n71 : Nat) (hl80 : n71 = (((impl_StepLibrary v17 v18).1).Away).length) (hl81 : (n71 : Int) ≤ 9223372036854775807) (hq82 : (((impl_StepLibrary v17 v18).1).Away).length ≤ 8) (n111 : Nat) (hl121 : n111 = (((spec_StepLibrary v17 v18).1).Maps).length) (hl122 : (n111 : Int) ≤ 9223372036854775807) (hq123 : (((spec_StepLibrary v17 v18).1).Maps).length ≤ 8) (n115 : Nat) (hl124 : n115 = (((spec_StepLibrary v17 v18).1).Away).length) (hl125 : (n115 : Int) ≤ 9223372036854775807) (hq126 : (((spec_StepLibrary v17 v18).1).Away).length ≤ 8) (h176 : ¬ (((!(((impl_StepLibrary v17 v18).2) == ((spec_StepLibrary v17 v18).2))) = true) ∨ ((¬ (((impl_StepLibrary v17 v18).1) = ((spec_StepLibrary v17 v18).1))) ∨ ((((impl_StepLibrary v17 v18).2) = true) ∧ (¬ (LibOK ((impl_StepLibrary v17 v18).1))))))) (hq178 : ¬ ((!(((impl_StepLibrary v17 v18).2) == ((spec_StepLibrary v17 v18).2))) = true)) (hq179 : ((impl_StepLibrary v17 v18).1) = ((spec_StepLibrary v17 v18).1)) (hq180 : ¬ ((((impl_StepLibrary v17 v18).2) = true) ∧ (¬ (LibOK ((impl_StepLibrary v17 v18).1))))) (v368 : Library) (v369 : List LibraryStep) (hq370 : v368.Maps.length ≤ 9 ∧ v368.Away.length ≤ 9) (hq371 : MapB v368.Maps) (hq372 : v369.length ≤ 60) (hq373 : StepsIn v369) (n354 : Nat) (hl376 : n354 = (v368.Maps).length) (hl377 : (n354 : Int) ≤ 9223372036854775807) (n358 : Nat) (hl378 : n358 = (v368.Away).length) (hl379 : (n358 : Int) ≤ 9223372036854775807) (n362 : Nat) (hl380 : n362 = (v369).length) (hl381 : (n362 : Int) ≤ 9223372036854775807) (n411 : Nat) (hl421 : n411 = (((runFL v368 v369).1).Maps).length) (hl422 : (n411 : Int) ≤ 9223372036854775807) (hq423 : (((runFL v368 v369).1).Maps).length ≤ 8) (n415 : Nat) (hl424 : n415 = (((runFL v368 v369).1).Away).length) (hl425 : (n415 : Int) ≤ 9223372036854775807) (hq426 : (((runFL v368 v369).1).Away).length ≤ 8) (n461 : Nat) (hl471 : n461 = (((runFL v368 v369).1).Maps).length) (hl472 : (n461 : Int) ≤ 9223372036854775807) (hq473 : (((runFL v368 v369).1).Maps).length ≤ 8) (n465 : Nat) (hl474 : n465 = (((runFL v368 v369).1).Away).length) (hl475 : (n465 : Int) ≤ 9223372036854775807) (hq476 : (((runFL v368 v369).1).Away).length ≤ 8) (h517 : ((runFL v368 v369).1) = ((runFL v368 v369).1)) (h519 : ((runFL v368 v369).2.2) = true) : (0 ≤ v369.length ∧ 0 ≤ (0 : Int) ∧ (0 : Int) ≤ (0 : Int)) ∧ runToL v368 v369 0 = (v368, (0 : Int)) ∧ LibOK v368 := by
  exact ⟨by omega, rfl, (runFL_told ‹(runFL _ _).2.2 = true›).1⟩
theorem z_c_laws_FnLibraries_900 (L : List UInt8) (nL : Nat) (hbdL : (nL : Int) ≤ 9223372036854775807) (hleL : nL = L.length) (h5 : ¬ (65536 < (L.length : Int))) (v17 : Library) (v18 : LibraryStep) (hq19 : v17.Maps.length ≤ 9 ∧ v17.Away.length ≤ 9) (hq20 : MapB v17.Maps) (hq21 : v18.Value ≤ 9223372036854775807) (n9 : Nat) (hl24 : n9 = (v17.Maps).length) (hl25 : (n9 : Int) ≤ 9223372036854775807) (n13 : Nat) (hl26 : n13 = (v17.Away).length) (hl27 : (n13 : Int) ≤ 9223372036854775807) (hq28 : LiLaw v17 v18) (n67 : Nat) (hl77 : n67 = (((impl_StepLibrary v17 v18).1).Maps).length) (hl78 : (n67 : Int) ≤ 9223372036854775807) (hq79 : (((impl_StepLibrary v17 v18).1).Maps).length ≤ 8) (n71 : Nat) (hl80 : n71 = (((impl_StepLibrary v17 v18).1).Away).length) (hl81 : (n71 : Int) ≤ 9223372036854775807) (hq82 : (((impl_StepLibrary v17 v18).1).Away).length ≤ 8) (n111 : Nat) (hl121 : n111 = (((spec_StepLibrary v17 v18).1).Maps).length) (hl122 : (n111 : Int) ≤ 9223372036854775807) (hq123 : (((spec_StepLibrary v17 v18).1).Maps).length ≤ 8) (n115 : Nat) (hl124 : n115 = (((spec_StepLibrary v17 v18).1).Away).length) (hl125 : (n115 : Int) ≤ 9223372036854775807) (hq126 : (((spec_StepLibrary v17 v18).1).Away).length ≤ 8) (h176 : ¬ (((!(((impl_StepLibrary v17 v18).2) == ((spec_StepLibrary v17 v18).2))) = true) ∨ ((¬ (((impl_StepLibrary v17 v18).1) = ((spec_StepLibrary v17 v18).1))) ∨ ((((impl_StepLibrary v17 v18).2) = true) ∧ (¬ (LibOK ((impl_StepLibrary v17 v18).1))))))) (hq178 : ¬ ((!(((impl_StepLibrary v17 v18).2) == ((spec_StepLibrary v17 v18).2))) = true)) (hq179 : ((impl_StepLibrary v17 v18).1) = ((spec_StepLibrary v17 v18).1)) (hq180 : ¬ ((((impl_StepLibrary v17 v18).2) = true) ∧ (¬ (LibOK ((impl_StepLibrary v17 v18).1))))) (v368 : Library) (v369 : List LibraryStep) (hq370 : v368.Maps.length ≤ 9 ∧ v368.Away.length ≤ 9) (hq371 : MapB v368.Maps) (hq372 : v369.length ≤ 60) (hq373 : StepsIn v369) (n354 : Nat) (hl376 : n354 = (v368.Maps).length) (hl377 : (n354 : Int) ≤ 9223372036854775807) (n358 : Nat) (hl378 : n358 = (v368.Away).length) (hl379 : (n358 : Int) ≤ 9223372036854775807) (n362 : Nat) (hl380 : n362 = (v369).length) (hl381 : (n362 : Int) ≤ 9223372036854775807) (n411 : Nat) (hl421 : n411 = (((runFL v368 v369).1).Maps).length) (hl422 : (n411 : Int) ≤ 9223372036854775807) (hq423 : (((runFL v368 v369).1).Maps).length ≤ 8) (n415 : Nat) (hl424 : n415 = (((runFL v368 v369).1).Away).length) (hl425 : (n415 : Int) ≤ 9223372036854775807) (hq426 : (((runFL v368 v369).1).Away).length ≤ 8) (n461 : Nat) (hl471 : n461 = (((runFL v368 v369).1).Maps).length) (hl472 : (n461 : Int) ≤ 9223372036854775807) (hq473 : (((runFL v368 v369).1).Maps).length ≤ 8) (n465 : Nat) (hl474 : n465 = (((runFL v368 v369).1).Away).length) (hl475 : (n465 : Int) ≤ 9223372036854775807) (hq476 : (((runFL v368 v369).1).Away).length ≤ 8) (h517 : ((runFL v368 v369).1) = ((runFL v368 v369).1)) (h519 : ((runFL v368 v369).2.2) = true) (k : Nat) (o : Library) (m : Int) (n553 : Nat) (c553 : Nat) (n554 : Nat) (c554 : Nat) (hi567 : (k ≤ v369.length ∧ 0 ≤ m ∧ m ≤ (k : Int)) ∧ runToL v368 v369 k = (o, m) ∧ LibOK o) (hl581 : n553 = (o.Maps).length) (hl583 : n554 = (o.Away).length) (hq585 : 0 ≤ m ∧ m ≤ (k : Int)) (hq586 : LibOK o) (hq587 : o.Maps.length ≤ 8 ∧ o.Away.length ≤ 8) (h588 : (k : Int) < (n362 : Int)) (n598 : Nat) (n602 : Nat) (hx594 : v369[k]? = some (gt v369 k)) (hl609 : n598 = (((impl_StepLibrary o (gt v369 k)).1).Maps).length) (hl610 : (n598 : Int) ≤ 9223372036854775807) (hq611 : (((impl_StepLibrary o (gt v369 k)).1).Maps).length ≤ 8) (hl612 : n602 = (((impl_StepLibrary o (gt v369 k)).1).Away).length) (hl613 : (n602 : Int) ≤ 9223372036854775807) (hq614 : (((impl_StepLibrary o (gt v369 k)).1).Away).length ≤ 8) (h889 : ((impl_StepLibrary o (gt v369 k)).2) = true) : (k + 1 ≤ v369.length ∧ 0 ≤ m + 1 ∧ m + 1 ≤ (k + 1 : Int)) ∧ runToL v368 v369 (k + 1) = (((impl_StepLibrary o (gt v369 k)).1), m + 1) ∧ LibOK ((impl_StepLibrary o (gt v369 k)).1) := by
  have hh := ‹_ ∧ runToL _ _ _ = _ ∧ _›
  first | exact ⟨by omega, runL_yesI hh.2.1 ‹_[k]? = some _› ‹_›⟩ | exact ⟨by omega, runL_noI hh.2.1 hh.2.2 ‹_[k]? = some _› ‹_›, hh.2.2⟩
theorem z_c_laws_FnLibraries_901 (L : List UInt8) (nL : Nat) (hbdL : (nL : Int) ≤ 9223372036854775807) (hleL : nL = L.length) (h5 : ¬ (65536 < (L.length : Int))) (v17 : Library) (v18 : LibraryStep) (hq19 : v17.Maps.length ≤ 9 ∧ v17.Away.length ≤ 9) (hq20 : MapB v17.Maps) (hq21 : v18.Value ≤ 9223372036854775807) (n9 : Nat) (hl24 : n9 = (v17.Maps).length) (hl25 : (n9 : Int) ≤ 9223372036854775807) (n13 : Nat) (hl26 : n13 = (v17.Away).length) (hl27 : (n13 : Int) ≤ 9223372036854775807) (hq28 : LiLaw v17 v18) (n67 : Nat) (hl77 : n67 = (((impl_StepLibrary v17 v18).1).Maps).length) (hl78 : (n67 : Int) ≤ 9223372036854775807) (hq79 : (((impl_StepLibrary v17 v18).1).Maps).length ≤ 8) (n71 : Nat) (hl80 : n71 = (((impl_StepLibrary v17 v18).1).Away).length) (hl81 : (n71 : Int) ≤ 9223372036854775807) (hq82 : (((impl_StepLibrary v17 v18).1).Away).length ≤ 8) (n111 : Nat) (hl121 : n111 = (((spec_StepLibrary v17 v18).1).Maps).length) (hl122 : (n111 : Int) ≤ 9223372036854775807) (hq123 : (((spec_StepLibrary v17 v18).1).Maps).length ≤ 8) (n115 : Nat) (hl124 : n115 = (((spec_StepLibrary v17 v18).1).Away).length) (hl125 : (n115 : Int) ≤ 9223372036854775807) (hq126 : (((spec_StepLibrary v17 v18).1).Away).length ≤ 8) (h176 : ¬ (((!(((impl_StepLibrary v17 v18).2) == ((spec_StepLibrary v17 v18).2))) = true) ∨ ((¬ (((impl_StepLibrary v17 v18).1) = ((spec_StepLibrary v17 v18).1))) ∨ ((((impl_StepLibrary v17 v18).2) = true) ∧ (¬ (LibOK ((impl_StepLibrary v17 v18).1))))))) (hq178 : ¬ ((!(((impl_StepLibrary v17 v18).2) == ((spec_StepLibrary v17 v18).2))) = true)) (hq179 : ((impl_StepLibrary v17 v18).1) = ((spec_StepLibrary v17 v18).1)) (hq180 : ¬ ((((impl_StepLibrary v17 v18).2) = true) ∧ (¬ (LibOK ((impl_StepLibrary v17 v18).1))))) (v368 : Library) (v369 : List LibraryStep) (hq370 : v368.Maps.length ≤ 9 ∧ v368.Away.length ≤ 9) (hq371 : MapB v368.Maps) (hq372 : v369.length ≤ 60) (hq373 : StepsIn v369) (n354 : Nat) (hl376 : n354 = (v368.Maps).length) (hl377 : (n354 : Int) ≤ 9223372036854775807) (n358 : Nat) (hl378 : n358 = (v368.Away).length) (hl379 : (n358 : Int) ≤ 9223372036854775807) (n362 : Nat) (hl380 : n362 = (v369).length) (hl381 : (n362 : Int) ≤ 9223372036854775807) (n411 : Nat) (hl421 : n411 = (((runFL v368 v369).1).Maps).length) (hl422 : (n411 : Int) ≤ 9223372036854775807) (hq423 : (((runFL v368 v369).1).Maps).length ≤ 8) (n415 : Nat) (hl424 : n415 = (((runFL v368 v369).1).Away).length) (hl425 : (n415 : Int) ≤ 9223372036854775807) (hq426 : (((runFL v368 v369).1).Away).length ≤ 8) (n461 : Nat) (hl471 : n461 = (((runFL v368 v369).1).Maps).length) (hl472 : (n461 : Int) ≤ 9223372036854775807) (hq473 : (((runFL v368 v369).1).Maps).length ≤ 8) (n465 : Nat) (hl474 : n465 = (((runFL v368 v369).1).Away).length) (hl475 : (n465 : Int) ≤ 9223372036854775807) (hq476 : (((runFL v368 v369).1).Away).length ≤ 8) (h517 : ((runFL v368 v369).1) = ((runFL v368 v369).1)) (h519 : ((runFL v368 v369).2.2) = true) (k : Nat) (o : Library) (m : Int) (n553 : Nat) (c553 : Nat) (n554 : Nat) (c554 : Nat) (hi567 : (k ≤ v369.length ∧ 0 ≤ m ∧ m ≤ (k : Int)) ∧ runToL v368 v369 k = (o, m) ∧ LibOK o) (hl581 : n553 = (o.Maps).length) (hl583 : n554 = (o.Away).length) (hq585 : 0 ≤ m ∧ m ≤ (k : Int)) (hq586 : LibOK o) (hq587 : o.Maps.length ≤ 8 ∧ o.Away.length ≤ 8) (h588 : (k : Int) < (n362 : Int)) (n598 : Nat) (n602 : Nat) (hx594 : v369[k]? = some (gt v369 k)) (hl609 : n598 = (((impl_StepLibrary o (gt v369 k)).1).Maps).length) (hl610 : (n598 : Int) ≤ 9223372036854775807) (hq611 : (((impl_StepLibrary o (gt v369 k)).1).Maps).length ≤ 8) (hl612 : n602 = (((impl_StepLibrary o (gt v369 k)).1).Away).length) (hl613 : (n602 : Int) ≤ 9223372036854775807) (hq614 : (((impl_StepLibrary o (gt v369 k)).1).Away).length ≤ 8) (h889 : ((impl_StepLibrary o (gt v369 k)).2) = true) : 60 - (k + 1) < 60 - k := by
  omega
theorem z_c_laws_FnLibraries_902 (L : List UInt8) (nL : Nat) (hbdL : (nL : Int) ≤ 9223372036854775807) (hleL : nL = L.length) (h5 : ¬ (65536 < (L.length : Int))) (v17 : Library) (v18 : LibraryStep) (hq19 : v17.Maps.length ≤ 9 ∧ v17.Away.length ≤ 9) (hq20 : MapB v17.Maps) (hq21 : v18.Value ≤ 9223372036854775807) (n9 : Nat) (hl24 : n9 = (v17.Maps).length) (hl25 : (n9 : Int) ≤ 9223372036854775807) (n13 : Nat) (hl26 : n13 = (v17.Away).length) (hl27 : (n13 : Int) ≤ 9223372036854775807) (hq28 : LiLaw v17 v18) (n67 : Nat) (hl77 : n67 = (((impl_StepLibrary v17 v18).1).Maps).length) (hl78 : (n67 : Int) ≤ 9223372036854775807) (hq79 : (((impl_StepLibrary v17 v18).1).Maps).length ≤ 8) (n71 : Nat) (hl80 : n71 = (((impl_StepLibrary v17 v18).1).Away).length) (hl81 : (n71 : Int) ≤ 9223372036854775807) (hq82 : (((impl_StepLibrary v17 v18).1).Away).length ≤ 8) (n111 : Nat) (hl121 : n111 = (((spec_StepLibrary v17 v18).1).Maps).length) (hl122 : (n111 : Int) ≤ 9223372036854775807) (hq123 : (((spec_StepLibrary v17 v18).1).Maps).length ≤ 8) (n115 : Nat) (hl124 : n115 = (((spec_StepLibrary v17 v18).1).Away).length) (hl125 : (n115 : Int) ≤ 9223372036854775807) (hq126 : (((spec_StepLibrary v17 v18).1).Away).length ≤ 8) (h176 : ¬ (((!(((impl_StepLibrary v17 v18).2) == ((spec_StepLibrary v17 v18).2))) = true) ∨ ((¬ (((impl_StepLibrary v17 v18).1) = ((spec_StepLibrary v17 v18).1))) ∨ ((((impl_StepLibrary v17 v18).2) = true) ∧ (¬ (LibOK ((impl_StepLibrary v17 v18).1))))))) (hq178 : ¬ ((!(((impl_StepLibrary v17 v18).2) == ((spec_StepLibrary v17 v18).2))) = true)) (hq179 : ((impl_StepLibrary v17 v18).1) = ((spec_StepLibrary v17 v18).1)) (hq180 : ¬ ((((impl_StepLibrary v17 v18).2) = true) ∧ (¬ (LibOK ((impl_StepLibrary v17 v18).1))))) (v368 : Library) (v369 : List LibraryStep) (hq370 : v368.Maps.length ≤ 9 ∧ v368.Away.length ≤ 9) (hq371 : MapB v368.Maps) (hq372 : v369.length ≤ 60) (hq373 : StepsIn v369) (n354 : Nat) (hl376 : n354 = (v368.Maps).length) (hl377 : (n354 : Int) ≤ 9223372036854775807) (n358 : Nat) (hl378 : n358 = (v368.Away).length) (hl379 : (n358 : Int) ≤ 9223372036854775807) (n362 : Nat) (hl380 : n362 = (v369).length) (hl381 : (n362 : Int) ≤ 9223372036854775807) (n411 : Nat) (hl421 : n411 = (((runFL v368 v369).1).Maps).length) (hl422 : (n411 : Int) ≤ 9223372036854775807) (hq423 : (((runFL v368 v369).1).Maps).length ≤ 8) (n415 : Nat) (hl424 : n415 = (((runFL v368 v369).1).Away).length) (hl425 : (n415 : Int) ≤ 9223372036854775807) (hq426 : (((runFL v368 v369).1).Away).length ≤ 8) (n461 : Nat) (hl471 : n461 = (((runFL v368 v369).1).Maps).length) (hl472 : (n461 : Int) ≤ 9223372036854775807) (hq473 : (((runFL v368 v369).1).Maps).length ≤ 8) (n465 : Nat) (hl474 : n465 = (((runFL v368 v369).1).Away).length) (hl475 : (n465 : Int) ≤ 9223372036854775807) (hq476 : (((runFL v368 v369).1).Away).length ≤ 8) (h517 : ((runFL v368 v369).1) = ((runFL v368 v369).1)) (h519 : ((runFL v368 v369).2.2) = true) (k : Nat) (o : Library) (m : Int) (n553 : Nat) (c553 : Nat) (n554 : Nat) (c554 : Nat) (hi567 : (k ≤ v369.length ∧ 0 ≤ m ∧ m ≤ (k : Int)) ∧ runToL v368 v369 k = (o, m) ∧ LibOK o) (hl581 : n553 = (o.Maps).length) (hl583 : n554 = (o.Away).length) (hq585 : 0 ≤ m ∧ m ≤ (k : Int)) (hq586 : LibOK o) (hq587 : o.Maps.length ≤ 8 ∧ o.Away.length ≤ 8) (h588 : (k : Int) < (n362 : Int)) (n598 : Nat) (n602 : Nat) (hx594 : v369[k]? = some (gt v369 k)) (hl609 : n598 = (((impl_StepLibrary o (gt v369 k)).1).Maps).length) (hl610 : (n598 : Int) ≤ 9223372036854775807) (hq611 : (((impl_StepLibrary o (gt v369 k)).1).Maps).length ≤ 8) (hl612 : n602 = (((impl_StepLibrary o (gt v369 k)).1).Away).length) (hl613 : (n602 : Int) ≤ 9223372036854775807) (hq614 : (((impl_StepLibrary o (gt v369 k)).1).Away).length ≤ 8) (h889 : ((impl_StepLibrary o (gt v369 k)).2) = false) : (k + 1 ≤ v369.length ∧ 0 ≤ m ∧ m ≤ (k + 1 : Int)) ∧ runToL v368 v369 (k + 1) = (o, m) ∧ LibOK o := by
  have hh := ‹_ ∧ runToL _ _ _ = _ ∧ _›
  first | exact ⟨by omega, runL_yesI hh.2.1 ‹_[k]? = some _› ‹_›⟩ | exact ⟨by omega, runL_noI hh.2.1 hh.2.2 ‹_[k]? = some _› ‹_›, hh.2.2⟩
theorem z_c_laws_FnLibraries_903 (L : List UInt8) (nL : Nat) (hbdL : (nL : Int) ≤ 9223372036854775807) (hleL : nL = L.length) (h5 : ¬ (65536 < (L.length : Int))) (v17 : Library) (v18 : LibraryStep) (hq19 : v17.Maps.length ≤ 9 ∧ v17.Away.length ≤ 9) (hq20 : MapB v17.Maps) (hq21 : v18.Value ≤ 9223372036854775807) (n9 : Nat) (hl24 : n9 = (v17.Maps).length) (hl25 : (n9 : Int) ≤ 9223372036854775807) (n13 : Nat) (hl26 : n13 = (v17.Away).length) (hl27 : (n13 : Int) ≤ 9223372036854775807) (hq28 : LiLaw v17 v18) (n67 : Nat) (hl77 : n67 = (((impl_StepLibrary v17 v18).1).Maps).length) (hl78 : (n67 : Int) ≤ 9223372036854775807) (hq79 : (((impl_StepLibrary v17 v18).1).Maps).length ≤ 8) (n71 : Nat) (hl80 : n71 = (((impl_StepLibrary v17 v18).1).Away).length) (hl81 : (n71 : Int) ≤ 9223372036854775807) (hq82 : (((impl_StepLibrary v17 v18).1).Away).length ≤ 8) (n111 : Nat) (hl121 : n111 = (((spec_StepLibrary v17 v18).1).Maps).length) (hl122 : (n111 : Int) ≤ 9223372036854775807) (hq123 : (((spec_StepLibrary v17 v18).1).Maps).length ≤ 8) (n115 : Nat) (hl124 : n115 = (((spec_StepLibrary v17 v18).1).Away).length) (hl125 : (n115 : Int) ≤ 9223372036854775807) (hq126 : (((spec_StepLibrary v17 v18).1).Away).length ≤ 8) (h176 : ¬ (((!(((impl_StepLibrary v17 v18).2) == ((spec_StepLibrary v17 v18).2))) = true) ∨ ((¬ (((impl_StepLibrary v17 v18).1) = ((spec_StepLibrary v17 v18).1))) ∨ ((((impl_StepLibrary v17 v18).2) = true) ∧ (¬ (LibOK ((impl_StepLibrary v17 v18).1))))))) (hq178 : ¬ ((!(((impl_StepLibrary v17 v18).2) == ((spec_StepLibrary v17 v18).2))) = true)) (hq179 : ((impl_StepLibrary v17 v18).1) = ((spec_StepLibrary v17 v18).1)) (hq180 : ¬ ((((impl_StepLibrary v17 v18).2) = true) ∧ (¬ (LibOK ((impl_StepLibrary v17 v18).1))))) (v368 : Library) (v369 : List LibraryStep) (hq370 : v368.Maps.length ≤ 9 ∧ v368.Away.length ≤ 9) (hq371 : MapB v368.Maps) (hq372 : v369.length ≤ 60) (hq373 : StepsIn v369) (n354 : Nat) (hl376 : n354 = (v368.Maps).length) (hl377 : (n354 : Int) ≤ 9223372036854775807) (n358 : Nat) (hl378 : n358 = (v368.Away).length) (hl379 : (n358 : Int) ≤ 9223372036854775807) (n362 : Nat) (hl380 : n362 = (v369).length) (hl381 : (n362 : Int) ≤ 9223372036854775807) (n411 : Nat) (hl421 : n411 = (((runFL v368 v369).1).Maps).length) (hl422 : (n411 : Int) ≤ 9223372036854775807) (hq423 : (((runFL v368 v369).1).Maps).length ≤ 8) (n415 : Nat) (hl424 : n415 = (((runFL v368 v369).1).Away).length) (hl425 : (n415 : Int) ≤ 9223372036854775807) (hq426 : (((runFL v368 v369).1).Away).length ≤ 8) (n461 : Nat) (hl471 : n461 = (((runFL v368 v369).1).Maps).length) (hl472 : (n461 : Int) ≤ 9223372036854775807) (hq473 : (((runFL v368 v369).1).Maps).length ≤ 8) (n465 : Nat) (hl474 : n465 = (((runFL v368 v369).1).Away).length) (hl475 : (n465 : Int) ≤ 9223372036854775807) (hq476 : (((runFL v368 v369).1).Away).length ≤ 8) (h517 : ((runFL v368 v369).1) = ((runFL v368 v369).1)) (h519 : ((runFL v368 v369).2.2) = true) (k : Nat) (o : Library) (m : Int) (n553 : Nat) (c553 : Nat) (n554 : Nat) (c554 : Nat) (hi567 : (k ≤ v369.length ∧ 0 ≤ m ∧ m ≤ (k : Int)) ∧ runToL v368 v369 k = (o, m) ∧ LibOK o) (hl581 : n553 = (o.Maps).length) (hl583 : n554 = (o.Away).length) (hq585 : 0 ≤ m ∧ m ≤ (k : Int)) (hq586 : LibOK o) (hq587 : o.Maps.length ≤ 8 ∧ o.Away.length ≤ 8) (h588 : (k : Int) < (n362 : Int)) (n598 : Nat) (n602 : Nat) (hx594 : v369[k]? = some (gt v369 k)) (hl609 : n598 = (((impl_StepLibrary o (gt v369 k)).1).Maps).length) (hl610 : (n598 : Int) ≤ 9223372036854775807) (hq611 : (((impl_StepLibrary o (gt v369 k)).1).Maps).length ≤ 8) (hl612 : n602 = (((impl_StepLibrary o (gt v369 k)).1).Away).length) (hl613 : (n602 : Int) ≤ 9223372036854775807) (hq614 : (((impl_StepLibrary o (gt v369 k)).1).Away).length ≤ 8) (h889 : ((impl_StepLibrary o (gt v369 k)).2) = false) : 60 - (k + 1) < 60 - k := by
  omega
theorem z_c_laws_FnLibraries_916 (L : List UInt8) (nL : Nat) (hbdL : (nL : Int) ≤ 9223372036854775807) (hleL : nL = L.length) (h5 : ¬ (65536 < (L.length : Int))) (v17 : Library) (v18 : LibraryStep) (hq19 : v17.Maps.length ≤ 9 ∧ v17.Away.length ≤ 9) (hq20 : MapB v17.Maps) (hq21 : v18.Value ≤ 9223372036854775807) (n9 : Nat) (hl24 : n9 = (v17.Maps).length) (hl25 : (n9 : Int) ≤ 9223372036854775807) (n13 : Nat) (hl26 : n13 = (v17.Away).length) (hl27 : (n13 : Int) ≤ 9223372036854775807) (hq28 : LiLaw v17 v18) (n67 : Nat) (hl77 : n67 = (((impl_StepLibrary v17 v18).1).Maps).length) (hl78 : (n67 : Int) ≤ 9223372036854775807) (hq79 : (((impl_StepLibrary v17 v18).1).Maps).length ≤ 8) (n71 : Nat) (hl80 : n71 = (((impl_StepLibrary v17 v18).1).Away).length) (hl81 : (n71 : Int) ≤ 9223372036854775807) (hq82 : (((impl_StepLibrary v17 v18).1).Away).length ≤ 8) (n111 : Nat) (hl121 : n111 = (((spec_StepLibrary v17 v18).1).Maps).length) (hl122 : (n111 : Int) ≤ 9223372036854775807) (hq123 : (((spec_StepLibrary v17 v18).1).Maps).length ≤ 8) (n115 : Nat) (hl124 : n115 = (((spec_StepLibrary v17 v18).1).Away).length) (hl125 : (n115 : Int) ≤ 9223372036854775807) (hq126 : (((spec_StepLibrary v17 v18).1).Away).length ≤ 8) (h176 : ¬ (((!(((impl_StepLibrary v17 v18).2) == ((spec_StepLibrary v17 v18).2))) = true) ∨ ((¬ (((impl_StepLibrary v17 v18).1) = ((spec_StepLibrary v17 v18).1))) ∨ ((((impl_StepLibrary v17 v18).2) = true) ∧ (¬ (LibOK ((impl_StepLibrary v17 v18).1))))))) (hq178 : ¬ ((!(((impl_StepLibrary v17 v18).2) == ((spec_StepLibrary v17 v18).2))) = true)) (hq179 : ((impl_StepLibrary v17 v18).1) = ((spec_StepLibrary v17 v18).1)) (hq180 : ¬ ((((impl_StepLibrary v17 v18).2) = true) ∧ (¬ (LibOK ((impl_StepLibrary v17 v18).1))))) (v368 : Library) (v369 : List LibraryStep) (hq370 : v368.Maps.length ≤ 9 ∧ v368.Away.length ≤ 9) (hq371 : MapB v368.Maps) (hq372 : v369.length ≤ 60) (hq373 : StepsIn v369) (n354 : Nat) (hl376 : n354 = (v368.Maps).length) (hl377 : (n354 : Int) ≤ 9223372036854775807) (n358 : Nat) (hl378 : n358 = (v368.Away).length) (hl379 : (n358 : Int) ≤ 9223372036854775807) (n362 : Nat) (hl380 : n362 = (v369).length) (hl381 : (n362 : Int) ≤ 9223372036854775807) (n411 : Nat) (hl421 : n411 = (((runFL v368 v369).1).Maps).length) (hl422 : (n411 : Int) ≤ 9223372036854775807) (hq423 : (((runFL v368 v369).1).Maps).length ≤ 8) (n415 : Nat) (hl424 : n415 = (((runFL v368 v369).1).Away).length) (hl425 : (n415 : Int) ≤ 9223372036854775807) (hq426 : (((runFL v368 v369).1).Away).length ≤ 8) (n461 : Nat) (hl471 : n461 = (((runFL v368 v369).1).Maps).length) (hl472 : (n461 : Int) ≤ 9223372036854775807) (hq473 : (((runFL v368 v369).1).Maps).length ≤ 8) (n465 : Nat) (hl474 : n465 = (((runFL v368 v369).1).Away).length) (hl475 : (n465 : Int) ≤ 9223372036854775807) (hq476 : (((runFL v368 v369).1).Away).length ≤ 8) (h517 : ((runFL v368 v369).1) = ((runFL v368 v369).1)) (h519 : ((runFL v368 v369).2.2) = true) (k : Nat) (o : Library) (m : Int) (n553 : Nat) (c553 : Nat) (n554 : Nat) (c554 : Nat) (hi567 : (k ≤ v369.length ∧ 0 ≤ m ∧ m ≤ (k : Int)) ∧ runToL v368 v369 k = (o, m) ∧ LibOK o) (hl581 : n553 = (o.Maps).length) (hl583 : n554 = (o.Away).length) (hq585 : 0 ≤ m ∧ m ≤ (k : Int)) (hq586 : LibOK o) (hq587 : o.Maps.length ≤ 8 ∧ o.Away.length ≤ 8) (h588 : ¬ ((k : Int) < (n362 : Int))) (h915 : (¬ (m = ((runFL v368 v369).2.1))) ∨ (¬ (o = ((runFL v368 v369).1)))) : false = true := by
  exfalso; first | exact li_bad1 ‹LiLaw _ _› (by assumption) | exact li_bad2 ‹LiLaw _ _› (by assumption) (by assumption) (by assumption) | exact li_bad3 ‹LiLaw _ _› (by assumption) (by omega) (by assumption) | exact ‹¬ (runFL _ _).1 = (runFL _ _).1› rfl | exact runL_bad ‹(runFL _ _).2.2 = true› (by assumption) (by omega) (by assumption)
theorem c_laws_FnLibraries (w : World) {AL : Option Addr} {nL cL BL : Nat}  (L : List UInt8) (hL : SlR w BL encB 1 AL nL cL L) : Calls Try.prog 3 #[.slice AL nL cL] w fun e w' => e = .returned (.bool true) ∧ Lo w w' := by
  refine calls_W 252 Try.func3 rfl rfl rfl ?_
  have hbdL := hL.bound
  have hleL := hL.len
  have hBbL := hL.bd
  refine W.seq ?_
  refine W.regS (SR.q' (r_as (v := .bool false) rfl) <| SR.nil ?_)
  refine W.seq ?_
  refine W.seq ?_
  refine W.regS (SR.q' (r_mv (v := .slice _ _ _) rfl) <| SR.call ent4 (c_laws_vBig w L ((hL))) rfl ?_)
  rintro e w1 ⟨rfl, hk2⟩
  refine ⟨_, rfl, ?_⟩
  have hz3 := hk2.size
  have hB4 := (Lo.refl w).lo hk2
  refine SR.nil ?_
  refine W.cond_d rfl (fun h5 => ?_) (fun h5 => ?_)
  · refine W.seq ?_
    refine W.regS (SR.q' (r_as (v := .bool true) rfl) <| SR.nil ?_)
    refine W.ret ?_
    refine ret1 rfl (v := .bool _) rfl ?_
    exact ⟨eR rfl, hB4⟩
  · refine W.skip ?_
    refine W.seq ?_
    refine W.regS (SR.q' (r_mv (v := .slice _ _ _) rfl) <| SR.call ent5 (c_spec_DrawStepLibrary w1 L (((hL).lo hk2)) (by omega)) rfl ?_)
    rintro e w6 ⟨A8, n9, c10, A12, n13, c14, v17, v18, rfl, hO11, hO15, hd16, hq19, hq20, hq21, hk7⟩
    refine ⟨_, rfl, ?_⟩
    have hz22 := hk7.size
    have hB23 := hB4.lo hk7
    have hl24 := hO11.len
    have hl25 := hO11.rd.bound
    have hl26 := hO15.len
    have hl27 := hO15.rd.bound
    have hq28 : LiLaw v17 v18 := li_law v17 v18 (by omega)
    refine SR.q' (r_mv (v := .tuple (List.toArray _)) rfl) <| SR.q' (r_ext (v := .agg (List.toArray _)) rfl rfl) <| SR.q' (r_ext (v := .agg (List.toArray _)) rfl rfl) <| SR.alloc (l := [.slice none 0 0, .slice none 0 0, .int .i64 0, .int .i64 0, .int .i64 0]) tz27 rfl ?_
    intro g29 w30 hg31 hk32 hs33 hb34
    have hz35 := hk32.size
    have hB36 := hB23.lo hk32
    have hd37 : ¬ A8 = some ⟨g29, 0, none⟩ := fun e' => by have := (hO11).base_le e'; omega
    have hd38 : ¬ A12 = some ⟨g29, 0, none⟩ := fun e' => by have := (hO15).base_le e'; omega
    refine SR.alloc (l := [.int .i64 0, .int .i64 0, .int .i64 0, .int .i64 0]) tz29 rfl ?_
    intro g39 w40 hg41 hk42 hs43 hb44
    have hz45 := hk42.size
    have hB46 := hB36.lo hk42
    have hd47 : ¬ A8 = some ⟨g39, 0, none⟩ := fun e' => by have := ((hO11).lo hk32).base_le e'; omega
    have hd48 : ¬ A12 = some ⟨g39, 0, none⟩ := fun e' => by have := ((hO15).lo hk32).base_le e'; omega
    refine SR.store (o := 0) (vs := [.slice A8 n9 c10, .slice A12 n13 c14, .int .i64 v17.Bought, .int .i64 v17.Dropped, .int .i64 v17.Mended]) agg27.2 rfl rfl rfl rfl ((hb34).lo hk42) (Nat.le_of_ble_eq_true rfl) rfl ?_
    intro w49 hk50 hs51 hb52
    have hz53 := hk50.size
    have hB54 := hB46.new hk50 (by omega)
    refine SR.store (o := 0) (vs := [.int .i64 v18.Kind, .int .i64 v18.Id, .int .i64 v18.Reader, .int .i64 v18.Value]) agg29.2 rfl rfl rfl rfl ((hb44).kn hk50 (by omega)) (Nat.le_of_ble_eq_true rfl) rfl ?_
    intro w55 hk56 hs57 hb58
    have hz59 := hk56.size
    have hB60 := hB54.new hk56 (by omega)
    refine SR.nil ?_
    refine W.seq ?_
    have hm61 := ((((((hL).lo hk2).lo hk7).lo hk32).lo hk42).kn hk50 (by omega)).kn hk56 (by omega)
    have hm62 := ((((hO11).lo hk32).lo hk42).kd hk50 hd37).kd hk56 hd47
    have hm63 := ((((hO15).lo hk32).lo hk42).kd hk50 hd38).kd hk56 hd48
    refine W.regS (SR.q' (r_lda (l := [.slice A8 n9 c10, .slice A12 n13 c14, .int .i64 v17.Bought, .int .i64 v17.Dropped, .int .i64 v17.Mended]) agg27 rfl (fun _ _ hu => ((hb52).kn hk56 (by omega)).cell hu) rfl) <| SR.q' (r_lda (l := [.int .i64 v18.Kind, .int .i64 v18.Id, .int .i64 v18.Reader, .int .i64 v18.Value]) agg29 rfl (fun _ _ hu => (hb58).cell hu) rfl) <| SR.call ent6 (c_impl_StepLibrary w55 v17 (((hm62).rd)) (((hm63).rd)) v18 (by omega)) rfl ?_)
    rintro e w64 ⟨A66, n67, c68, A70, n71, c72, rfl, hO69, hO73, hd74, hk65⟩
    refine ⟨_, rfl, ?_⟩
    have hz75 := hk65.size
    have hB76 := hB60.lo hk65
    have hl77 := hO69.len
    have hl78 := hO69.rd.bound
    have hq79 := step_lenM v17 v18
    have hl80 := hO73.len
    have hl81 := hO73.rd.bound
    have hq82 := step_lenA v17 v18
    refine SR.q' (r_mv (v := .tuple (List.toArray _)) rfl) <| SR.q' (r_ext (v := .agg (List.toArray _)) rfl rfl) <| SR.q' (r_ext (v := .bool _) rfl rfl) <| SR.alloc (l := [.slice none 0 0, .slice none 0 0, .int .i64 0, .int .i64 0, .int .i64 0]) tz27 rfl ?_
    intro g83 w84 hg85 hk86 hs87 hb88
    have hz89 := hk86.size
    have hB90 := hB76.lo hk86
    have hd91 : ¬ A8 = some ⟨g83, 0, none⟩ := fun e' => by have := ((hm62).lo hk65).base_le e'; omega
    have hd92 : ¬ A12 = some ⟨g83, 0, none⟩ := fun e' => by have := ((hm63).lo hk65).base_le e'; omega
    have hd93 : ¬ A66 = some ⟨g83, 0, none⟩ := fun e' => by have := (hO69).base_le e'; omega
    have hd94 : ¬ A70 = some ⟨g83, 0, none⟩ := fun e' => by have := (hO73).base_le e'; omega
    refine SR.store (o := 0) (vs := [.slice A66 n67 c68, .slice A70 n71 c72, .int .i64 (((impl_StepLibrary v17 v18).1).Bought), .int .i64 (((impl_StepLibrary v17 v18).1).Dropped), .int .i64 (((impl_StepLibrary v17 v18).1).Mended)]) agg27.2 rfl rfl rfl rfl (hb88) (Nat.le_of_ble_eq_true rfl) rfl ?_
    intro w95 hk96 hs97 hb98
    have hz99 := hk96.size
    have hB100 := hB90.new hk96 (by omega)
    refine SR.q' (r_as (v := .bool _) rfl) <| SR.nil ?_
    refine W.seq ?_
    refine W.seq ?_
    have hm101 := (((hm61).lo hk65).lo hk86).kn hk96 (by omega)
    have hm102 := ((((hb52).kn hk56 (by omega)).lo hk65).lo hk86).kn hk96 (by omega)
    have hm103 := (((hm62).lo hk65).lo hk86).kd hk96 hd91
    have hm104 := (((hm63).lo hk65).lo hk86).kd hk96 hd92
    have hm105 := (((hb58).lo hk65).lo hk86).kn hk96 (by omega)
    have hm106 := ((hO69).lo hk86).kd hk96 hd93
    have hm107 := ((hO73).lo hk86).kd hk96 hd94
    refine W.regS (SR.q' (r_lda (l := [.slice A8 n9 c10, .slice A12 n13 c14, .int .i64 v17.Bought, .int .i64 v17.Dropped, .int .i64 v17.Mended]) agg27 rfl (fun _ _ hu => (hm102).cell hu) rfl) <| SR.q' (r_lda (l := [.int .i64 v18.Kind, .int .i64 v18.Id, .int .i64 v18.Reader, .int .i64 v18.Value]) agg29 rfl (fun _ _ hu => (hm105).cell hu) rfl) <| SR.call ent7 (c_spec_StepLibrary w95 v17 (((hm103).rd)) (((hm104).rd)) v18) rfl ?_)
    rintro e w108 ⟨A110, n111, c112, A114, n115, c116, rfl, hO113, hO117, hd118, hk109⟩
    refine ⟨_, rfl, ?_⟩
    have hz119 := hk109.size
    have hB120 := hB100.lo hk109
    have hl121 := hO113.len
    have hl122 := hO113.rd.bound
    have hq123 := step_lenMS v17 v18
    have hl124 := hO117.len
    have hl125 := hO117.rd.bound
    have hq126 := step_lenAS v17 v18
    refine SR.q' (r_mv (v := .tuple (List.toArray _)) rfl) <| SR.q' (r_ext (v := .agg (List.toArray _)) rfl rfl) <| SR.q' (r_ext (v := .bool _) rfl rfl) <| SR.alloc (l := [.slice none 0 0, .slice none 0 0, .int .i64 0, .int .i64 0, .int .i64 0]) tz27 rfl ?_
    intro g127 w128 hg129 hk130 hs131 hb132
    have hz133 := hk130.size
    have hB134 := hB120.lo hk130
    have hd135 : ¬ A8 = some ⟨g127, 0, none⟩ := fun e' => by have := ((hm103).lo hk109).base_le e'; omega
    have hd136 : ¬ A12 = some ⟨g127, 0, none⟩ := fun e' => by have := ((hm104).lo hk109).base_le e'; omega
    have hd137 : ¬ A66 = some ⟨g127, 0, none⟩ := fun e' => by have := ((hm106).lo hk109).base_le e'; omega
    have hd138 : ¬ A70 = some ⟨g127, 0, none⟩ := fun e' => by have := ((hm107).lo hk109).base_le e'; omega
    have hd139 : ¬ A110 = some ⟨g127, 0, none⟩ := fun e' => by have := (hO113).base_le e'; omega
    have hd140 : ¬ A114 = some ⟨g127, 0, none⟩ := fun e' => by have := (hO117).base_le e'; omega
    refine SR.store (o := 0) (vs := [.slice A110 n111 c112, .slice A114 n115 c116, .int .i64 (((spec_StepLibrary v17 v18).1).Bought), .int .i64 (((spec_StepLibrary v17 v18).1).Dropped), .int .i64 (((spec_StepLibrary v17 v18).1).Mended)]) agg27.2 rfl rfl rfl rfl (hb132) (Nat.le_of_ble_eq_true rfl) rfl ?_
    intro w141 hk142 hs143 hb144
    have hz145 := hk142.size
    have hB146 := hB134.new hk142 (by omega)
    refine SR.q' (r_as (v := .bool _) rfl) <| SR.nil ?_
    refine W.seq ?_
    have hm147 := (((hm101).lo hk109).lo hk130).kn hk142 (by omega)
    have hm148 := (((hm102).lo hk109).lo hk130).kn hk142 (by omega)
    have hm149 := (((hm103).lo hk109).lo hk130).kd hk142 hd135
    have hm150 := (((hm104).lo hk109).lo hk130).kd hk142 hd136
    have hm151 := (((hm105).lo hk109).lo hk130).kn hk142 (by omega)
    have hm152 := (((hb98).lo hk109).lo hk130).kn hk142 (by omega)
    have hm153 := (((hm106).lo hk109).lo hk130).kd hk142 hd137
    have hm154 := (((hm107).lo hk109).lo hk130).kd hk142 hd138
    have hm155 := ((hO113).lo hk130).kd hk142 hd139
    have hm156 := ((hO117).lo hk130).kd hk142 hd140
    refine W.regJD mo (by kernel_rfl) (fun f' w' => At f' [(0, .slice AL nL cL), (2, .bool false), (3, .pointer (pA g29)), (4, .pointer (pA g39)), (5, .pointer (pA g83)), (6, .bool ((impl_StepLibrary v17 v18).2)), (76, .bool (decide (((!(((impl_StepLibrary v17 v18).2) == ((spec_StepLibrary v17 v18).2))) = true) ∨ ((¬ (((impl_StepLibrary v17 v18).1) = ((spec_StepLibrary v17 v18).1))) ∨ ((((impl_StepLibrary v17 v18).2) = true) ∧ (¬ (LibOK ((impl_StepLibrary v17 v18).1))))))))] ∧ Lo w141 w') ?_ ?_
    · refine QR.q' (fun w' hw' => r_mv (v := .bool _) rfl) <| QR.q' (fun w' hw' => r_mv (v := .bool _) rfl) <| QR.q' (fun w' hw' => r_neb und4 rfl rfl) <| QR.q' (fun w' hw' => r_mv (v := .bool _) rfl) <| QR.split (fun h157 => ?_) (fun h157 => ?_)
      · have hq158 := bnot_t h157
        refine QR.s' rfl <| QR.s' rfl <| QR.s' rfl <| QR.s' rfl <| QR.q' (fun w' hw' => r_pick true rfl (v := .bool true) rfl) <| QR.q' (fun w' hw' => r_mv (v := .bool _) rfl) <| QR.s' rfl <| QR.s' rfl <| QR.s' rfl <| QR.s' rfl <| QR.s' rfl <| QR.q' (fun w' hw' => r_pick true rfl (v := .bool true) rfl) <| QR.q' (fun w' hw' => r_mv (v := .bool _) rfl) <| QR.s' rfl <| QR.s' rfl <| QR.u' rfl <| QR.u' rfl <| QR.u' rfl <| QR.s' rfl <| QR.q' (fun w' hw' => r_pick true rfl (v := .bool true) rfl) <| QR.nil ?_
        intro w159 hk160
        exact ⟨⟨rfl, rfl, rfl, rfl, rfl, rfl, (eDT ((jot h157).1 trivial)), trivial⟩, hk160⟩
      · have hq161 := bnot_f h157
        refine QR.g' rfl (fun w' hw' => r_lda (l := [.slice A66 n67 c68, .slice A70 n71 c72, .int .i64 (((impl_StepLibrary v17 v18).1).Bought), .int .i64 (((impl_StepLibrary v17 v18).1).Dropped), .int .i64 (((impl_StepLibrary v17 v18).1).Mended)]) agg27 rfl (fun _ _ hu => ((hm152).lo hw').cell hu) rfl) <| QR.g' rfl (fun w' hw' => r_lda (l := [.slice A110 n111 c112, .slice A114 n115 c116, .int .i64 (((spec_StepLibrary v17 v18).1).Bought), .int .i64 (((spec_StepLibrary v17 v18).1).Dropped), .int .i64 (((spec_StepLibrary v17 v18).1).Mended)]) agg27 rfl (fun _ _ hu => ((hb144).lo hw').cell hu) rfl) <| QR.gcall rfl ent8 (fun w' hw' => (c_laws_vLibrary w' ((impl_StepLibrary v17 v18).1) ((((hm153).lo hw').rd)) ((((hm154).lo hw').rd)) ((spec_StepLibrary v17 v18).1) ((((hm155).lo hw').rd)) ((((hm156).lo hw').rd))).mono fun _ _ h => ⟨h.1, hw'.trans h.2⟩) rfl <| QR.g' rfl (fun w' hw' => r_not rfl) <| QR.q' (fun w' hw' => r_pick false rfl (v := .bool _) rfl) <| QR.q' (fun w' hw' => r_mv (v := .bool _) rfl) <| QR.splitN (fun h162 => ?_) (fun h162 => ?_)
        · refine QR.s' rfl <| QR.s' rfl <| QR.s' rfl <| QR.s' rfl <| QR.s' rfl <| QR.q' (fun w' hw' => r_pick true rfl (v := .bool true) rfl) <| QR.q' (fun w' hw' => r_mv (v := .bool _) rfl) <| QR.s' rfl <| QR.s' rfl <| QR.u' rfl <| QR.u' rfl <| QR.u' rfl <| QR.s' rfl <| QR.q' (fun w' hw' => r_pick true rfl (v := .bool true) rfl) <| QR.nil ?_
          intro w163 hk164
          exact ⟨⟨rfl, rfl, rfl, rfl, rfl, rfl, (eDT (((jmf h162).trans (jof (ne_true_of_eq_false h157))).1 trivial)), trivial⟩, hk164⟩
        · refine QR.g' rfl (fun w' hw' => r_lda (l := [.slice A8 n9 c10, .slice A12 n13 c14, .int .i64 v17.Bought, .int .i64 v17.Dropped, .int .i64 v17.Mended]) agg27 rfl (fun _ _ hu => ((hm148).lo hw').cell hu) rfl) <| QR.gcall rfl ent9 (fun w' hw' => (c_impl_IsLibrary w' v17 ((((hm149).lo hw').rd)) ((((hm150).lo hw').rd)) (by omega)).mono fun _ _ h => ⟨h.1, hw'.trans h.2⟩) rfl <| QR.g' rfl (fun w' hw' => r_lda (l := [.slice A8 n9 c10, .slice A12 n13 c14, .int .i64 v17.Bought, .int .i64 v17.Dropped, .int .i64 v17.Mended]) agg27 rfl (fun _ _ hu => ((hm148).lo hw').cell hu) rfl) <| QR.gcall rfl ent10 (fun w' hw' => (c_spec_IsLibrary w' v17 ((((hm149).lo hw').rd)) ((((hm150).lo hw').rd))).mono fun _ _ h => ⟨h.1, hw'.trans h.2⟩) rfl <| QR.g' rfl (fun w' hw' => r_neb_s und4 rfl rfl) <| QR.q' (fun w' hw' => r_pick false rfl (v := .bool _) rfl) <| QR.q' (fun w' hw' => r_mv (v := .bool _) rfl) <| QR.g' rfl (fun w' hw' => r_mv (v := .bool _) rfl) <| QR.g' rfl (fun w' hw' => r_mv (v := .bool _) rfl) <| QR.split (fun h165 => ?_) (fun h165 => ?_)
          · refine QR.g' rfl (fun w' hw' => r_lda (l := [.slice A66 n67 c68, .slice A70 n71 c72, .int .i64 (((impl_StepLibrary v17 v18).1).Bought), .int .i64 (((impl_StepLibrary v17 v18).1).Dropped), .int .i64 (((impl_StepLibrary v17 v18).1).Mended)]) agg27 rfl (fun _ _ hu => ((hm152).lo hw').cell hu) rfl) <| QR.gcall rfl ent9 (fun w' hw' => (c_impl_IsLibrary w' ((impl_StepLibrary v17 v18).1) ((((hm153).lo hw').rd)) ((((hm154).lo hw').rd)) (by omega)).mono fun _ _ h => ⟨h.1, hw'.trans h.2⟩) rfl <| QR.g' rfl (fun w' hw' => r_not rfl) <| QR.g' rfl (fun w' hw' => r_pick true rfl (v := .bool _) rfl) <| QR.q' (fun w' hw' => r_pick false rfl (v := .bool _) rfl) <| QR.nil ?_
            intro w166 hk167
            exact ⟨⟨rfl, rfl, rfl, rfl, rfl, rfl, (eND (((jat h165).trans (jmt h162)).trans (jof (ne_true_of_eq_false h157)))), trivial⟩, hk167⟩
          · refine QR.s' rfl <| QR.s' rfl <| QR.s' rfl <| QR.g' rfl (fun w' hw' => r_pick false rfl (v := .bool false) rfl) <| QR.q' (fun w' hw' => r_pick false rfl (v := .bool _) rfl) <| QR.nil ?_
            intro w168 hk169
            exact ⟨⟨rfl, rfl, rfl, rfl, rfl, rfl, (eDF (((jaf (ne_true_of_eq_false h165)).trans (jmt h162)).trans (jof (ne_true_of_eq_false h157))).2), trivial⟩, hk169⟩
    rintro f170 w171 ⟨hat172, hk173⟩
    rw [← sets_of_at hat172]
    have hz174 := hk173.size
    have hB175 := hB146.lo hk173
    refine W.cond_d rfl (fun h176 => ?_) (fun h176 => ?_)
    · refine W.seq ?_
      refine W.regS (SR.q' (r_as (v := .bool false) rfl) <| SR.nil ?_)
      refine W.ret ?_
      refine ret1 rfl (v := .bool _) rfl ?_
      exact ⟨eR (eB (z_c_laws_FnLibraries_177 L nL hbdL hleL h5 v17 v18 hq19 hq20 hq21 n9 hl24 hl25 n13 hl26 hl27 hq28 n67 hl77 hl78 hq79 n71 hl80 hl81 hq82 n111 hl121 hl122 hq123 n115 hl124 hl125 hq126 h176)), hB175⟩
    · have hq178 : ¬ ((!(((impl_StepLibrary v17 v18).2) == ((spec_StepLibrary v17 v18).2))) = true) := (not_or.1 h176).1
      have hq179 : ((impl_StepLibrary v17 v18).1) = ((spec_StepLibrary v17 v18).1) := (Classical.not_not.1 (not_or.1 (not_or.1 h176).2).1)
      have hq180 : ¬ ((((impl_StepLibrary v17 v18).2) = true) ∧ (¬ (LibOK ((impl_StepLibrary v17 v18).1)))) := (not_or.1 (not_or.1 h176).2).2
      refine W.skip ?_
      refine W.seq ?_
      refine W.seq ?_
      refine W.regS (SR.q' (r_mv (v := .bool _) rfl) <| SR.nil ?_)
      refine W.thenJ (fun f' w' => At f' [(0, .slice AL nL cL), (2, .bool false), (3, .pointer (pA g29)), (4, .pointer (pA g39)), (5, .pointer (pA g83)), (6, .bool ((impl_StepLibrary v17 v18).2))] ∧ Lo w171 w') ?_ ?_
      · refine W.cond_b rfl (fun h181 => ?_) (fun h181 => ?_)
        · refine W.seq ?_
          refine W.regS (SR.q' (r_lda (l := [.slice A66 n67 c68, .slice A70 n71 c72, .int .i64 (((impl_StepLibrary v17 v18).1).Bought), .int .i64 (((impl_StepLibrary v17 v18).1).Dropped), .int .i64 (((impl_StepLibrary v17 v18).1).Mended)]) agg27 rfl (fun _ _ hu => ((hm152).lo hk173).cell hu) rfl) <| SR.call ent11 (c_impl_CopiesThere w171 ((impl_StepLibrary v17 v18).1) ((((hm153).lo hk173).rd)) ((((hm154).lo hk173).rd)) (by omega)) rfl ?_)
          rintro e w182 ⟨rfl, hk183⟩
          refine ⟨_, rfl, ?_⟩
          have hz184 := hk183.size
          have hB185 := hB175.lo hk183
          have hJ186 := ((Lo.refl w171)).lo hk183
          refine SR.q' (r_mv (v := .tuple (List.toArray _)) rfl) <| SR.q' (r_ext (v := .int .i64 _) rfl rfl) <| SR.q' (r_ext (v := .bool _) rfl rfl) <| SR.q' (r_as (v := .int .i64 _) rfl) <| SR.q' (r_as (v := .bool _) rfl) <| SR.nil ?_
          refine W.seq ?_
          have hm188 := ((hm148).lo hk173).lo hk183
          have hm191 := ((hm151).lo hk173).lo hk183
          have hm192 := ((hm152).lo hk173).lo hk183
          refine W.regJS (fun f' w' => At f' [(0, .slice AL nL cL), (2, .bool false), (3, .pointer (pA g29)), (4, .pointer (pA g39)), (5, .pointer (pA g83)), (6, .bool ((impl_StepLibrary v17 v18).2)), (109, .bool (decide ((¬ (LibOK ((impl_StepLibrary v17 v18).1))) ∨ ((¬ ((((impl_StepLibrary v17 v18).1).Bought) = (IntKind.i64.wrap ((IntKind.i64.wrap ((if LibOK ((impl_StepLibrary v17 v18).1) then sumC ((impl_StepLibrary v17 v18).1).Maps else 0) + (n71 : Int))) + (((impl_StepLibrary v17 v18).1).Dropped))))) ∨ ((¬ (v18.Kind = 1)) ∧ (¬ ((((impl_StepLibrary v17 v18).1).Bought) = v17.Bought)))))))] ∧ Lo w182 w') ?_ ?_
          · refine SR.q' (r_mv (v := .bool _) rfl) <| SR.q' (r_not rfl) <| SR.q' (r_mv (v := .bool _) rfl) <| SR.splitN (fun h195 => ?_) (fun h195 => ?_)
            · refine SR.s' rfl <| SR.s' rfl <| SR.s' rfl <| SR.s' rfl <| SR.s' rfl <| SR.s' rfl <| SR.s' rfl <| SR.s' rfl <| SR.s' rfl <| SR.s' rfl <| SR.s' rfl <| SR.q' (r_pick true rfl (v := .bool true) rfl) <| SR.q' (r_mv (v := .bool _) rfl) <| SR.s' rfl <| SR.s' rfl <| SR.s' rfl <| SR.s' rfl <| SR.u' rfl <| SR.u' rfl <| SR.u' rfl <| SR.u' rfl <| SR.u' rfl <| SR.s' rfl <| SR.q' (r_pick true rfl (v := .bool true) rfl) <| SR.nil ?_
              exact ⟨_, rfl, ⟨⟨rfl, rfl, rfl, rfl, rfl, rfl, (eDT ((jmf h195).1 trivial)), trivial⟩, (Lo.refl _)⟩⟩
            · refine SR.g' rfl (r_fa fa27_2 rfl) <| SR.g' rfl (r_ld (v := .int .i64 (((impl_StepLibrary v17 v18).1).Bought)) sca3 rfl ((hm192).cell rfl)) <| SR.g' rfl (r_mv (v := .int .i64 _) rfl) <| SR.g' rfl (r_fa fa27_1 rfl) <| SR.g' rfl (r_ld (v := .slice A70 n71 c72) sca25 rfl ((hm192).cell rfl)) <| SR.g' rfl (r_len und25 rfl) <| SR.g' rfl (r_addW rfl rfl) <| SR.g' rfl (r_fa fa27_3 rfl) <| SR.g' rfl (r_ld (v := .int .i64 (((impl_StepLibrary v17 v18).1).Dropped)) sca3 rfl ((hm192).cell rfl)) <| SR.g' rfl (r_addW rfl rfl) <| SR.g' rfl (r_ne rfl rfl) <| SR.q' (r_pick false rfl (v := .bool _) rfl) <| SR.q' (r_mv (v := .bool _) rfl) <| SR.splitN (fun h196 => ?_) (fun h196 => ?_)
              · refine SR.s' rfl <| SR.s' rfl <| SR.s' rfl <| SR.s' rfl <| SR.u' rfl <| SR.u' rfl <| SR.u' rfl <| SR.u' rfl <| SR.u' rfl <| SR.s' rfl <| SR.q' (r_pick true rfl (v := .bool true) rfl) <| SR.nil ?_
                exact ⟨_, rfl, ⟨⟨rfl, rfl, rfl, rfl, rfl, rfl, (eDT (((jmf h196).trans (jmt h195)).1 trivial)), trivial⟩, (Lo.refl _)⟩⟩
              · refine SR.g' rfl (r_fa fa29_0 rfl) <| SR.g' rfl (r_ld (v := .int .i64 v18.Kind) sca3 rfl ((hm191).cell rfl)) <| SR.g' rfl (r_ne rfl rfl) <| SR.g' rfl (r_mv (v := .bool _) rfl) <| SR.splitN (fun h197 => ?_) (fun h197 => ?_)
                · refine SR.g' rfl (r_fa fa27_2 rfl) <| SR.g' rfl (r_ld (v := .int .i64 (((impl_StepLibrary v17 v18).1).Bought)) sca3 rfl ((hm192).cell rfl)) <| SR.g' rfl (r_fa fa27_2 rfl) <| SR.g' rfl (r_ld (v := .int .i64 v17.Bought) sca3 rfl ((hm188).cell rfl)) <| SR.g' rfl (r_ne rfl rfl) <| SR.g' rfl (r_pick true rfl (v := .bool _) rfl) <| SR.q' (r_pick false rfl (v := .bool _) rfl) <| SR.nil ?_
                  exact ⟨_, rfl, ⟨⟨rfl, rfl, rfl, rfl, rfl, rfl, (eND (((jnf h197).trans (jmt h196)).trans (jmt h195))), trivial⟩, (Lo.refl _)⟩⟩
                · refine SR.s' rfl <| SR.s' rfl <| SR.s' rfl <| SR.s' rfl <| SR.s' rfl <| SR.g' rfl (r_pick false rfl (v := .bool false) rfl) <| SR.q' (r_pick false rfl (v := .bool _) rfl) <| SR.nil ?_
                  exact ⟨_, rfl, ⟨⟨rfl, rfl, rfl, rfl, rfl, rfl, (eDF (((jnt h197).trans (jmt h196)).trans (jmt h195)).2), trivial⟩, (Lo.refl _)⟩⟩
          rintro f198 w199 ⟨hat200, hk201⟩
          rw [← sets_of_at hat200]
          have hz202 := hk201.size
          have hB203 := hB185.lo hk201
          have hJ204 := (hJ186).lo hk201
          refine W.cond_d rfl (fun h205 => ?_) (fun h205 => ?_)
          · refine W.seq ?_
            refine W.regS (SR.q' (r_as (v := .bool false) rfl) <| SR.nil ?_)
            refine W.ret ?_
            refine ret1 rfl (v := .bool _) rfl ?_
            exact ⟨eR (eB (z_c_laws_FnLibraries_206 L nL hbdL hleL h5 v17 v18 hq19 hq20 hq21 n9 hl24 hl25 n13 hl26 hl27 hq28 n67 hl77 hl78 hq79 n71 hl80 hl81 hq82 n111 hl121 hl122 hq123 n115 hl124 hl125 hq126 h176 hq178 hq179 hq180 h181 h205)), hB203⟩
          · have hq207 : LibOK ((impl_StepLibrary v17 v18).1) := (Classical.not_not.1 (not_or.1 h205).1)
            have hq208 : (((impl_StepLibrary v17 v18).1).Bought) = (IntKind.i64.wrap ((IntKind.i64.wrap ((if LibOK ((impl_StepLibrary v17 v18).1) then sumC ((impl_StepLibrary v17 v18).1).Maps else 0) + (n71 : Int))) + (((impl_StepLibrary v17 v18).1).Dropped))) := (Classical.not_not.1 (not_or.1 (not_or.1 h205).2).1)
            have hq209 : ¬ ((¬ (v18.Kind = 1)) ∧ (¬ ((((impl_StepLibrary v17 v18).1).Bought) = v17.Bought))) := (not_or.1 (not_or.1 h205).2).2
            refine W.skip ?_
            exact ⟨_, rfl, ⟨rfl, rfl, rfl, rfl, rfl, rfl, trivial⟩, hJ204⟩
        · refine W.skip ?_
          exact ⟨_, rfl, ⟨rfl, rfl, rfl, rfl, rfl, rfl, trivial⟩, (Lo.refl w171)⟩
      rintro f210 w211 ⟨hat212, hk213⟩
      rw [← sets_of_at hat212]
      have hz214 := hk213.size
      have hB215 := hB175.lo hk213
      refine W.seq ?_
      refine W.seq ?_
      have hm216 := ((hm147).lo hk173).lo hk213
      have hm217 := ((hm148).lo hk173).lo hk213
      have hm218 := ((hm149).lo hk173).lo hk213
      have hm219 := ((hm150).lo hk173).lo hk213
      have hm220 := ((hm151).lo hk173).lo hk213
      have hm221 := ((hm152).lo hk173).lo hk213
      have hm222 := ((hm153).lo hk173).lo hk213
      have hm223 := ((hm154).lo hk173).lo hk213
      refine W.regJS (fun f' w' => At f' [(0, .slice AL nL cL), (2, .bool false), (3, .pointer (pA g29)), (4, .pointer (pA g39)), (5, .pointer (pA g83)), (115, .bool (decide ((((impl_StepLibrary v17 v18).2) = true) ∧ (v18.Kind = 2))))] ∧ Lo w211 w') ?_ ?_
      · refine SR.q' (r_mv (v := .bool _) rfl) <| SR.q' (r_mv (v := .bool _) rfl) <| SR.split (fun h224 => ?_) (fun h224 => ?_)
        · refine SR.g' rfl (r_fa fa29_0 rfl) <| SR.g' rfl (r_ld (v := .int .i64 v18.Kind) sca3 rfl ((hm220).cell rfl)) <| SR.g' rfl (r_eq rfl rfl) <| SR.q' (r_pick true rfl (v := .bool _) rfl) <| SR.nil ?_
          exact ⟨_, rfl, ⟨⟨rfl, rfl, rfl, rfl, rfl, (eDD (jat h224)), trivial⟩, (Lo.refl _)⟩⟩
        · refine SR.s' rfl <| SR.s' rfl <| SR.s' rfl <| SR.q' (r_pick false rfl (v := .bool false) rfl) <| SR.nil ?_
          exact ⟨_, rfl, ⟨⟨rfl, rfl, rfl, rfl, rfl, (eDF (jaf (ne_true_of_eq_false h224)).2), trivial⟩, (Lo.refl _)⟩⟩
      rintro f225 w226 ⟨hat227, hk228⟩
      rw [← sets_of_at hat227]
      have hz229 := hk228.size
      have hB230 := hB215.lo hk228
      refine W.thenJ (fun f' w' => At f' [(0, .slice AL nL cL), (2, .bool false)] ∧ Lo w226 w') ?_ ?_
      · refine W.cond_d rfl (fun h231 => ?_) (fun h231 => ?_)
        · have hq232 : ((impl_StepLibrary v17 v18).2) = true := h231.1
          have hq233 : v18.Kind = 2 := h231.2
          refine W.seq ?_
          refine W.regS (SR.q' (r_lda (l := [.slice A8 n9 c10, .slice A12 n13 c14, .int .i64 v17.Bought, .int .i64 v17.Dropped, .int .i64 v17.Mended]) agg27 rfl (fun _ _ hu => ((hm217).lo hk228).cell hu) rfl) <| SR.call ent12 (c_impl_MayLend w226 v17 ((((hm218).lo hk228).rd)) ((((hm219).lo hk228).rd)) (by omega)) rfl ?_)
          rintro e w234 ⟨A236, n237, c238, rfl, hO239, hk235⟩
          refine ⟨_, rfl, ?_⟩
          have hz240 := hk235.size
          have hB241 := hB230.lo hk235
          have hJ242 := ((Lo.refl w226)).lo hk235
          have hl243 := hO239.len
          have hl244 := hO239.rd.bound
          have hq245 := selif_len (LibOK v17) mayM LMap.Id v17.Maps
          refine SR.q' (r_mv (v := .tuple (List.toArray _)) rfl) <| SR.q' (r_ext (v := .slice _ _ _) rfl rfl) <| SR.q' (r_ext (v := .bool _) rfl rfl) <| SR.q' (r_as (v := .slice _ _ _) rfl) <| SR.q' (r_as (v := .bool _) rfl) <| SR.nil ?_
          refine W.seq ?_
          have hm247 := ((hm217).lo hk228).lo hk235
          have hm248 := ((hm218).lo hk228).lo hk235
          have hm249 := ((hm219).lo hk228).lo hk235
          have hm250 := ((hm220).lo hk228).lo hk235
          have hm251 := ((hm221).lo hk228).lo hk235
          have hm252 := ((hm222).lo hk228).lo hk235
          have hm253 := ((hm223).lo hk228).lo hk235
          refine W.regS (SR.q' (r_lda (l := [.slice A66 n67 c68, .slice A70 n71 c72, .int .i64 (((impl_StepLibrary v17 v18).1).Bought), .int .i64 (((impl_StepLibrary v17 v18).1).Dropped), .int .i64 (((impl_StepLibrary v17 v18).1).Mended)]) agg27 rfl (fun _ _ hu => (hm251).cell hu) rfl) <| SR.q' (r_fa fa29_2 rfl) <| SR.q' (r_ld (v := .int .i64 v18.Reader) sca3 rfl ((hm250).cell rfl)) <| SR.call ent13 (c_impl_MapsAt w234 ((impl_StepLibrary v17 v18).1) (((hm252).rd)) (((hm253).rd)) v18.Reader (by omega)) rfl ?_)
          rintro e w254 ⟨A256, n257, c258, rfl, hO259, hk255⟩
          refine ⟨_, rfl, ?_⟩
          have hz260 := hk255.size
          have hB261 := hB241.lo hk255
          have hJ262 := (hJ242).lo hk255
          have hl263 := hO259.len
          have hl264 := hO259.rd.bound
          refine SR.q' (r_mv (v := .tuple (List.toArray _)) rfl) <| SR.q' (r_ext (v := .slice _ _ _) rfl rfl) <| SR.q' (r_ext (v := .bool _) rfl rfl) <| SR.q' (r_as (v := .slice _ _ _) rfl) <| SR.q' (r_as (v := .bool _) rfl) <| SR.nil ?_
          refine W.seq ?_
          refine W.regS (SR.q' (r_lda (l := [.slice A66 n67 c68, .slice A70 n71 c72, .int .i64 (((impl_StepLibrary v17 v18).1).Bought), .int .i64 (((impl_StepLibrary v17 v18).1).Dropped), .int .i64 (((impl_StepLibrary v17 v18).1).Mended)]) agg27 rfl (fun _ _ hu => ((hm251).lo hk255).cell hu) rfl) <| SR.q' (r_fa fa29_1 rfl) <| SR.q' (r_ld (v := .int .i64 v18.Id) sca3 rfl (((hm250).lo hk255).cell rfl)) <| SR.call ent14 (c_impl_ReadersOf w254 ((impl_StepLibrary v17 v18).1) ((((hm252).lo hk255).rd)) ((((hm253).lo hk255).rd)) v18.Id (by omega)) rfl ?_)
          rintro e w265 ⟨A267, n268, c269, rfl, hO270, hk266⟩
          refine ⟨_, rfl, ?_⟩
          have hz271 := hk266.size
          have hB272 := hB261.lo hk266
          have hJ273 := (hJ262).lo hk266
          have hl274 := hO270.len
          have hl275 := hO270.rd.bound
          refine SR.q' (r_mv (v := .tuple (List.toArray _)) rfl) <| SR.q' (r_ext (v := .slice _ _ _) rfl rfl) <| SR.q' (r_ext (v := .bool _) rfl rfl) <| SR.q' (r_as (v := .slice _ _ _) rfl) <| SR.q' (r_as (v := .bool _) rfl) <| SR.nil ?_
          refine W.seq ?_
          have hm277 := ((hm247).lo hk255).lo hk266
          have hm278 := ((hm248).lo hk255).lo hk266
          have hm279 := ((hm249).lo hk255).lo hk266
          have hm280 := ((hm250).lo hk255).lo hk266
          have hm281 := ((hm251).lo hk255).lo hk266
          have hm282 := ((hm252).lo hk255).lo hk266
          have hm283 := ((hm253).lo hk255).lo hk266
          have hm284 := ((hO239).lo hk255).lo hk266
          refine W.regS (SR.q' (r_lda (l := [.slice A8 n9 c10, .slice A12 n13 c14, .int .i64 v17.Bought, .int .i64 v17.Dropped, .int .i64 v17.Mended]) agg27 rfl (fun _ _ hu => (hm277).cell hu) rfl) <| SR.call ent15 (c_impl_TornCopies w265 v17 (((hm278).rd)) (((hm279).rd)) (by omega)) rfl ?_)
          rintro e w285 ⟨rfl, hk286⟩
          refine ⟨_, rfl, ?_⟩
          have hz287 := hk286.size
          have hB288 := hB272.lo hk286
          have hJ289 := (hJ273).lo hk286
          refine SR.q' (r_mv (v := .tuple (List.toArray _)) rfl) <| SR.q' (r_ext (v := .int .i64 _) rfl rfl) <| SR.q' (r_ext (v := .bool _) rfl rfl) <| SR.q' (r_as (v := .int .i64 _) rfl) <| SR.q' (r_as (v := .bool _) rfl) <| SR.nil ?_
          refine W.seq ?_
          have hm290 := ((hO259).lo hk266).lo hk286
          refine W.regS (SR.q' (r_lda (l := [.slice A66 n67 c68, .slice A70 n71 c72, .int .i64 (((impl_StepLibrary v17 v18).1).Bought), .int .i64 (((impl_StepLibrary v17 v18).1).Dropped), .int .i64 (((impl_StepLibrary v17 v18).1).Mended)]) agg27 rfl (fun _ _ hu => ((hm281).lo hk286).cell hu) rfl) <| SR.call ent15 (c_impl_TornCopies w285 ((impl_StepLibrary v17 v18).1) ((((hm282).lo hk286).rd)) ((((hm283).lo hk286).rd)) (by omega)) rfl ?_)
          rintro e w291 ⟨rfl, hk292⟩
          refine ⟨_, rfl, ?_⟩
          have hz293 := hk292.size
          have hB294 := hB288.lo hk292
          have hJ295 := (hJ289).lo hk292
          refine SR.q' (r_mv (v := .tuple (List.toArray _)) rfl) <| SR.q' (r_ext (v := .int .i64 _) rfl rfl) <| SR.q' (r_ext (v := .bool _) rfl rfl) <| SR.q' (r_as (v := .int .i64 _) rfl) <| SR.q' (r_as (v := .bool _) rfl) <| SR.nil ?_
          refine W.seq ?_
          have hm297 := ((hm280).lo hk286).lo hk292
          have hm298 := ((hm284).lo hk286).lo hk292
          have hm299 := ((hO270).lo hk286).lo hk292
          refine W.regJS (fun f' w' => At f' [(0, .slice AL nL cL), (2, .bool false), (188, .bool (decide ((¬ (LibOK v17)) ∨ ((¬ (v18.Id ∈ (if LibOK v17 then selL mayM LMap.Id v17.Maps else []))) ∨ ((¬ (LibOK ((impl_StepLibrary v17 v18).1) ∧ (1 ≤ v18.Reader ∧ v18.Reader ≤ 999))) ∨ ((¬ (v18.Id ∈ (if LibOK ((impl_StepLibrary v17 v18).1) ∧ (1 ≤ v18.Reader ∧ v18.Reader ≤ 999) then selL (atR v18.Reader) Away.Map ((impl_StepLibrary v17 v18).1).Away else []))) ∨ ((¬ (LibOK ((impl_StepLibrary v17 v18).1) ∧ 0 ≤ idxF (hasId v18.Id) ((impl_StepLibrary v17 v18).1).Maps)) ∨ ((¬ (v18.Reader ∈ (if LibOK ((impl_StepLibrary v17 v18).1) ∧ 0 ≤ idxF (hasId v18.Id) ((impl_StepLibrary v17 v18).1).Maps then selL (ofM v18.Id) Away.Reader ((impl_StepLibrary v17 v18).1).Away else []))) ∨ ((¬ (LibOK ((impl_StepLibrary v17 v18).1))) ∨ (¬ ((if LibOK v17 then sumT v17.Maps else 0) = (if LibOK ((impl_StepLibrary v17 v18).1) then sumT ((impl_StepLibrary v17 v18).1).Maps else 0))))))))))))] ∧ Lo w291 w') ?_ ?_
          · refine SR.q' (r_mv (v := .bool _) rfl) <| SR.q' (r_not rfl) <| SR.q' (r_mv (v := .bool _) rfl) <| SR.splitN (fun h300 => ?_) (fun h300 => ?_)
            · refine SR.s' rfl <| SR.s' rfl <| SR.s' rfl <| SR.s' rfl <| SR.s' rfl <| SR.q' (r_pick true rfl (v := .bool true) rfl) <| SR.q' (r_mv (v := .bool _) rfl) <| SR.s' rfl <| SR.s' rfl <| SR.q' (r_pick true rfl (v := .bool true) rfl) <| SR.q' (r_mv (v := .bool _) rfl) <| SR.s' rfl <| SR.s' rfl <| SR.s' rfl <| SR.s' rfl <| SR.s' rfl <| SR.q' (r_pick true rfl (v := .bool true) rfl) <| SR.q' (r_mv (v := .bool _) rfl) <| SR.s' rfl <| SR.s' rfl <| SR.q' (r_pick true rfl (v := .bool true) rfl) <| SR.q' (r_mv (v := .bool _) rfl) <| SR.s' rfl <| SR.s' rfl <| SR.s' rfl <| SR.s' rfl <| SR.s' rfl <| SR.q' (r_pick true rfl (v := .bool true) rfl) <| SR.q' (r_mv (v := .bool _) rfl) <| SR.s' rfl <| SR.s' rfl <| SR.q' (r_pick true rfl (v := .bool true) rfl) <| SR.q' (r_mv (v := .bool _) rfl) <| SR.s' rfl <| SR.s' rfl <| SR.q' (r_pick true rfl (v := .bool true) rfl) <| SR.q' (r_mv (v := .bool _) rfl) <| SR.s' rfl <| SR.s' rfl <| SR.s' rfl <| SR.q' (r_pick true rfl (v := .bool true) rfl) <| SR.nil ?_
              exact ⟨_, rfl, ⟨⟨rfl, rfl, (eDT ((jmf h300).1 trivial)), trivial⟩, (Lo.refl _)⟩⟩
            · have hq301 := And.left h300
              have hq302 := lib_len h300
              have hq303 := And.left hq301
              have hq304 := And.right hq301
              refine SR.g' rfl (r_mv (v := .slice _ _ _) rfl) <| SR.g' rfl (r_fa fa29_1 rfl) <| SR.g' rfl (r_ld (v := .int .i64 v18.Id) sca3 rfl ((hm297).cell rfl)) <| SR.gcall rfl ent16 (c_laws_vHas w291 (if LibOK v17 then selL mayM LMap.Id v17.Maps else []) (((hm298).rd)) v18.Id) rfl ?_
              rintro e w305 ⟨rfl, hk306⟩
              refine ⟨_, rfl, ?_⟩
              have hz307 := hk306.size
              have hB308 := hB294.lo hk306
              refine SR.g' rfl (r_not rfl) <| SR.q' (r_pick false rfl (v := .bool _) rfl) <| SR.q' (r_mv (v := .bool _) rfl) <| SR.splitN (fun h309 => ?_) (fun h309 => ?_)
              · refine SR.s' rfl <| SR.s' rfl <| SR.q' (r_pick true rfl (v := .bool true) rfl) <| SR.q' (r_mv (v := .bool _) rfl) <| SR.s' rfl <| SR.s' rfl <| SR.s' rfl <| SR.s' rfl <| SR.s' rfl <| SR.q' (r_pick true rfl (v := .bool true) rfl) <| SR.q' (r_mv (v := .bool _) rfl) <| SR.s' rfl <| SR.s' rfl <| SR.q' (r_pick true rfl (v := .bool true) rfl) <| SR.q' (r_mv (v := .bool _) rfl) <| SR.s' rfl <| SR.s' rfl <| SR.s' rfl <| SR.s' rfl <| SR.s' rfl <| SR.q' (r_pick true rfl (v := .bool true) rfl) <| SR.q' (r_mv (v := .bool _) rfl) <| SR.s' rfl <| SR.s' rfl <| SR.q' (r_pick true rfl (v := .bool true) rfl) <| SR.q' (r_mv (v := .bool _) rfl) <| SR.s' rfl <| SR.s' rfl <| SR.q' (r_pick true rfl (v := .bool true) rfl) <| SR.q' (r_mv (v := .bool _) rfl) <| SR.s' rfl <| SR.s' rfl <| SR.s' rfl <| SR.q' (r_pick true rfl (v := .bool true) rfl) <| SR.nil ?_
                exact ⟨_, rfl, ⟨⟨rfl, rfl, (eDT (((jmf h309).trans (jmt h300)).1 trivial)), trivial⟩, (hk306)⟩⟩
              · refine SR.g' rfl (r_mv (v := .bool _) rfl) <| SR.g' rfl (r_not rfl) <| SR.q' (r_pick false rfl (v := .bool _) rfl) <| SR.q' (r_mv (v := .bool _) rfl) <| SR.splitN (fun h310 => ?_) (fun h310 => ?_)
                · refine SR.s' rfl <| SR.s' rfl <| SR.s' rfl <| SR.s' rfl <| SR.s' rfl <| SR.q' (r_pick true rfl (v := .bool true) rfl) <| SR.q' (r_mv (v := .bool _) rfl) <| SR.s' rfl <| SR.s' rfl <| SR.q' (r_pick true rfl (v := .bool true) rfl) <| SR.q' (r_mv (v := .bool _) rfl) <| SR.s' rfl <| SR.s' rfl <| SR.s' rfl <| SR.s' rfl <| SR.s' rfl <| SR.q' (r_pick true rfl (v := .bool true) rfl) <| SR.q' (r_mv (v := .bool _) rfl) <| SR.s' rfl <| SR.s' rfl <| SR.q' (r_pick true rfl (v := .bool true) rfl) <| SR.q' (r_mv (v := .bool _) rfl) <| SR.s' rfl <| SR.s' rfl <| SR.q' (r_pick true rfl (v := .bool true) rfl) <| SR.q' (r_mv (v := .bool _) rfl) <| SR.s' rfl <| SR.s' rfl <| SR.s' rfl <| SR.q' (r_pick true rfl (v := .bool true) rfl) <| SR.nil ?_
                  exact ⟨_, rfl, ⟨⟨rfl, rfl, (eDT ((((jmf h310).trans (jmt h309)).trans (jmt h300)).1 trivial)), trivial⟩, (hk306)⟩⟩
                · refine SR.g' rfl (r_mv (v := .slice _ _ _) rfl) <| SR.g' rfl (r_fa fa29_1 rfl) <| SR.g' rfl (r_ld (v := .int .i64 v18.Id) sca3 rfl (((hm297).lo hk306).cell rfl)) <| SR.gcall rfl ent16 (c_laws_vHas w305 (if LibOK ((impl_StepLibrary v17 v18).1) ∧ (1 ≤ v18.Reader ∧ v18.Reader ≤ 999) then selL (atR v18.Reader) Away.Map ((impl_StepLibrary v17 v18).1).Away else []) (((((hm290).lo hk292).lo hk306).rd)) v18.Id) rfl ?_
                  rintro e w311 ⟨rfl, hk312⟩
                  refine ⟨_, rfl, ?_⟩
                  have hz313 := hk312.size
                  have hB314 := hB308.lo hk312
                  refine SR.g' rfl (r_not rfl) <| SR.q' (r_pick false rfl (v := .bool _) rfl) <| SR.q' (r_mv (v := .bool _) rfl) <| SR.splitN (fun h315 => ?_) (fun h315 => ?_)
                  · refine SR.s' rfl <| SR.s' rfl <| SR.q' (r_pick true rfl (v := .bool true) rfl) <| SR.q' (r_mv (v := .bool _) rfl) <| SR.s' rfl <| SR.s' rfl <| SR.s' rfl <| SR.s' rfl <| SR.s' rfl <| SR.q' (r_pick true rfl (v := .bool true) rfl) <| SR.q' (r_mv (v := .bool _) rfl) <| SR.s' rfl <| SR.s' rfl <| SR.q' (r_pick true rfl (v := .bool true) rfl) <| SR.q' (r_mv (v := .bool _) rfl) <| SR.s' rfl <| SR.s' rfl <| SR.q' (r_pick true rfl (v := .bool true) rfl) <| SR.q' (r_mv (v := .bool _) rfl) <| SR.s' rfl <| SR.s' rfl <| SR.s' rfl <| SR.q' (r_pick true rfl (v := .bool true) rfl) <| SR.nil ?_
                    exact ⟨_, rfl, ⟨⟨rfl, rfl, (eDT (((((jmf h315).trans (jmt h310)).trans (jmt h309)).trans (jmt h300)).1 trivial)), trivial⟩, ((hk306).trans hk312)⟩⟩
                  · refine SR.g' rfl (r_mv (v := .bool _) rfl) <| SR.g' rfl (r_not rfl) <| SR.q' (r_pick false rfl (v := .bool _) rfl) <| SR.q' (r_mv (v := .bool _) rfl) <| SR.splitN (fun h316 => ?_) (fun h316 => ?_)
                    · refine SR.s' rfl <| SR.s' rfl <| SR.s' rfl <| SR.s' rfl <| SR.s' rfl <| SR.q' (r_pick true rfl (v := .bool true) rfl) <| SR.q' (r_mv (v := .bool _) rfl) <| SR.s' rfl <| SR.s' rfl <| SR.q' (r_pick true rfl (v := .bool true) rfl) <| SR.q' (r_mv (v := .bool _) rfl) <| SR.s' rfl <| SR.s' rfl <| SR.q' (r_pick true rfl (v := .bool true) rfl) <| SR.q' (r_mv (v := .bool _) rfl) <| SR.s' rfl <| SR.s' rfl <| SR.s' rfl <| SR.q' (r_pick true rfl (v := .bool true) rfl) <| SR.nil ?_
                      exact ⟨_, rfl, ⟨⟨rfl, rfl, (eDT ((((((jmf h316).trans (jmt h315)).trans (jmt h310)).trans (jmt h309)).trans (jmt h300)).1 trivial)), trivial⟩, ((hk306).trans hk312)⟩⟩
                    · refine SR.g' rfl (r_mv (v := .slice _ _ _) rfl) <| SR.g' rfl (r_fa fa29_2 rfl) <| SR.g' rfl (r_ld (v := .int .i64 v18.Reader) sca3 rfl ((((hm297).lo hk306).lo hk312).cell rfl)) <| SR.gcall rfl ent16 (c_laws_vHas w311 (if LibOK ((impl_StepLibrary v17 v18).1) ∧ 0 ≤ idxF (hasId v18.Id) ((impl_StepLibrary v17 v18).1).Maps then selL (ofM v18.Id) Away.Reader ((impl_StepLibrary v17 v18).1).Away else []) (((((hm299).lo hk306).lo hk312).rd)) v18.Reader) rfl ?_
                      rintro e w317 ⟨rfl, hk318⟩
                      refine ⟨_, rfl, ?_⟩
                      have hz319 := hk318.size
                      have hB320 := hB314.lo hk318
                      refine SR.g' rfl (r_not rfl) <| SR.q' (r_pick false rfl (v := .bool _) rfl) <| SR.q' (r_mv (v := .bool _) rfl) <| SR.splitN (fun h321 => ?_) (fun h321 => ?_)
                      · refine SR.s' rfl <| SR.s' rfl <| SR.q' (r_pick true rfl (v := .bool true) rfl) <| SR.q' (r_mv (v := .bool _) rfl) <| SR.s' rfl <| SR.s' rfl <| SR.q' (r_pick true rfl (v := .bool true) rfl) <| SR.q' (r_mv (v := .bool _) rfl) <| SR.s' rfl <| SR.s' rfl <| SR.s' rfl <| SR.q' (r_pick true rfl (v := .bool true) rfl) <| SR.nil ?_
                        exact ⟨_, rfl, ⟨⟨rfl, rfl, (eDT (((((((jmf h321).trans (jmt h316)).trans (jmt h315)).trans (jmt h310)).trans (jmt h309)).trans (jmt h300)).1 trivial)), trivial⟩, (((hk306).trans hk312).trans hk318)⟩⟩
                      · refine SR.g' rfl (r_mv (v := .bool _) rfl) <| SR.g' rfl (r_not rfl) <| SR.q' (r_pick false rfl (v := .bool _) rfl) <| SR.q' (r_mv (v := .bool _) rfl) <| SR.known (not_decide_t h300) <| SR.g' rfl (r_mv (v := .bool _) rfl) <| SR.g' rfl (r_not rfl) <| SR.q' (r_pick false rfl (v := .bool _) rfl) <| SR.q' (r_mv (v := .bool _) rfl) <| SR.splitN (fun h322 => ?_) (fun h322 => ?_)
                        · refine SR.s' rfl <| SR.s' rfl <| SR.s' rfl <| SR.q' (r_pick true rfl (v := .bool true) rfl) <| SR.nil ?_
                          exact ⟨_, rfl, ⟨⟨rfl, rfl, (eDT ((((((((jmf h322).trans (jmt h321)).trans (jmt h316)).trans (jmt h315)).trans (jmt h310)).trans (jmt h309)).trans (jmt h300)).1 trivial)), trivial⟩, (((hk306).trans hk312).trans hk318)⟩⟩
                        · refine SR.g' rfl (r_mv (v := .int .i64 _) rfl) <| SR.g' rfl (r_mv (v := .int .i64 _) rfl) <| SR.g' rfl (r_ne rfl rfl) <| SR.q' (r_pick false rfl (v := .bool _) rfl) <| SR.nil ?_
                          exact ⟨_, rfl, ⟨⟨rfl, rfl, (eND (((((((jmt h322).trans (jmt h321)).trans (jmt h316)).trans (jmt h315)).trans (jmt h310)).trans (jmt h309)).trans (jmt h300))), trivial⟩, (((hk306).trans hk312).trans hk318)⟩⟩
          rintro f323 w324 ⟨hat325, hk326⟩
          rw [← sets_of_at hat325]
          have hz327 := hk326.size
          have hB328 := hB294.lo hk326
          have hJ329 := (hJ295).lo hk326
          refine W.cond_d rfl (fun h330 => ?_) (fun h330 => ?_)
          · refine W.seq ?_
            refine W.regS (SR.q' (r_as (v := .bool false) rfl) <| SR.nil ?_)
            refine W.ret ?_
            refine ret1 rfl (v := .bool _) rfl ?_
            exact ⟨eR (eB (z_c_laws_FnLibraries_331 L nL hbdL hleL h5 v17 v18 hq19 hq20 hq21 n9 hl24 hl25 n13 hl26 hl27 hq28 n67 hl77 hl78 hq79 n71 hl80 hl81 hq82 n111 hl121 hl122 hq123 n115 hl124 hl125 hq126 h176 hq178 hq179 hq180 h231 hq232 hq233 n237 hl243 hl244 hq245 n257 hl263 hl264 n268 hl274 hl275 h330)), hB328⟩
          · have hq332 : LibOK v17 := (Classical.not_not.1 (not_or.1 h330).1)
            have hq333 : v18.Id ∈ (if LibOK v17 then selL mayM LMap.Id v17.Maps else []) := (Classical.not_not.1 (not_or.1 (not_or.1 h330).2).1)
            have hq334 : LibOK ((impl_StepLibrary v17 v18).1) ∧ (1 ≤ v18.Reader ∧ v18.Reader ≤ 999) := (Classical.not_not.1 (not_or.1 (not_or.1 (not_or.1 h330).2).2).1)
            have hq335 : v18.Id ∈ (if LibOK ((impl_StepLibrary v17 v18).1) ∧ (1 ≤ v18.Reader ∧ v18.Reader ≤ 999) then selL (atR v18.Reader) Away.Map ((impl_StepLibrary v17 v18).1).Away else []) := (Classical.not_not.1 (not_or.1 (not_or.1 (not_or.1 (not_or.1 h330).2).2).2).1)
            have hq336 : LibOK ((impl_StepLibrary v17 v18).1) ∧ 0 ≤ idxF (hasId v18.Id) ((impl_StepLibrary v17 v18).1).Maps := (Classical.not_not.1 (not_or.1 (not_or.1 (not_or.1 (not_or.1 (not_or.1 h330).2).2).2).2).1)
            have hq337 : v18.Reader ∈ (if LibOK ((impl_StepLibrary v17 v18).1) ∧ 0 ≤ idxF (hasId v18.Id) ((impl_StepLibrary v17 v18).1).Maps then selL (ofM v18.Id) Away.Reader ((impl_StepLibrary v17 v18).1).Away else []) := (Classical.not_not.1 (not_or.1 (not_or.1 (not_or.1 (not_or.1 (not_or.1 (not_or.1 h330).2).2).2).2).2).1)
            have hq338 : LibOK ((impl_StepLibrary v17 v18).1) := (Classical.not_not.1 (not_or.1 (not_or.1 (not_or.1 (not_or.1 (not_or.1 (not_or.1 (not_or.1 h330).2).2).2).2).2).2).1)
            have hq339 : (if LibOK v17 then sumT v17.Maps else 0) = (if LibOK ((impl_StepLibrary v17 v18).1) then sumT ((impl_StepLibrary v17 v18).1).Maps else 0) := (Classical.not_not.1 (not_or.1 (not_or.1 (not_or.1 (not_or.1 (not_or.1 (not_or.1 (not_or.1 h330).2).2).2).2).2).2).2)
            have hq340 := And.left hq332
            have hq341 := lib_len hq332
            have hq342 := And.left hq340
            have hq343 := And.right hq340
            refine W.skip ?_
            exact ⟨_, rfl, ⟨rfl, rfl, trivial⟩, hJ329⟩
        · refine W.skip ?_
          exact ⟨_, rfl, ⟨rfl, rfl, trivial⟩, (Lo.refl w226)⟩
      rintro f344 w345 ⟨hat346, hk347⟩
      rw [← sets_of_at hat346]
      have hz348 := hk347.size
      have hB349 := hB230.lo hk347
      refine W.seq ?_
      have hm350 := ((hm216).lo hk228).lo hk347
      refine W.regS (SR.q' (r_mv (v := .slice _ _ _) rfl) <| SR.call ent17 (c_spec_DrawRunLibrary w345 L ((hm350)) (by omega)) rfl ?_)
      rintro e w351 ⟨A353, n354, c355, A357, n358, c359, A361, n362, c363, v368, v369, rfl, hO356, hO360, hO364, hd365, hd366, hd367, hq370, hq371, hq372, hq373, hk352⟩
      refine ⟨_, rfl, ?_⟩
      have hz374 := hk352.size
      have hB375 := hB349.lo hk352
      have hl376 := hO356.len
      have hl377 := hO356.rd.bound
      have hl378 := hO360.len
      have hl379 := hO360.rd.bound
      have hl380 := hO364.len
      have hl381 := hO364.rd.bound
      refine SR.q' (r_mv (v := .tuple (List.toArray _)) rfl) <| SR.q' (r_ext (v := .agg (List.toArray _)) rfl rfl) <| SR.q' (r_ext (v := .slice _ _ _) rfl rfl) <| SR.alloc (l := [.slice none 0 0, .slice none 0 0, .int .i64 0, .int .i64 0, .int .i64 0]) tz27 rfl ?_
      intro g382 w383 hg384 hk385 hs386 hb387
      have hz388 := hk385.size
      have hB389 := hB375.lo hk385
      have hd396 : ¬ A353 = some ⟨g382, 0, none⟩ := fun e' => by have := (hO356).base_le e'; omega
      have hd397 : ¬ A357 = some ⟨g382, 0, none⟩ := fun e' => by have := (hO360).base_le e'; omega
      have hd398 : ¬ A361 = some ⟨g382, 0, none⟩ := fun e' => by have := (hO364).base_le e'; omega
      refine SR.store (o := 0) (vs := [.slice A353 n354 c355, .slice A357 n358 c359, .int .i64 v368.Bought, .int .i64 v368.Dropped, .int .i64 v368.Mended]) agg27.2 rfl rfl rfl rfl (hb387) (Nat.le_of_ble_eq_true rfl) rfl ?_
      intro w399 hk400 hs401 hb402
      have hz403 := hk400.size
      have hB404 := hB389.new hk400 (by omega)
      refine SR.q' (r_as (v := .slice _ _ _) rfl) <| SR.nil ?_
      refine W.seq ?_
      have hm405 := ((hO356).lo hk385).kd hk400 hd396
      have hm406 := ((hO360).lo hk385).kd hk400 hd397
      have hm407 := ((hO364).lo hk385).kd hk400 hd398
      refine W.regS (SR.q' (r_lda (l := [.slice A353 n354 c355, .slice A357 n358 c359, .int .i64 v368.Bought, .int .i64 v368.Dropped, .int .i64 v368.Mended]) agg27 rfl (fun _ _ hu => (hb402).cell hu) rfl) <| SR.q' (r_mv (v := .slice _ _ _) rfl) <| SR.call ent18 (c_impl_RunLibrary w399 v368 (((hm405).rd)) (((hm406).rd)) v369 (((hm407).rd)) (by omega)) rfl ?_)
      rintro e w408 ⟨A410, n411, c412, A414, n415, c416, rfl, hO413, hO417, hd418, hk409⟩
      refine ⟨_, rfl, ?_⟩
      have hz419 := hk409.size
      have hB420 := hB404.lo hk409
      have hl421 := hO413.len
      have hl422 := hO413.rd.bound
      have hq423 := runFL_lenM v368 v369
      have hl424 := hO417.len
      have hl425 := hO417.rd.bound
      have hq426 := runFL_lenA v368 v369
      refine SR.q' (r_mv (v := .tuple (List.toArray _)) rfl) <| SR.q' (r_ext (v := .agg (List.toArray _)) rfl rfl) <| SR.q' (r_ext (v := .int .i64 _) rfl rfl) <| SR.q' (r_ext (v := .bool _) rfl rfl) <| SR.alloc (l := [.slice none 0 0, .slice none 0 0, .int .i64 0, .int .i64 0, .int .i64 0]) tz27 rfl ?_
      intro g427 w428 hg429 hk430 hs431 hb432
      have hz433 := hk430.size
      have hB434 := hB420.lo hk430
      have hd441 : ¬ A353 = some ⟨g427, 0, none⟩ := fun e' => by have := ((hm405).lo hk409).base_le e'; omega
      have hd442 : ¬ A357 = some ⟨g427, 0, none⟩ := fun e' => by have := ((hm406).lo hk409).base_le e'; omega
      have hd443 : ¬ A361 = some ⟨g427, 0, none⟩ := fun e' => by have := ((hm407).lo hk409).base_le e'; omega
      have hd444 : ¬ A410 = some ⟨g427, 0, none⟩ := fun e' => by have := (hO413).base_le e'; omega
      have hd445 : ¬ A414 = some ⟨g427, 0, none⟩ := fun e' => by have := (hO417).base_le e'; omega
      refine SR.store (o := 0) (vs := [.slice A410 n411 c412, .slice A414 n415 c416, .int .i64 (((runFL v368 v369).1).Bought), .int .i64 (((runFL v368 v369).1).Dropped), .int .i64 (((runFL v368 v369).1).Mended)]) agg27.2 rfl rfl rfl rfl (hb432) (Nat.le_of_ble_eq_true rfl) rfl ?_
      intro w446 hk447 hs448 hb449
      have hz450 := hk447.size
      have hB451 := hB434.new hk447 (by omega)
      refine SR.q' (r_as (v := .int .i64 _) rfl) <| SR.q' (r_as (v := .bool _) rfl) <| SR.nil ?_
      refine W.seq ?_
      refine W.seq ?_
      have hm452 := (((hb402).lo hk409).lo hk430).kn hk447 (by omega)
      have hm453 := (((hm405).lo hk409).lo hk430).kd hk447 hd441
      have hm454 := (((hm406).lo hk409).lo hk430).kd hk447 hd442
      have hm455 := (((hm407).lo hk409).lo hk430).kd hk447 hd443
      have hm456 := ((hO413).lo hk430).kd hk447 hd444
      have hm457 := ((hO417).lo hk430).kd hk447 hd445
      refine W.regS (SR.q' (r_lda (l := [.slice A353 n354 c355, .slice A357 n358 c359, .int .i64 v368.Bought, .int .i64 v368.Dropped, .int .i64 v368.Mended]) agg27 rfl (fun _ _ hu => (hm452).cell hu) rfl) <| SR.q' (r_mv (v := .slice _ _ _) rfl) <| SR.call ent19 (c_spec_RunLibrary w446 v368 (((hm453).rd)) (((hm454).rd)) v369 (((hm455).rd)) (by assumption)) rfl ?_)
      rintro e w458 ⟨A460, n461, c462, A464, n465, c466, rfl, hO463, hO467, hd468, hk459⟩
      refine ⟨_, rfl, ?_⟩
      have hz469 := hk459.size
      have hB470 := hB451.lo hk459
      have hl471 := hO463.len
      have hl472 := hO463.rd.bound
      have hq473 := runFL_lenM v368 v369
      have hl474 := hO467.len
      have hl475 := hO467.rd.bound
      have hq476 := runFL_lenA v368 v369
      refine SR.q' (r_mv (v := .tuple (List.toArray _)) rfl) <| SR.q' (r_ext (v := .agg (List.toArray _)) rfl rfl) <| SR.q' (r_ext (v := .int .i64 _) rfl rfl) <| SR.q' (r_ext (v := .bool _) rfl rfl) <| SR.alloc (l := [.slice none 0 0, .slice none 0 0, .int .i64 0, .int .i64 0, .int .i64 0]) tz27 rfl ?_
      intro g477 w478 hg479 hk480 hs481 hb482
      have hz483 := hk480.size
      have hB484 := hB470.lo hk480
      have hd491 : ¬ A353 = some ⟨g477, 0, none⟩ := fun e' => by have := ((hm453).lo hk459).base_le e'; omega
      have hd492 : ¬ A357 = some ⟨g477, 0, none⟩ := fun e' => by have := ((hm454).lo hk459).base_le e'; omega
      have hd493 : ¬ A361 = some ⟨g477, 0, none⟩ := fun e' => by have := ((hm455).lo hk459).base_le e'; omega
      have hd494 : ¬ A410 = some ⟨g477, 0, none⟩ := fun e' => by have := ((hm456).lo hk459).base_le e'; omega
      have hd495 : ¬ A414 = some ⟨g477, 0, none⟩ := fun e' => by have := ((hm457).lo hk459).base_le e'; omega
      have hd496 : ¬ A460 = some ⟨g477, 0, none⟩ := fun e' => by have := (hO463).base_le e'; omega
      have hd497 : ¬ A464 = some ⟨g477, 0, none⟩ := fun e' => by have := (hO467).base_le e'; omega
      refine SR.store (o := 0) (vs := [.slice A460 n461 c462, .slice A464 n465 c466, .int .i64 (((runFL v368 v369).1).Bought), .int .i64 (((runFL v368 v369).1).Dropped), .int .i64 (((runFL v368 v369).1).Mended)]) agg27.2 rfl rfl rfl rfl (hb482) (Nat.le_of_ble_eq_true rfl) rfl ?_
      intro w498 hk499 hs500 hb501
      have hz502 := hk499.size
      have hB503 := hB484.new hk499 (by omega)
      refine SR.q' (r_as (v := .int .i64 _) rfl) <| SR.q' (r_as (v := .bool _) rfl) <| SR.nil ?_
      refine W.seq ?_
      have hm504 := (((hm452).lo hk459).lo hk480).kn hk499 (by omega)
      have hm505 := (((hm453).lo hk459).lo hk480).kd hk499 hd491
      have hm506 := (((hm454).lo hk459).lo hk480).kd hk499 hd492
      have hm507 := (((hm455).lo hk459).lo hk480).kd hk499 hd493
      have hm508 := (((hb449).lo hk459).lo hk480).kn hk499 (by omega)
      have hm509 := (((hm456).lo hk459).lo hk480).kd hk499 hd494
      have hm510 := (((hm457).lo hk459).lo hk480).kd hk499 hd495
      have hm511 := ((hO463).lo hk480).kd hk499 hd496
      have hm512 := ((hO467).lo hk480).kd hk499 hd497
      refine W.regS (SR.q' (r_mv (v := .bool _) rfl) <| SR.q' (r_mv (v := .bool _) rfl) <| SR.q' (r_neb_s und4 rfl rfl) <| SR.q' (r_mv (v := .bool _) rfl) <| SR.g' rfl (r_mv (v := .int .i64 _) rfl) <| SR.g' rfl (r_mv (v := .int .i64 _) rfl) <| SR.g' rfl (r_ne_s rfl rfl) <| SR.q' (r_pick false rfl (v := .bool _) rfl) <| SR.q' (r_mv (v := .bool _) rfl) <| SR.g' rfl (r_lda (l := [.slice A410 n411 c412, .slice A414 n415 c416, .int .i64 (((runFL v368 v369).1).Bought), .int .i64 (((runFL v368 v369).1).Dropped), .int .i64 (((runFL v368 v369).1).Mended)]) agg27 rfl (fun _ _ hu => (hm508).cell hu) rfl) <| SR.g' rfl (r_lda (l := [.slice A460 n461 c462, .slice A464 n465 c466, .int .i64 (((runFL v368 v369).1).Bought), .int .i64 (((runFL v368 v369).1).Dropped), .int .i64 (((runFL v368 v369).1).Mended)]) agg27 rfl (fun _ _ hu => (hb501).cell hu) rfl) <| SR.gcall rfl ent8 (c_laws_vLibrary w498 ((runFL v368 v369).1) (((hm509).rd)) (((hm510).rd)) ((runFL v368 v369).1) (((hm511).rd)) (((hm512).rd))) rfl ?_)
      rintro e w513 ⟨rfl, hk514⟩
      refine ⟨_, rfl, ?_⟩
      have hz515 := hk514.size
      have hB516 := hB503.lo hk514
      refine SR.g' rfl (r_not rfl) <| SR.q' (r_pick false rfl (v := .bool _) rfl) <| SR.nil ?_
      refine W.cond_n rfl (fun h517 => ?_) (fun h517 => ?_)
      · refine W.seq ?_
        refine W.regS (SR.q' (r_as (v := .bool false) rfl) <| SR.nil ?_)
        refine W.ret ?_
        refine ret1 rfl (v := .bool _) rfl ?_
        exact ⟨eR (eB (z_c_laws_FnLibraries_518 L nL hbdL hleL h5 v17 v18 hq19 hq20 hq21 n9 hl24 hl25 n13 hl26 hl27 hq28 n67 hl77 hl78 hq79 n71 hl80 hl81 hq82 n111 hl121 hl122 hq123 n115 hl124 hl125 hq126 h176 hq178 hq179 hq180 v368 v369 hq370 hq371 hq372 hq373 n354 hl376 hl377 n358 hl378 hl379 n362 hl380 hl381 n411 hl421 hl422 hq423 n415 hl424 hl425 hq426 n461 hl471 hl472 hq473 n465 hl474 hl475 hq476 h517)), hB516⟩
      · refine W.skip ?_
        refine W.seq ?_
        refine W.seq ?_
        refine W.regS (SR.q' (r_mv (v := .bool _) rfl) <| SR.nil ?_)
        refine W.cond_b rfl (fun h519 => ?_) (fun h519 => ?_)
        · refine W.seq ?_
          refine W.regS (SR.q' (r_lda (l := [.slice A353 n354 c355, .slice A357 n358 c359, .int .i64 v368.Bought, .int .i64 v368.Dropped, .int .i64 v368.Mended]) agg27 rfl (fun _ _ hu => ((hm504).lo hk514).cell hu) rfl) <| SR.alloc (l := [.slice none 0 0, .slice none 0 0, .int .i64 0, .int .i64 0, .int .i64 0]) tz27 rfl ?_)
          intro g520 w521 hg522 hk523 hs524 hb525
          have hz526 := hk523.size
          have hB527 := hB516.lo hk523
          have hd534 : ¬ A353 = some ⟨g520, 0, none⟩ := fun e' => by have := ((hm505).lo hk514).base_le e'; omega
          have hd535 : ¬ A357 = some ⟨g520, 0, none⟩ := fun e' => by have := ((hm506).lo hk514).base_le e'; omega
          have hd536 : ¬ A361 = some ⟨g520, 0, none⟩ := fun e' => by have := ((hm507).lo hk514).base_le e'; omega
          have hd537 : ¬ A410 = some ⟨g520, 0, none⟩ := fun e' => by have := ((hm509).lo hk514).base_le e'; omega
          have hd538 : ¬ A414 = some ⟨g520, 0, none⟩ := fun e' => by have := ((hm510).lo hk514).base_le e'; omega
          refine SR.store (o := 0) (vs := [.slice A353 n354 c355, .slice A357 n358 c359, .int .i64 v368.Bought, .int .i64 v368.Dropped, .int .i64 v368.Mended]) agg27.2 rfl rfl rfl rfl (hb525) (Nat.le_of_ble_eq_true rfl) rfl ?_
          intro w541 hk542 hs543 hb544
          have hz545 := hk542.size
          have hB546 := hB527.new hk542 (by omega)
          refine SR.q' (r_as (v := .int .i64 0) rfl) <| SR.nil ?_
          refine W.seq ?_
          refine W.seq ?_
          have hm547 := (((hm507).lo hk514).lo hk523).kd hk542 hd536
          have hm548 := (((hm508).lo hk514).lo hk523).kn hk542 (by omega)
          have hm549 := (((hm509).lo hk514).lo hk523).kd hk542 hd537
          have hm550 := (((hm510).lo hk514).lo hk523).kd hk542 hd538
          have hm551 := (((hm505).lo hk514).lo hk523).kd hk542 hd534
          have hm552 := (((hm506).lo hk514).lo hk523).kd hk542 hd535
          refine W.regS (SR.q' (r_as (v := .int .i64 0) rfl) <| SR.nil ?_)
          refine W.block ?_
          refine W.loop (σ := Nat × Library × Int × (Option Addr) × Nat × Nat × (Option Addr) × Nat × Nat) (fun g => [(2, .bool false), (22, .slice A361 n362 c363), (23, .pointer (pA g427)), (24, .int .i64 ((runFL v368 v369).2.1)), (29, .pointer (pA g520)), (30, .int .i64 g.2.2.1), (31, .int .i64 (g.1 : Int))]) (fun g w' => (Lo w w') ∧ (SlO w' w345.heap.size encLibraryStep 4 29 A361 n362 c363 v369) ∧ (Blk w' g427 27 [.slice A410 n411 c412, .slice A414 n415 c416, .int .i64 (((runFL v368 v369).1).Bought), .int .i64 (((runFL v368 v369).1).Dropped), .int .i64 (((runFL v368 v369).1).Mended)]) ∧ (SlO w' w399.heap.size encLMap 3 59 A410 n411 c412 (((runFL v368 v369).1).Maps)) ∧ (SlO w' w399.heap.size encAway 2 63 A414 n415 c416 (((runFL v368 v369).1).Away)) ∧ (Blk w' g520 27 [.slice g.2.2.2.1 g.2.2.2.2.1 g.2.2.2.2.2.1, .slice g.2.2.2.2.2.2.1 g.2.2.2.2.2.2.2.1 g.2.2.2.2.2.2.2.2, .int .i64 g.2.1.Bought, .int .i64 g.2.1.Dropped, .int .i64 g.2.1.Mended]) ∧ (SlO w' w.heap.size encLMap 3 59 g.2.2.2.1 g.2.2.2.2.1 g.2.2.2.2.2.1 g.2.1.Maps) ∧ (SlO w' w.heap.size encAway 2 63 g.2.2.2.2.2.2.1 g.2.2.2.2.2.2.2.1 g.2.2.2.2.2.2.2.2 g.2.1.Away) ∧ (∀ b_, g.2.2.2.1 = some ⟨b_, 0, none⟩ → ¬ A361 = some ⟨b_, 0, none⟩) ∧ (¬ g.2.2.2.1 = some ⟨g427, 0, none⟩) ∧ (∀ b_, g.2.2.2.1 = some ⟨b_, 0, none⟩ → ¬ A410 = some ⟨b_, 0, none⟩) ∧ (∀ b_, g.2.2.2.1 = some ⟨b_, 0, none⟩ → ¬ A414 = some ⟨b_, 0, none⟩) ∧ (¬ g.2.2.2.1 = some ⟨g520, 0, none⟩) ∧ (∀ b_, g.2.2.2.1 = some ⟨b_, 0, none⟩ → ¬ g.2.2.2.2.2.2.1 = some ⟨b_, 0, none⟩) ∧ (∀ b_, g.2.2.2.2.2.2.1 = some ⟨b_, 0, none⟩ → ¬ A361 = some ⟨b_, 0, none⟩) ∧ (¬ g.2.2.2.2.2.2.1 = some ⟨g427, 0, none⟩) ∧ (∀ b_, g.2.2.2.2.2.2.1 = some ⟨b_, 0, none⟩ → ¬ A410 = some ⟨b_, 0, none⟩) ∧ (∀ b_, g.2.2.2.2.2.2.1 = some ⟨b_, 0, none⟩ → ¬ A414 = some ⟨b_, 0, none⟩) ∧ (¬ g.2.2.2.2.2.2.1 = some ⟨g520, 0, none⟩) ∧ ((g.1 ≤ v369.length ∧ 0 ≤ g.2.2.1 ∧ g.2.2.1 ≤ (g.1 : Int)) ∧ runToL v368 v369 g.1 = (g.2.1, g.2.2.1) ∧ LibOK g.2.1)) (fun g => 60 - g.1) (0, v368, (0 : Int), A353, n354, c355, A357, n358, c359) ?_ ?_ ?_
          · exact ⟨rfl, rfl, rfl, rfl, rfl, (eI (by first | (first | omega | rfl) | (dsimp only; (first | omega | rfl)))), (eI (by first | (first | omega | rfl) | (dsimp only; (first | omega | rfl)))), trivial⟩
          · show (Lo w w541) ∧ (SlO w541 w345.heap.size encLibraryStep 4 29 A361 n362 c363 v369) ∧ (Blk w541 g427 27 [.slice A410 n411 c412, .slice A414 n415 c416, .int .i64 (((runFL v368 v369).1).Bought), .int .i64 (((runFL v368 v369).1).Dropped), .int .i64 (((runFL v368 v369).1).Mended)]) ∧ (SlO w541 w399.heap.size encLMap 3 59 A410 n411 c412 (((runFL v368 v369).1).Maps)) ∧ (SlO w541 w399.heap.size encAway 2 63 A414 n415 c416 (((runFL v368 v369).1).Away)) ∧ (Blk w541 g520 27 [.slice A353 n354 c355, .slice A357 n358 c359, .int .i64 v368.Bought, .int .i64 v368.Dropped, .int .i64 v368.Mended]) ∧ (SlO w541 w.heap.size encLMap 3 59 A353 n354 c355 v368.Maps) ∧ (SlO w541 w.heap.size encAway 2 63 A357 n358 c359 v368.Away) ∧ (∀ b_, A353 = some ⟨b_, 0, none⟩ → ¬ A361 = some ⟨b_, 0, none⟩) ∧ (¬ A353 = some ⟨g427, 0, none⟩) ∧ (∀ b_, A353 = some ⟨b_, 0, none⟩ → ¬ A410 = some ⟨b_, 0, none⟩) ∧ (∀ b_, A353 = some ⟨b_, 0, none⟩ → ¬ A414 = some ⟨b_, 0, none⟩) ∧ (¬ A353 = some ⟨g520, 0, none⟩) ∧ (∀ b_, A353 = some ⟨b_, 0, none⟩ → ¬ A357 = some ⟨b_, 0, none⟩) ∧ (∀ b_, A357 = some ⟨b_, 0, none⟩ → ¬ A361 = some ⟨b_, 0, none⟩) ∧ (¬ A357 = some ⟨g427, 0, none⟩) ∧ (∀ b_, A357 = some ⟨b_, 0, none⟩ → ¬ A410 = some ⟨b_, 0, none⟩) ∧ (∀ b_, A357 = some ⟨b_, 0, none⟩ → ¬ A414 = some ⟨b_, 0, none⟩) ∧ (¬ A357 = some ⟨g520, 0, none⟩) ∧ ((0 ≤ v369.length ∧ 0 ≤ (0 : Int) ∧ (0 : Int) ≤ (0 : Int)) ∧ runToL v368 v369 0 = (v368, (0 : Int)) ∧ LibOK v368)
            exact ⟨hB546, hm547, hm548, hm549, hm550, (hb544), ((hm551).down (by omega)), ((hm552).down (by omega)), hd366, hd441, (fun b_ h h' => by have h1 := (hm405).base_le h; have h2 := (hm549).base_le h'; omega), (fun b_ h h' => by have h1 := (hm405).base_le h; have h2 := (hm550).base_le h'; omega), hd534, hd365, hd367, hd442, (fun b_ h h' => by have h1 := (hm406).base_le h; have h2 := (hm549).base_le h'; omega), (fun b_ h h' => by have h1 := (hm406).base_le h; have h2 := (hm550).base_le h'; omega), hd535, (z_c_laws_FnLibraries_555 L nL hbdL hleL h5 v17 v18 hq19 hq20 hq21 n9 hl24 hl25 n13 hl26 hl27 hq28 n67 hl77 hl78 hq79 n71 hl80 hl81 hq82 n111 hl121 hl122 hq123 n115 hl124 hl125 hq126 h176 hq178 hq179 hq180 v368 v369 hq370 hq371 hq372 hq373 n354 hl376 hl377 n358 hl378 hl379 n362 hl380 hl381 n411 hl421 hl422 hq423 n415 hl424 hl425 hq426 n461 hl471 hl472 hq473 n465 hl474 hl475 hq476 h517 h519)⟩
          · rintro ⟨k, o, m, A553, n553, c553, A554, n554, c554⟩ f556 w557 hP559
            obtain ⟨hB558, hm560, hm561, hm562, hm563, hm564, hO565, hO566, hd568, hd569, hd570, hd571, hd572, hd573, hd574, hd575, hd576, hd577, hd578, hi567⟩ : (Lo w w557) ∧ (SlO w557 w345.heap.size encLibraryStep 4 29 A361 n362 c363 v369) ∧ (Blk w557 g427 27 [.slice A410 n411 c412, .slice A414 n415 c416, .int .i64 (((runFL v368 v369).1).Bought), .int .i64 (((runFL v368 v369).1).Dropped), .int .i64 (((runFL v368 v369).1).Mended)]) ∧ (SlO w557 w399.heap.size encLMap 3 59 A410 n411 c412 (((runFL v368 v369).1).Maps)) ∧ (SlO w557 w399.heap.size encAway 2 63 A414 n415 c416 (((runFL v368 v369).1).Away)) ∧ (Blk w557 g520 27 [.slice A553 n553 c553, .slice A554 n554 c554, .int .i64 o.Bought, .int .i64 o.Dropped, .int .i64 o.Mended]) ∧ (SlO w557 w.heap.size encLMap 3 59 A553 n553 c553 o.Maps) ∧ (SlO w557 w.heap.size encAway 2 63 A554 n554 c554 o.Away) ∧ (∀ b_, A553 = some ⟨b_, 0, none⟩ → ¬ A361 = some ⟨b_, 0, none⟩) ∧ (¬ A553 = some ⟨g427, 0, none⟩) ∧ (∀ b_, A553 = some ⟨b_, 0, none⟩ → ¬ A410 = some ⟨b_, 0, none⟩) ∧ (∀ b_, A553 = some ⟨b_, 0, none⟩ → ¬ A414 = some ⟨b_, 0, none⟩) ∧ (¬ A553 = some ⟨g520, 0, none⟩) ∧ (∀ b_, A553 = some ⟨b_, 0, none⟩ → ¬ A554 = some ⟨b_, 0, none⟩) ∧ (∀ b_, A554 = some ⟨b_, 0, none⟩ → ¬ A361 = some ⟨b_, 0, none⟩) ∧ (¬ A554 = some ⟨g427, 0, none⟩) ∧ (∀ b_, A554 = some ⟨b_, 0, none⟩ → ¬ A410 = some ⟨b_, 0, none⟩) ∧ (∀ b_, A554 = some ⟨b_, 0, none⟩ → ¬ A414 = some ⟨b_, 0, none⟩) ∧ (¬ A554 = some ⟨g520, 0, none⟩) ∧ ((k ≤ v369.length ∧ 0 ≤ m ∧ m ≤ (k : Int)) ∧ runToL v368 v369 k = (o, m) ∧ LibOK o) := hP559
            refine (?_ : W _ _ _ _ _ (act _ (sets f556 [(2, .bool false), (22, .slice A361 n362 c363), (23, .pointer (pA g427)), (24, .int .i64 ((runFL v368 v369).2.1)), (29, .pointer (pA g520)), (30, .int .i64 m), (31, .int .i64 (k : Int))])) _)
            have hzw557 := hB558.size
            have hl579 := hm561.lt
            have hl580 := hm564.lt
            have hl581 := hO565.len
            have hl582 := hO565.rd.bound
            have hl583 := hO566.len
            have hl584 := hO566.rd.bound
            have hq585 : 0 ≤ m ∧ m ≤ (k : Int) := hi567.1.2
            have hq586 : LibOK o := hi567.2.2
            have hq587 : o.Maps.length ≤ 8 ∧ o.Away.length ≤ 8 := (lib_bought hi567.2.2).1
            refine W.seq ?_
            refine W.seq ?_
            refine W.regS (SR.q' (r_mv (v := .int .i64 _) rfl) <| SR.q' (r_mv (v := .slice _ _ _) rfl) <| SR.q' (r_len und43 rfl) <| SR.q' (r_lt rfl rfl) <| SR.nil ?_)
            refine W.cond_d rfl (fun h588 => ?_) (fun h588 => ?_)
            · refine W.skip ?_
              refine W.seq ?_
              refine W.block ?_
              refine W.seq ?_
              refine W.regA (Lo w557) (fun f' w' => ∃ (A597 : Option Addr) (n598 : Nat) (c599 : Nat) (A601 : Option Addr) (n602 : Nat) (c603 : Nat) (g628 : Nat), At f' [(2, .bool false), (22, .slice A361 n362 c363), (23, .pointer (pA g427)), (24, .int .i64 ((runFL v368 v369).2.1)), (29, .pointer (pA g520)), (30, .int .i64 m), (31, .int .i64 (k : Int)), (32, .pointer (pA g628)), (33, .bool ((impl_StepLibrary o (gt v369 k)).2))] ∧ (Lo w557 w') ∧ (SlO w' w557.heap.size encLMap 3 59 A597 n598 c599 (((impl_StepLibrary o (gt v369 k)).1).Maps)) ∧ (SlO w' w557.heap.size encAway 2 63 A601 n602 c603 (((impl_StepLibrary o (gt v369 k)).1).Away)) ∧ (Blk w' g628 27 [.slice A597 n598 c599, .slice A601 n602 c603, .int .i64 (((impl_StepLibrary o (gt v369 k)).1).Bought), .int .i64 (((impl_StepLibrary o (gt v369 k)).1).Dropped), .int .i64 (((impl_StepLibrary o (gt v369 k)).1).Mended)]) ∧ (w557.heap.size ≤ g628 ∧ g628 < w'.heap.size) ∧ (¬ A361 = some ⟨g628, 0, none⟩) ∧ (¬ A410 = some ⟨g628, 0, none⟩) ∧ (¬ A414 = some ⟨g628, 0, none⟩) ∧ (¬ A553 = some ⟨g628, 0, none⟩) ∧ (¬ A554 = some ⟨g628, 0, none⟩) ∧ (¬ A597 = some ⟨g628, 0, none⟩) ∧ (¬ A601 = some ⟨g628, 0, none⟩) ∧ (∀ b_, A597 = some ⟨b_, 0, none⟩ → ¬ A361 = some ⟨b_, 0, none⟩) ∧ (∀ b_, A597 = some ⟨b_, 0, none⟩ → ¬ A410 = some ⟨b_, 0, none⟩) ∧ (∀ b_, A597 = some ⟨b_, 0, none⟩ → ¬ A414 = some ⟨b_, 0, none⟩) ∧ (∀ b_, A597 = some ⟨b_, 0, none⟩ → ¬ A553 = some ⟨b_, 0, none⟩) ∧ (∀ b_, A597 = some ⟨b_, 0, none⟩ → ¬ A554 = some ⟨b_, 0, none⟩) ∧ (∀ b_, A597 = some ⟨b_, 0, none⟩ → ¬ A601 = some ⟨b_, 0, none⟩) ∧ (∀ b_, A601 = some ⟨b_, 0, none⟩ → ¬ A361 = some ⟨b_, 0, none⟩) ∧ (∀ b_, A601 = some ⟨b_, 0, none⟩ → ¬ A410 = some ⟨b_, 0, none⟩) ∧ (∀ b_, A601 = some ⟨b_, 0, none⟩ → ¬ A414 = some ⟨b_, 0, none⟩) ∧ (∀ b_, A601 = some ⟨b_, 0, none⟩ → ¬ A553 = some ⟨b_, 0, none⟩) ∧ (∀ b_, A601 = some ⟨b_, 0, none⟩ → ¬ A554 = some ⟨b_, 0, none⟩) ∧ (v369[k]? = some (gt v369 k)) ∧ (n598 = (((impl_StepLibrary o (gt v369 k)).1).Maps).length) ∧ ((n598 : Int) ≤ 9223372036854775807) ∧ ((((impl_StepLibrary o (gt v369 k)).1).Maps).length ≤ 8) ∧ (n602 = (((impl_StepLibrary o (gt v369 k)).1).Away).length) ∧ ((n602 : Int) ≤ 9223372036854775807) ∧ ((((impl_StepLibrary o (gt v369 k)).1).Away).length ≤ 8)) mo ?_ ?_
              · intro w736 hk737
                have hz738 := hk737.size
                have hB739 := hB558.lo hk737
                refine AH.via #[true, true, true, true, true, true, true, true, true, true, false, false] 2 (fun f' w' => ∃ (A597 : Option Addr) (n598 : Nat) (c599 : Nat) (A601 : Option Addr) (n602 : Nat) (c603 : Nat) (g628 : Nat), At f' [(2, .bool false), (22, .slice A361 n362 c363), (23, .pointer (pA g427)), (24, .int .i64 ((runFL v368 v369).2.1)), (29, .pointer (pA g520)), (30, .int .i64 m), (31, .int .i64 (k : Int)), (32, .pointer (pA g628)), (237, .agg (List.toArray [.slice A597 n598 c599, .slice A601 n602 c603, .int .i64 (((impl_StepLibrary o (gt v369 k)).1).Bought), .int .i64 (((impl_StepLibrary o (gt v369 k)).1).Dropped), .int .i64 (((impl_StepLibrary o (gt v369 k)).1).Mended)])), (238, .bool ((impl_StepLibrary o (gt v369 k)).2))] ∧ (Lo w557 w') ∧ (SlO w' w557.heap.size encLMap 3 59 A597 n598 c599 (((impl_StepLibrary o (gt v369 k)).1).Maps)) ∧ (SlO w' w557.heap.size encAway 2 63 A601 n602 c603 (((impl_StepLibrary o (gt v369 k)).1).Away)) ∧ (Blk w' g628 27 [.slice none 0 0, .slice none 0 0, .int .i64 0, .int .i64 0, .int .i64 0]) ∧ (w557.heap.size ≤ g628 ∧ g628 < w'.heap.size) ∧ (¬ A361 = some ⟨g628, 0, none⟩) ∧ (¬ A410 = some ⟨g628, 0, none⟩) ∧ (¬ A414 = some ⟨g628, 0, none⟩) ∧ (¬ A553 = some ⟨g628, 0, none⟩) ∧ (¬ A554 = some ⟨g628, 0, none⟩) ∧ (¬ A597 = some ⟨g628, 0, none⟩) ∧ (¬ A601 = some ⟨g628, 0, none⟩) ∧ (∀ b_, A597 = some ⟨b_, 0, none⟩ → ¬ A361 = some ⟨b_, 0, none⟩) ∧ (∀ b_, A597 = some ⟨b_, 0, none⟩ → ¬ A410 = some ⟨b_, 0, none⟩) ∧ (∀ b_, A597 = some ⟨b_, 0, none⟩ → ¬ A414 = some ⟨b_, 0, none⟩) ∧ (∀ b_, A597 = some ⟨b_, 0, none⟩ → ¬ A553 = some ⟨b_, 0, none⟩) ∧ (∀ b_, A597 = some ⟨b_, 0, none⟩ → ¬ A554 = some ⟨b_, 0, none⟩) ∧ (∀ b_, A597 = some ⟨b_, 0, none⟩ → ¬ A601 = some ⟨b_, 0, none⟩) ∧ (∀ b_, A601 = some ⟨b_, 0, none⟩ → ¬ A361 = some ⟨b_, 0, none⟩) ∧ (∀ b_, A601 = some ⟨b_, 0, none⟩ → ¬ A410 = some ⟨b_, 0, none⟩) ∧ (∀ b_, A601 = some ⟨b_, 0, none⟩ → ¬ A414 = some ⟨b_, 0, none⟩) ∧ (∀ b_, A601 = some ⟨b_, 0, none⟩ → ¬ A553 = some ⟨b_, 0, none⟩) ∧ (∀ b_, A601 = some ⟨b_, 0, none⟩ → ¬ A554 = some ⟨b_, 0, none⟩) ∧ (v369[k]? = some (gt v369 k)) ∧ (n598 = (((impl_StepLibrary o (gt v369 k)).1).Maps).length) ∧ ((n598 : Int) ≤ 9223372036854775807) ∧ ((((impl_StepLibrary o (gt v369 k)).1).Maps).length ≤ 8) ∧ (n602 = (((impl_StepLibrary o (gt v369 k)).1).Away).length) ∧ ((n602 : Int) ≤ 9223372036854775807) ∧ ((((impl_StepLibrary o (gt v369 k)).1).Away).length ≤ 8)) ?_ (fun hn740 => ?_)
                · rintro f741 w742 ⟨A597, n598, c599, A601, n602, c603, g628, hat744, hR743, hm644, hm645, hm646, hg647, hd648, hd649, hd650, hd651, hd652, hd653, hd654, hd655, hd656, hd657, hd658, hd659, hd660, hd661, hd662, hd663, hd664, hd665, hx594, hl609, hl610, hq611, hl612, hl613, hq614⟩
                  rw [← sets_of_at hat744]
                  have hz745 := hR743.size
                  have hB746 := hB558.lo hR743
                  refine AH.br [10] (by kernel_rfl) rfl ⟨Br.mk' rfl trivial ?_, trivial⟩
                  refine SR.store (o := 0) (vs := [.slice A597 n598 c599, .slice A601 n602 c603, .int .i64 (((impl_StepLibrary o (gt v369 k)).1).Bought), .int .i64 (((impl_StepLibrary o (gt v369 k)).1).Dropped), .int .i64 (((impl_StepLibrary o (gt v369 k)).1).Mended)]) agg27.2 rfl rfl rfl rfl (hm646) (Nat.le_of_ble_eq_true rfl) rfl ?_
                  intro w747 hk748 hs749 hb750
                  have hz751 := hk748.size
                  have hB752 := hB746.new hk748 (by omega)
                  have hS753 := (hR743).new hk748 (by omega)
                  refine SR.nil ⟨hS753, _, rfl, ?_⟩
                  refine AH.take 11 rfl (by kernel_rfl) trivial (hS753) (fun w' hw' => r_as (v := .bool _) rfl) <| AH.done (by kernel_rfl) ?_
                  exact ⟨A597, n598, c599, A601, n602, c603, g628, ⟨rfl, rfl, rfl, rfl, rfl, rfl, rfl, rfl, rfl, trivial⟩, hS753, (((hm644).kd hk748 hd653).down (by omega)), (((hm645).kd hk748 hd654).down (by omega)), (hb750), ⟨by omega, (hb750).lt⟩, hd648, hd649, hd650, hd651, hd652, hd653, hd654, hd655, hd656, hd657, hd658, hd659, hd660, hd661, hd662, hd663, hd664, hd665, hx594, hl609, hl610, hq611, hl612, hl613, hq614⟩
                refine AH.take 0 rfl (by kernel_rfl) trivial (hk737) (fun w' hw' => r_lda (l := [.slice A553 n553 c553, .slice A554 n554 c554, .int .i64 o.Bought, .int .i64 o.Dropped, .int .i64 o.Mended]) agg27 rfl (fun _ _ hu => ((hm564).lo hw').cell hu) rfl) <| AH.take 1 rfl (by kernel_rfl) trivial (hk737) (fun w' hw' => r_mv (v := .slice _ _ _) rfl) <| AH.take 2 rfl (by kernel_rfl) trivial (hk737) (fun w' hw' => r_mv (v := .int .i64 _) rfl) <| ?_
                have hx774 := (((hm560).lo hk737).rd).elem (i := k) (by omega)
                refine AH.take 3 rfl (by kernel_rfl) trivial (hk737) (fun w' hw' => r_ixR tsl43 (((hm560).lo hw').rd) rfl rfl (by omega)) <| AH.take 4 rfl (by kernel_rfl) trivial (hk737) (fun w' hw' => r_lda (l := encLibraryStep (gt v369 k)) agg29 rfl (fun _ _ hu => (((hm560).lo hw').rd).cell hx774 hu) ((((hm560).lo hw').rd).esz _)) <| AH.br [5, 9] (by kernel_rfl) rfl ⟨Br.mk' rfl trivial ?_, Br.mk' rfl trivial ?_, trivial⟩
                · refine SR.call ent6 (c_impl_StepLibrary w736 o ((((hO565).lo hk737).rd)) ((((hO566).lo hk737).rd)) (gt v369 k) (by omega)) rfl ?_
                  rintro e w775 ⟨A777, n778, c779, A781, n782, c783, rfl, hO780, hO784, hd785, hk776⟩
                  refine ⟨_, rfl, ?_⟩
                  have hz786 := hk776.size
                  have hB787 := hB739.lo hk776
                  have hS788 := (hk737).lo hk776
                  have hl789 := hO780.len
                  have hl790 := hO780.rd.bound
                  have hq791 := step_lenM o (gt v369 k)
                  have hl792 := hO784.len
                  have hl793 := hO784.rd.bound
                  have hq794 := step_lenA o (gt v369 k)
                  refine SR.nil ⟨hS788, _, rfl, ?_⟩
                  refine AH.take 6 rfl (by kernel_rfl) trivial (hS788) (fun w' hw' => r_mv (v := .tuple (List.toArray _)) rfl) <| AH.take 7 rfl (by kernel_rfl) trivial (hS788) (fun w' hw' => r_ext (v := .agg (List.toArray _)) rfl rfl) <| AH.take 8 rfl (by kernel_rfl) trivial (hS788) (fun w' hw' => r_ext (v := .bool _) rfl rfl) <| AH.br [9] (by kernel_rfl) rfl ⟨Br.mk' rfl trivial ?_, trivial⟩
                  refine SR.alloc (l := [.slice none 0 0, .slice none 0 0, .int .i64 0, .int .i64 0, .int .i64 0]) tz27 rfl ?_
                  intro g795 w796 hg797 hk798 hs799 hb800
                  have hz801 := hk798.size
                  have hB802 := hB787.lo hk798
                  have hS803 := (hS788).lo hk798
                  have hd804 : ¬ A361 = some ⟨g795, 0, none⟩ := fun e' => by have := (((hm560).lo hk737).lo hk776).base_le e'; omega
                  have hd805 : ¬ A410 = some ⟨g795, 0, none⟩ := fun e' => by have := (((hm562).lo hk737).lo hk776).base_le e'; omega
                  have hd806 : ¬ A414 = some ⟨g795, 0, none⟩ := fun e' => by have := (((hm563).lo hk737).lo hk776).base_le e'; omega
                  have hd807 : ¬ A553 = some ⟨g795, 0, none⟩ := fun e' => by have := (((hO565).lo hk737).lo hk776).base_le e'; omega
                  have hd808 : ¬ A554 = some ⟨g795, 0, none⟩ := fun e' => by have := (((hO566).lo hk737).lo hk776).base_le e'; omega
                  have hd809 : ¬ A777 = some ⟨g795, 0, none⟩ := fun e' => by have := (hO780).base_le e'; omega
                  have hd810 : ¬ A781 = some ⟨g795, 0, none⟩ := fun e' => by have := (hO784).base_le e'; omega
                  refine SR.nil ⟨hS803, _, rfl, ?_⟩
                  refine AH.goto (by kernel_rfl) rfl (hn740 _ _ ?_)
                  exact ⟨A777, n778, c779, A781, n782, c783, g795, ⟨rfl, rfl, rfl, rfl, rfl, rfl, rfl, rfl, rfl, rfl, trivial⟩, hS803, (((hO780).lo hk798).down (by omega)), (((hO784).lo hk798).down (by omega)), (hb800), ⟨by omega, (hb800).lt⟩, hd804, hd805, hd806, hd807, hd808, hd809, hd810, (fun b_ h h' => by have h1 := ((hO780).lo hk798).base_le h; have h2 := ((hm560).lo hk737).base_le h'; omega), (fun b_ h h' => by have h1 := ((hO780).lo hk798).base_le h; have h2 := ((hm562).lo hk737).base_le h'; omega), (fun b_ h h' => by have h1 := ((hO780).lo hk798).base_le h; have h2 := ((hm563).lo hk737).base_le h'; omega), (fun b_ h h' => by have h1 := ((hO780).lo hk798).base_le h; have h2 := ((hO565).lo hk737).base_le h'; omega), (fun b_ h h' => by have h1 := ((hO780).lo hk798).base_le h; have h2 := ((hO566).lo hk737).base_le h'; omega), hd785, (fun b_ h h' => by have h1 := ((hO784).lo hk798).base_le h; have h2 := ((hm560).lo hk737).base_le h'; omega), (fun b_ h h' => by have h1 := ((hO784).lo hk798).base_le h; have h2 := ((hm562).lo hk737).base_le h'; omega), (fun b_ h h' => by have h1 := ((hO784).lo hk798).base_le h; have h2 := ((hm563).lo hk737).base_le h'; omega), (fun b_ h h' => by have h1 := ((hO784).lo hk798).base_le h; have h2 := ((hO565).lo hk737).base_le h'; omega), (fun b_ h h' => by have h1 := ((hO784).lo hk798).base_le h; have h2 := ((hO566).lo hk737).base_le h'; omega), hx774, hl789, hl790, hq791, hl792, hl793, hq794⟩
                · refine SR.alloc (l := [.slice none 0 0, .slice none 0 0, .int .i64 0, .int .i64 0, .int .i64 0]) tz27 rfl ?_
                  intro g830 w831 hg832 hk833 hs834 hb835
                  have hz836 := hk833.size
                  have hB837 := hB739.lo hk833
                  have hS838 := (hk737).lo hk833
                  have hd839 : ¬ A361 = some ⟨g830, 0, none⟩ := fun e' => by have := ((hm560).lo hk737).base_le e'; omega
                  have hd840 : ¬ A410 = some ⟨g830, 0, none⟩ := fun e' => by have := ((hm562).lo hk737).base_le e'; omega
                  have hd841 : ¬ A414 = some ⟨g830, 0, none⟩ := fun e' => by have := ((hm563).lo hk737).base_le e'; omega
                  have hd842 : ¬ A553 = some ⟨g830, 0, none⟩ := fun e' => by have := ((hO565).lo hk737).base_le e'; omega
                  have hd843 : ¬ A554 = some ⟨g830, 0, none⟩ := fun e' => by have := ((hO566).lo hk737).base_le e'; omega
                  refine SR.nil ⟨hS838, _, rfl, ?_⟩
                  refine AH.br [5] (by kernel_rfl) rfl ⟨Br.mk' rfl trivial ?_, trivial⟩
                  refine SR.call ent6 (c_impl_StepLibrary w831 o (((((hO565).lo hk737).lo hk833).rd)) (((((hO566).lo hk737).lo hk833).rd)) (gt v369 k) (by omega)) rfl ?_
                  rintro e w844 ⟨A846, n847, c848, A850, n851, c852, rfl, hO849, hO853, hd854, hk845⟩
                  refine ⟨_, rfl, ?_⟩
                  have hz855 := hk845.size
                  have hB856 := hB837.lo hk845
                  have hS857 := (hS838).lo hk845
                  have hl858 := hO849.len
                  have hl859 := hO849.rd.bound
                  have hq860 := step_lenM o (gt v369 k)
                  have hl861 := hO853.len
                  have hl862 := hO853.rd.bound
                  have hq863 := step_lenA o (gt v369 k)
                  refine SR.nil ⟨hS857, _, rfl, ?_⟩
                  refine AH.take 6 rfl (by kernel_rfl) trivial (hS857) (fun w' hw' => r_mv (v := .tuple (List.toArray _)) rfl) <| AH.take 7 rfl (by kernel_rfl) trivial (hS857) (fun w' hw' => r_ext (v := .agg (List.toArray _)) rfl rfl) <| AH.take 8 rfl (by kernel_rfl) trivial (hS857) (fun w' hw' => r_ext (v := .bool _) rfl rfl) <| AH.goto (by kernel_rfl) rfl (hn740 _ _ ?_)
                  exact ⟨A846, n847, c848, A850, n851, c852, g830, ⟨rfl, rfl, rfl, rfl, rfl, rfl, rfl, rfl, rfl, rfl, trivial⟩, hS857, ((hO849).down (by omega)), ((hO853).down (by omega)), ((hb835).lo hk845), ⟨by omega, ((hb835).lo hk845).lt⟩, hd839, hd840, hd841, hd842, hd843, (fun e' => by have := (hO849).base_le e'; omega), (fun e' => by have := (hO853).base_le e'; omega), (fun b_ h h' => by have h1 := (hO849).base_le h; have h2 := (((hm560).lo hk737).lo hk833).base_le h'; omega), (fun b_ h h' => by have h1 := (hO849).base_le h; have h2 := (((hm562).lo hk737).lo hk833).base_le h'; omega), (fun b_ h h' => by have h1 := (hO849).base_le h; have h2 := (((hm563).lo hk737).lo hk833).base_le h'; omega), (fun b_ h h' => by have h1 := (hO849).base_le h; have h2 := (((hO565).lo hk737).lo hk833).base_le h'; omega), (fun b_ h h' => by have h1 := (hO849).base_le h; have h2 := (((hO566).lo hk737).lo hk833).base_le h'; omega), hd854, (fun b_ h h' => by have h1 := (hO853).base_le h; have h2 := (((hm560).lo hk737).lo hk833).base_le h'; omega), (fun b_ h h' => by have h1 := (hO853).base_le h; have h2 := (((hm562).lo hk737).lo hk833).base_le h'; omega), (fun b_ h h' => by have h1 := (hO853).base_le h; have h2 := (((hm563).lo hk737).lo hk833).base_le h'; omega), (fun b_ h h' => by have h1 := (hO853).base_le h; have h2 := (((hO565).lo hk737).lo hk833).base_le h'; omega), (fun b_ h h' => by have h1 := (hO853).base_le h; have h2 := (((hO566).lo hk737).lo hk833).base_le h'; omega), hx774, hl858, hl859, hq860, hl861, hl862, hq863⟩
              rintro f883 w884 ⟨A597, n598, c599, A601, n602, c603, g628, hat886, hR885, hm673, hm674, hm675, hg676, hd677, hd678, hd679, hd680, hd681, hd682, hd683, hd684, hd685, hd686, hd687, hd688, hd689, hd690, hd691, hd692, hd693, hd694, hx594, hl609, hl610, hq611, hl612, hl613, hq614⟩
              rw [← sets_of_at hat886]
              have hz887 := hR885.size
              have hB888 := hB558.lo hR885
              refine W.seq ?_
              refine W.regS (SR.q' (r_mv (v := .bool _) rfl) <| SR.nil ?_)
              refine W.cond_b rfl (fun h889 => ?_) (fun h889 => ?_)
              · refine W.seq ?_
                refine W.regS (SR.q' (r_lda (l := [.slice A597 n598 c599, .slice A601 n602 c603, .int .i64 (((impl_StepLibrary o (gt v369 k)).1).Bought), .int .i64 (((impl_StepLibrary o (gt v369 k)).1).Dropped), .int .i64 (((impl_StepLibrary o (gt v369 k)).1).Mended)]) agg27 rfl (fun _ _ hu => (hm675).cell hu) rfl) <| SR.store (o := 0) (vs := [.slice A597 n598 c599, .slice A601 n602 c603, .int .i64 (((impl_StepLibrary o (gt v369 k)).1).Bought), .int .i64 (((impl_StepLibrary o (gt v369 k)).1).Dropped), .int .i64 (((impl_StepLibrary o (gt v369 k)).1).Mended)]) agg27.2 rfl rfl rfl rfl ((hm564).lo hR885) (Nat.le_of_ble_eq_true rfl) rfl ?_)
                intro w890 hk891 hs892 hb893
                have hz894 := hk891.size
                have hB895 := hB888.new hk891 (by omega)
                refine SR.nil ?_
                have hm896 := ((hm560).lo hR885).kd hk891 hd536
                have hm897 := ((hm561).lo hR885).kn hk891 (by omega)
                have hm898 := ((hm562).lo hR885).kd hk891 hd537
                have hm899 := ((hm563).lo hR885).kd hk891 hd538
                refine W.regS (SR.q' (r_mv (v := .int .i64 _) rfl) <| SR.q' (r_add rfl rfl (by omega)) <| SR.q' (r_as (v := .int .i64 _) rfl) <| SR.nil ?_)
                refine W.regS (SR.q' (r_mv (v := .int .i64 _) rfl) <| SR.q' (r_add rfl rfl (by omega)) <| SR.q' (r_as (v := .int .i64 _) rfl) <| SR.nil ?_)
                refine ⟨(k + 1, ((impl_StepLibrary o (gt v369 k)).1), m + 1, A597, n598, c599, A601, n602, c603), _, rfl, ⟨rfl, rfl, rfl, rfl, rfl, rfl, (eI (by first | (first | omega | rfl) | (dsimp only; (first | omega | rfl)))), trivial⟩, (show (Lo w w890) ∧ (SlO w890 w345.heap.size encLibraryStep 4 29 A361 n362 c363 v369) ∧ (Blk w890 g427 27 [.slice A410 n411 c412, .slice A414 n415 c416, .int .i64 (((runFL v368 v369).1).Bought), .int .i64 (((runFL v368 v369).1).Dropped), .int .i64 (((runFL v368 v369).1).Mended)]) ∧ (SlO w890 w399.heap.size encLMap 3 59 A410 n411 c412 (((runFL v368 v369).1).Maps)) ∧ (SlO w890 w399.heap.size encAway 2 63 A414 n415 c416 (((runFL v368 v369).1).Away)) ∧ (Blk w890 g520 27 [.slice A597 n598 c599, .slice A601 n602 c603, .int .i64 (((impl_StepLibrary o (gt v369 k)).1).Bought), .int .i64 (((impl_StepLibrary o (gt v369 k)).1).Dropped), .int .i64 (((impl_StepLibrary o (gt v369 k)).1).Mended)]) ∧ (SlO w890 w.heap.size encLMap 3 59 A597 n598 c599 (((impl_StepLibrary o (gt v369 k)).1).Maps)) ∧ (SlO w890 w.heap.size encAway 2 63 A601 n602 c603 (((impl_StepLibrary o (gt v369 k)).1).Away)) ∧ (∀ b_, A597 = some ⟨b_, 0, none⟩ → ¬ A361 = some ⟨b_, 0, none⟩) ∧ (¬ A597 = some ⟨g427, 0, none⟩) ∧ (∀ b_, A597 = some ⟨b_, 0, none⟩ → ¬ A410 = some ⟨b_, 0, none⟩) ∧ (∀ b_, A597 = some ⟨b_, 0, none⟩ → ¬ A414 = some ⟨b_, 0, none⟩) ∧ (¬ A597 = some ⟨g520, 0, none⟩) ∧ (∀ b_, A597 = some ⟨b_, 0, none⟩ → ¬ A601 = some ⟨b_, 0, none⟩) ∧ (∀ b_, A601 = some ⟨b_, 0, none⟩ → ¬ A361 = some ⟨b_, 0, none⟩) ∧ (¬ A601 = some ⟨g427, 0, none⟩) ∧ (∀ b_, A601 = some ⟨b_, 0, none⟩ → ¬ A410 = some ⟨b_, 0, none⟩) ∧ (∀ b_, A601 = some ⟨b_, 0, none⟩ → ¬ A414 = some ⟨b_, 0, none⟩) ∧ (¬ A601 = some ⟨g520, 0, none⟩) ∧ ((k + 1 ≤ v369.length ∧ 0 ≤ m + 1 ∧ m + 1 ≤ (k + 1 : Int)) ∧ runToL v368 v369 (k + 1) = (((impl_StepLibrary o (gt v369 k)).1), m + 1) ∧ LibOK ((impl_StepLibrary o (gt v369 k)).1)) from ⟨hB895, hm896, hm897, hm898, hm899, (hb893), (((hm673).kn hk891 (by omega)).down (by omega)), (((hm674).kn hk891 (by omega)).down (by omega)), hd684, (fun e' => by have := ((hm673).kn hk891 (by omega)).base_le e'; omega), hd685, hd686, (fun e' => by have := ((hm673).kn hk891 (by omega)).base_le e'; omega), hd689, hd690, (fun e' => by have := ((hm674).kn hk891 (by omega)).base_le e'; omega), hd691, hd692, (fun e' => by have := ((hm674).kn hk891 (by omega)).base_le e'; omega), ?_⟩), ?_⟩
                · exact (z_c_laws_FnLibraries_900 L nL hbdL hleL h5 v17 v18 hq19 hq20 hq21 n9 hl24 hl25 n13 hl26 hl27 hq28 n67 hl77 hl78 hq79 n71 hl80 hl81 hq82 n111 hl121 hl122 hq123 n115 hl124 hl125 hq126 h176 hq178 hq179 hq180 v368 v369 hq370 hq371 hq372 hq373 n354 hl376 hl377 n358 hl378 hl379 n362 hl380 hl381 n411 hl421 hl422 hq423 n415 hl424 hl425 hq426 n461 hl471 hl472 hq473 n465 hl474 hl475 hq476 h517 h519 k o m n553 c553 n554 c554 hi567 hl581 hl583 hq585 hq586 hq587 h588 n598 n602 hx594 hl609 hl610 hq611 hl612 hl613 hq614 h889)
                · exact (z_c_laws_FnLibraries_901 L nL hbdL hleL h5 v17 v18 hq19 hq20 hq21 n9 hl24 hl25 n13 hl26 hl27 hq28 n67 hl77 hl78 hq79 n71 hl80 hl81 hq82 n111 hl121 hl122 hq123 n115 hl124 hl125 hq126 h176 hq178 hq179 hq180 v368 v369 hq370 hq371 hq372 hq373 n354 hl376 hl377 n358 hl378 hl379 n362 hl380 hl381 n411 hl421 hl422 hq423 n415 hl424 hl425 hq426 n461 hl471 hl472 hq473 n465 hl474 hl475 hq476 h517 h519 k o m n553 c553 n554 c554 hi567 hl581 hl583 hq585 hq586 hq587 h588 n598 n602 hx594 hl609 hl610 hq611 hl612 hl613 hq614 h889)
              · refine W.skip ?_
                refine W.regS (SR.q' (r_mv (v := .int .i64 _) rfl) <| SR.q' (r_add rfl rfl (by omega)) <| SR.q' (r_as (v := .int .i64 _) rfl) <| SR.nil ?_)
                refine ⟨(k + 1, o, m, A553, n553, c553, A554, n554, c554), _, rfl, ⟨rfl, rfl, rfl, rfl, rfl, rfl, (eI (by first | (first | omega | rfl) | (dsimp only; (first | omega | rfl)))), trivial⟩, (show (Lo w w884) ∧ (SlO w884 w345.heap.size encLibraryStep 4 29 A361 n362 c363 v369) ∧ (Blk w884 g427 27 [.slice A410 n411 c412, .slice A414 n415 c416, .int .i64 (((runFL v368 v369).1).Bought), .int .i64 (((runFL v368 v369).1).Dropped), .int .i64 (((runFL v368 v369).1).Mended)]) ∧ (SlO w884 w399.heap.size encLMap 3 59 A410 n411 c412 (((runFL v368 v369).1).Maps)) ∧ (SlO w884 w399.heap.size encAway 2 63 A414 n415 c416 (((runFL v368 v369).1).Away)) ∧ (Blk w884 g520 27 [.slice A553 n553 c553, .slice A554 n554 c554, .int .i64 o.Bought, .int .i64 o.Dropped, .int .i64 o.Mended]) ∧ (SlO w884 w.heap.size encLMap 3 59 A553 n553 c553 o.Maps) ∧ (SlO w884 w.heap.size encAway 2 63 A554 n554 c554 o.Away) ∧ (∀ b_, A553 = some ⟨b_, 0, none⟩ → ¬ A361 = some ⟨b_, 0, none⟩) ∧ (¬ A553 = some ⟨g427, 0, none⟩) ∧ (∀ b_, A553 = some ⟨b_, 0, none⟩ → ¬ A410 = some ⟨b_, 0, none⟩) ∧ (∀ b_, A553 = some ⟨b_, 0, none⟩ → ¬ A414 = some ⟨b_, 0, none⟩) ∧ (¬ A553 = some ⟨g520, 0, none⟩) ∧ (∀ b_, A553 = some ⟨b_, 0, none⟩ → ¬ A554 = some ⟨b_, 0, none⟩) ∧ (∀ b_, A554 = some ⟨b_, 0, none⟩ → ¬ A361 = some ⟨b_, 0, none⟩) ∧ (¬ A554 = some ⟨g427, 0, none⟩) ∧ (∀ b_, A554 = some ⟨b_, 0, none⟩ → ¬ A410 = some ⟨b_, 0, none⟩) ∧ (∀ b_, A554 = some ⟨b_, 0, none⟩ → ¬ A414 = some ⟨b_, 0, none⟩) ∧ (¬ A554 = some ⟨g520, 0, none⟩) ∧ ((k + 1 ≤ v369.length ∧ 0 ≤ m ∧ m ≤ (k + 1 : Int)) ∧ runToL v368 v369 (k + 1) = (o, m) ∧ LibOK o) from ⟨hB888, (hm560).lo hR885, (hm561).lo hR885, (hm562).lo hR885, (hm563).lo hR885, ((hm564).lo hR885), ((hO565).lo hR885), ((hO566).lo hR885), hd568, hd569, hd570, hd571, hd572, hd573, hd574, hd575, hd576, hd577, hd578, ?_⟩), ?_⟩
                · exact (z_c_laws_FnLibraries_902 L nL hbdL hleL h5 v17 v18 hq19 hq20 hq21 n9 hl24 hl25 n13 hl26 hl27 hq28 n67 hl77 hl78 hq79 n71 hl80 hl81 hq82 n111 hl121 hl122 hq123 n115 hl124 hl125 hq126 h176 hq178 hq179 hq180 v368 v369 hq370 hq371 hq372 hq373 n354 hl376 hl377 n358 hl378 hl379 n362 hl380 hl381 n411 hl421 hl422 hq423 n415 hl424 hl425 hq426 n461 hl471 hl472 hq473 n465 hl474 hl475 hq476 h517 h519 k o m n553 c553 n554 c554 hi567 hl581 hl583 hq585 hq586 hq587 h588 n598 n602 hx594 hl609 hl610 hq611 hl612 hl613 hq614 h889)
                · exact (z_c_laws_FnLibraries_903 L nL hbdL hleL h5 v17 v18 hq19 hq20 hq21 n9 hl24 hl25 n13 hl26 hl27 hq28 n67 hl77 hl78 hq79 n71 hl80 hl81 hq82 n111 hl121 hl122 hq123 n115 hl124 hl125 hq126 h176 hq178 hq179 hq180 v368 v369 hq370 hq371 hq372 hq373 n354 hl376 hl377 n358 hl378 hl379 n362 hl380 hl381 n411 hl421 hl422 hq423 n415 hl424 hl425 hq426 n461 hl471 hl472 hq473 n465 hl474 hl475 hq476 h517 h519 k o m n553 c553 n554 c554 hi567 hl581 hl583 hq585 hq586 hq587 h588 n598 n602 hx594 hl609 hl610 hq611 hl612 hl613 hq614 h889)
            · refine W.exit (xin_here ?_)
              refine W.seq ?_
              refine W.regJS (fun f' w' => At f' [(2, .bool false), (251, .bool (decide ((¬ (m = ((runFL v368 v369).2.1))) ∨ (¬ (o = ((runFL v368 v369).1))))))] ∧ Lo w557 w') ?_ ?_
              · refine SR.q' (r_mv (v := .int .i64 _) rfl) <| SR.q' (r_mv (v := .int .i64 _) rfl) <| SR.q' (r_ne rfl rfl) <| SR.q' (r_mv (v := .bool _) rfl) <| SR.splitN (fun h904 => ?_) (fun h904 => ?_)
                · refine SR.s' rfl <| SR.s' rfl <| SR.s' rfl <| SR.s' rfl <| SR.q' (r_pick true rfl (v := .bool true) rfl) <| SR.nil ?_
                  exact ⟨_, rfl, ⟨⟨rfl, (eDT ((jmf h904).1 trivial)), trivial⟩, (Lo.refl _)⟩⟩
                · refine SR.g' rfl (r_lda (l := [.slice A553 n553 c553, .slice A554 n554 c554, .int .i64 o.Bought, .int .i64 o.Dropped, .int .i64 o.Mended]) agg27 rfl (fun _ _ hu => (hm564).cell hu) rfl) <| SR.g' rfl (r_lda (l := [.slice A410 n411 c412, .slice A414 n415 c416, .int .i64 (((runFL v368 v369).1).Bought), .int .i64 (((runFL v368 v369).1).Dropped), .int .i64 (((runFL v368 v369).1).Mended)]) agg27 rfl (fun _ _ hu => (hm561).cell hu) rfl) <| SR.gcall rfl ent8 (c_laws_vLibrary w557 o (((hO565).rd)) (((hO566).rd)) ((runFL v368 v369).1) (((hm562).rd)) (((hm563).rd))) rfl ?_
                  rintro e w905 ⟨rfl, hk906⟩
                  refine ⟨_, rfl, ?_⟩
                  have hz907 := hk906.size
                  have hB908 := hB558.lo hk906
                  refine SR.g' rfl (r_not rfl) <| SR.q' (r_pick false rfl (v := .bool _) rfl) <| SR.nil ?_
                  exact ⟨_, rfl, ⟨⟨rfl, (eND (jmt h904)), trivial⟩, (hk906)⟩⟩
              rintro f909 w910 ⟨hat911, hk912⟩
              rw [← sets_of_at hat911]
              have hz913 := hk912.size
              have hB914 := hB558.lo hk912
              refine W.cond_d rfl (fun h915 => ?_) (fun h915 => ?_)
              · refine W.seq ?_
                refine W.regS (SR.q' (r_as (v := .bool false) rfl) <| SR.nil ?_)
                refine W.ret ?_
                refine ret1 rfl (v := .bool _) rfl ?_
                exact ⟨eR (eB (z_c_laws_FnLibraries_916 L nL hbdL hleL h5 v17 v18 hq19 hq20 hq21 n9 hl24 hl25 n13 hl26 hl27 hq28 n67 hl77 hl78 hq79 n71 hl80 hl81 hq82 n111 hl121 hl122 hq123 n115 hl124 hl125 hq126 h176 hq178 hq179 hq180 v368 v369 hq370 hq371 hq372 hq373 n354 hl376 hl377 n358 hl378 hl379 n362 hl380 hl381 n411 hl421 hl422 hq423 n415 hl424 hl425 hq426 n461 hl471 hl472 hq473 n465 hl474 hl475 hq476 h517 h519 k o m n553 c553 n554 c554 hi567 hl581 hl583 hq585 hq586 hq587 h588 h915)), hB914⟩
              · have hq917 : m = ((runFL v368 v369).2.1) := (Classical.not_not.1 (not_or.1 h915).1)
                have hq918 : o = ((runFL v368 v369).1) := (Classical.not_not.1 (not_or.1 h915).2)
                refine W.skip ?_
                refine W.seq ?_
                refine W.regS (SR.q' (r_as (v := .bool true) rfl) <| SR.nil ?_)
                refine W.ret ?_
                refine ret1 rfl (v := .bool _) rfl ?_
                exact ⟨eR rfl, hB914⟩
        · refine W.skip ?_
          refine W.seq ?_
          refine W.regS (SR.q' (r_as (v := .bool true) rfl) <| SR.nil ?_)
          refine W.ret ?_
          refine ret1 rfl (v := .bool _) rfl ?_
          exact ⟨eR rfl, hB516⟩
end Go.Proofs.Ytgobbcilgcbkaaa
