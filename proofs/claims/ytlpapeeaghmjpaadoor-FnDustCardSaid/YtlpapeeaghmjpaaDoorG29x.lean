/- Walks, printed by a program of this claim's author. -/
import Derived.Test.YtlpapeeaghmjpaaDoorChecked
import Derived.Test.YtlpapeeaghmjpaaDoorSa
import Derived.Test.YtlpapeeaghmjpaaDoorFu
import Derived.Test.YtlpapeeaghmjpaaDoorFs
import Derived.Test.YtlpapeeaghmjpaaDoorFq
import Derived.Test.YtlpapeeaghmjpaaDoorFo
import Derived.Test.YtlpapeeaghmjpaaDoorG29v
namespace Go.Proofs.YtlpapeeaghmjpaaDoor
open Go Go.RowKit Fw
set_option maxRecDepth 10000
set_option linter.unusedVariables false
theorem ent11 : Ent Tryd.prog 11 := ent_of Tryd.func11 (by decide +kernel) rfl
theorem ent12 : Ent Tryd.prog 12 := ent_of Tryd.func12 (by decide +kernel) rfl
theorem ent13 : Ent Tryd.prog 13 := ent_of Tryd.func13 (by decide +kernel) rfl
theorem ent14 : Ent Tryd.prog 14 := ent_of Tryd.func14 (by decide +kernel) rfl
theorem ent15 : Ent Tryd.prog 15 := ent_of Tryd.func15 (by decide +kernel) rfl
theorem ent16 : Ent Tryd.prog 16 := ent_of Tryd.func16 (by decide +kernel) rfl
theorem ent17 : Ent Tryd.prog 17 := ent_of Tryd.func17 (by decide +kernel) rfl
theorem ent18 : Ent Tryd.prog 18 := ent_of Tryd.func18 (by decide +kernel) rfl
theorem ent19 : Ent Tryd.prog 19 := ent_of Tryd.func19 (by decide +kernel) rfl
theorem ent20 : Ent Tryd.prog 20 := ent_of Tryd.func20 (by decide +kernel) rfl
theorem ent21 : Ent Tryd.prog 21 := ent_of Tryd.func21 (by decide +kernel) rfl
theorem ent22 : Ent Tryd.prog 22 := ent_of Tryd.func22 (by decide +kernel) rfl
theorem ent23 : Ent Tryd.prog 23 := ent_of Tryd.func23 (by decide +kernel) rfl
theorem ent24 : Ent Tryd.prog 24 := ent_of Tryd.func24 (by decide +kernel) rfl
theorem ent25 : Ent Tryd.prog 25 := ent_of Tryd.func25 (by decide +kernel) rfl
theorem tel53 : TEl Tryd.prog 53 48 (.agg (List.toArray [.int .i64 0, .int .i64 0])) 2 16 := ⟨by kernel_rfl, by kernel_rfl, rfl, by decide⟩

theorem z_c_laws_FnDust_96 (L : List UInt8) (nL : Nat) (hbdL : (nL : Int) ≤ 9223372036854775807) (hleL : nL = L.length) (h5 : ¬ (65536 < (L.length : Int))) (v12 : Chest) (v13 : Int) (hq14 : (v12.Stack.length ≤ 11) ∧ 0 ≤ v12.Key ∧ v12.Key ≤ 9999) (n9 : Nat) (hl17 : n9 = (v12.Stack).length) (hl18 : (n9 : Int) ≤ 9223372036854775807) (hq19 : DuLaw v12 v13) (h48 : ChestOK v12 ∧ (1 ≤ v13 ∧ v13 ≤ 100)) (hq49 : ChestOK v12) (hq50 : 1 ≤ v13 ∧ v13 ≤ 100) (hq51 : v12.Stack.length ≤ 10) (hq52 : v12.Stack.length ≤ 10 ∧ (0 ≤ v12.State ∧ v12.State ≤ 2) ∧ (0 ≤ v12.Dust ∧ v12.Dust ≤ 100) ∧ (0 ≤ v12.Laid ∧ v12.Laid ≤ 9999) ∧ (0 ≤ v12.Given ∧ v12.Given ≤ 9999) ∧ v12.Laid - v12.Given = (v12.Stack.length : Int)) (n56 : Nat) (hl61 : n56 = (((impl_StepChest v12 (⟨7, v13⟩ : ChestStep)).1).Stack).length) (hl62 : (n56 : Int) ≤ 9223372036854775807) (hq63 : (((impl_StepChest v12 (⟨7, v13⟩ : ChestStep)).1).Stack).length ≤ 10) (h95 : ((!((impl_StepChest v12 (⟨7, v13⟩ : ChestStep)).2)) = true) ∨ ((¬ ((((impl_StepChest v12 (⟨7, v13⟩ : ChestStep)).1).Dust) = (dustN v12 v13))) ∨ (((dustN v12 v13) < v12.Dust) ∨ ((v12.Dust + v13) < (dustN v12 v13))))) : false = true := by
  exfalso; first | exact top_bad ‹TopLaw _› (by assumption) | exact op_bad ‹OpLaw _› (by assumption) (by assumption) | exact du_bad ‹DuLaw _ _› (by assumption) (by assumption) (by assumption) | exact ‹¬ dustN _ _ = dustN _ _› rfl | exact ‹¬ openN _ = openN _› rfl
theorem z_c_laws_FnDust_200 (L : List UInt8) (nL : Nat) (hbdL : (nL : Int) ≤ 9223372036854775807) (hleL : nL = L.length) (h5 : ¬ (65536 < (L.length : Int))) (v12 : Chest) (v13 : Int) (hq14 : (v12.Stack.length ≤ 11) ∧ 0 ≤ v12.Key ∧ v12.Key ≤ 9999) (n9 : Nat) (hl17 : n9 = (v12.Stack).length) (hl18 : (n9 : Int) ≤ 9223372036854775807) (hq19 : DuLaw v12 v13) (h48 : ChestOK v12 ∧ (1 ≤ v13 ∧ v13 ≤ 100)) (hq49 : ChestOK v12) (hq50 : 1 ≤ v13 ∧ v13 ≤ 100) (hq51 : v12.Stack.length ≤ 10) (hq52 : v12.Stack.length ≤ 10 ∧ (0 ≤ v12.State ∧ v12.State ≤ 2) ∧ (0 ≤ v12.Dust ∧ v12.Dust ≤ 100) ∧ (0 ≤ v12.Laid ∧ v12.Laid ≤ 9999) ∧ (0 ≤ v12.Given ∧ v12.Given ≤ 9999) ∧ v12.Laid - v12.Given = (v12.Stack.length : Int)) (n56 : Nat) (hl61 : n56 = (((impl_StepChest v12 (⟨7, v13⟩ : ChestStep)).1).Stack).length) (hl62 : (n56 : Int) ≤ 9223372036854775807) (hq63 : (((impl_StepChest v12 (⟨7, v13⟩ : ChestStep)).1).Stack).length ≤ 10) (h95 : ¬ (((!((impl_StepChest v12 (⟨7, v13⟩ : ChestStep)).2)) = true) ∨ ((¬ ((((impl_StepChest v12 (⟨7, v13⟩ : ChestStep)).1).Dust) = (dustN v12 v13))) ∨ (((dustN v12 v13) < v12.Dust) ∨ ((v12.Dust + v13) < (dustN v12 v13)))))) (hq97 : ¬ ((!((impl_StepChest v12 (⟨7, v13⟩ : ChestStep)).2)) = true)) (hq98 : (((impl_StepChest v12 (⟨7, v13⟩ : ChestStep)).1).Dust) = (dustN v12 v13)) (hq99 : ¬ ((dustN v12 v13) < v12.Dust)) (hq100 : ¬ ((v12.Dust + v13) < (dustN v12 v13))) (v107 : Chest) (hq108 : (v107.Stack.length ≤ 11) ∧ 0 ≤ v107.Key ∧ v107.Key ≤ 9999) (n104 : Nat) (hl111 : n104 = (v107.Stack).length) (hl112 : (n104 : Int) ≤ 9223372036854775807) (hq113 : OpLaw v107) (h144 : ChestOK v107) (hq145 : v107.Stack.length ≤ 10) (hq146 : v107.Stack.length ≤ 10 ∧ (0 ≤ v107.State ∧ v107.State ≤ 2) ∧ (0 ≤ v107.Dust ∧ v107.Dust ≤ 100) ∧ (0 ≤ v107.Laid ∧ v107.Laid ≤ 9999) ∧ (0 ≤ v107.Given ∧ v107.Given ≤ 9999) ∧ v107.Laid - v107.Given = (v107.Stack.length : Int)) (n160 : Nat) (hl165 : n160 = (((runF v107 ([(⟨4, v107.Key⟩ : ChestStep), (⟨1, 0⟩ : ChestStep)] : List ChestStep)).1).Stack).length) (hl166 : (n160 : Int) ≤ 9223372036854775807) (hq167 : (((runF v107 ([(⟨4, v107.Key⟩ : ChestStep), (⟨1, 0⟩ : ChestStep)] : List ChestStep)).1).Stack).length ≤ 10) (h199 : ((!((runF v107 ([(⟨4, v107.Key⟩ : ChestStep), (⟨1, 0⟩ : ChestStep)] : List ChestStep)).2.2)) = true) ∨ ((¬ (((runF v107 ([(⟨4, v107.Key⟩ : ChestStep), (⟨1, 0⟩ : ChestStep)] : List ChestStep)).2.1) = (openN v107))) ∨ (¬ ((((runF v107 ([(⟨4, v107.Key⟩ : ChestStep), (⟨1, 0⟩ : ChestStep)] : List ChestStep)).1).State) = 1)))) : false = true := by
  exfalso; first | exact top_bad ‹TopLaw _› (by assumption) | exact op_bad ‹OpLaw _› (by assumption) (by assumption) | exact du_bad ‹DuLaw _ _› (by assumption) (by assumption) (by assumption) | exact ‹¬ dustN _ _ = dustN _ _› rfl | exact ‹¬ openN _ = openN _› rfl
theorem z_c_laws_FnDust_256 (L : List UInt8) (nL : Nat) (hbdL : (nL : Int) ≤ 9223372036854775807) (hleL : nL = L.length) (h5 : ¬ (65536 < (L.length : Int))) (v12 : Chest) (v13 : Int) (hq14 : (v12.Stack.length ≤ 11) ∧ 0 ≤ v12.Key ∧ v12.Key ≤ 9999) (n9 : Nat) (hl17 : n9 = (v12.Stack).length) (hl18 : (n9 : Int) ≤ 9223372036854775807) (hq19 : DuLaw v12 v13) (h48 : ChestOK v12 ∧ (1 ≤ v13 ∧ v13 ≤ 100)) (hq49 : ChestOK v12) (hq50 : 1 ≤ v13 ∧ v13 ≤ 100) (hq51 : v12.Stack.length ≤ 10) (hq52 : v12.Stack.length ≤ 10 ∧ (0 ≤ v12.State ∧ v12.State ≤ 2) ∧ (0 ≤ v12.Dust ∧ v12.Dust ≤ 100) ∧ (0 ≤ v12.Laid ∧ v12.Laid ≤ 9999) ∧ (0 ≤ v12.Given ∧ v12.Given ≤ 9999) ∧ v12.Laid - v12.Given = (v12.Stack.length : Int)) (n56 : Nat) (hl61 : n56 = (((impl_StepChest v12 (⟨7, v13⟩ : ChestStep)).1).Stack).length) (hl62 : (n56 : Int) ≤ 9223372036854775807) (hq63 : (((impl_StepChest v12 (⟨7, v13⟩ : ChestStep)).1).Stack).length ≤ 10) (h95 : ¬ (((!((impl_StepChest v12 (⟨7, v13⟩ : ChestStep)).2)) = true) ∨ ((¬ ((((impl_StepChest v12 (⟨7, v13⟩ : ChestStep)).1).Dust) = (dustN v12 v13))) ∨ (((dustN v12 v13) < v12.Dust) ∨ ((v12.Dust + v13) < (dustN v12 v13)))))) (hq97 : ¬ ((!((impl_StepChest v12 (⟨7, v13⟩ : ChestStep)).2)) = true)) (hq98 : (((impl_StepChest v12 (⟨7, v13⟩ : ChestStep)).1).Dust) = (dustN v12 v13)) (hq99 : ¬ ((dustN v12 v13) < v12.Dust)) (hq100 : ¬ ((v12.Dust + v13) < (dustN v12 v13))) (v107 : Chest) (hq108 : (v107.Stack.length ≤ 11) ∧ 0 ≤ v107.Key ∧ v107.Key ≤ 9999) (n104 : Nat) (hl111 : n104 = (v107.Stack).length) (hl112 : (n104 : Int) ≤ 9223372036854775807) (hq113 : OpLaw v107) (h144 : ChestOK v107) (hq145 : v107.Stack.length ≤ 10) (hq146 : v107.Stack.length ≤ 10 ∧ (0 ≤ v107.State ∧ v107.State ≤ 2) ∧ (0 ≤ v107.Dust ∧ v107.Dust ≤ 100) ∧ (0 ≤ v107.Laid ∧ v107.Laid ≤ 9999) ∧ (0 ≤ v107.Given ∧ v107.Given ≤ 9999) ∧ v107.Laid - v107.Given = (v107.Stack.length : Int)) (n160 : Nat) (hl165 : n160 = (((runF v107 ([(⟨4, v107.Key⟩ : ChestStep), (⟨1, 0⟩ : ChestStep)] : List ChestStep)).1).Stack).length) (hl166 : (n160 : Int) ≤ 9223372036854775807) (hq167 : (((runF v107 ([(⟨4, v107.Key⟩ : ChestStep), (⟨1, 0⟩ : ChestStep)] : List ChestStep)).1).Stack).length ≤ 10) (h199 : ¬ (((!((runF v107 ([(⟨4, v107.Key⟩ : ChestStep), (⟨1, 0⟩ : ChestStep)] : List ChestStep)).2.2)) = true) ∨ ((¬ (((runF v107 ([(⟨4, v107.Key⟩ : ChestStep), (⟨1, 0⟩ : ChestStep)] : List ChestStep)).2.1) = (openN v107))) ∨ (¬ ((((runF v107 ([(⟨4, v107.Key⟩ : ChestStep), (⟨1, 0⟩ : ChestStep)] : List ChestStep)).1).State) = 1))))) (hq201 : ¬ ((!((runF v107 ([(⟨4, v107.Key⟩ : ChestStep), (⟨1, 0⟩ : ChestStep)] : List ChestStep)).2.2)) = true)) (hq202 : ((runF v107 ([(⟨4, v107.Key⟩ : ChestStep), (⟨1, 0⟩ : ChestStep)] : List ChestStep)).2.1) = (openN v107)) (hq203 : (((runF v107 ([(⟨4, v107.Key⟩ : ChestStep), (⟨1, 0⟩ : ChestStep)] : List ChestStep)).1).State) = 1) (v210 : Chest) (hq211 : (v210.Stack.length ≤ 11) ∧ 0 ≤ v210.Key ∧ v210.Key ≤ 9999) (n207 : Nat) (hl214 : n207 = (v210.Stack).length) (hl215 : (n207 : Int) ≤ 9223372036854775807) (hq216 : TopLaw v210) (h255 : (¬ (((impl_TopMap v210).1) = ((spec_TopMap v210).1))) ∨ ((!(((impl_TopMap v210).2) == ((spec_TopMap v210).2))) = true)) : false = true := by
  exfalso; first | exact top_bad ‹TopLaw _› (by assumption) | exact op_bad ‹OpLaw _› (by assumption) (by assumption) | exact du_bad ‹DuLaw _ _› (by assumption) (by assumption) (by assumption) | exact ‹¬ dustN _ _ = dustN _ _› rfl | exact ‹¬ openN _ = openN _› rfl
theorem z_c_laws_FnDust_357 (L : List UInt8) (nL : Nat) (hbdL : (nL : Int) ≤ 9223372036854775807) (hleL : nL = L.length) (h5 : ¬ (65536 < (L.length : Int))) (v12 : Chest) (v13 : Int) (hq14 : (v12.Stack.length ≤ 11) ∧ 0 ≤ v12.Key ∧ v12.Key ≤ 9999) (n9 : Nat) (hl17 : n9 = (v12.Stack).length) (hl18 : (n9 : Int) ≤ 9223372036854775807) (hq19 : DuLaw v12 v13) (h48 : ChestOK v12 ∧ (1 ≤ v13 ∧ v13 ≤ 100)) (hq49 : ChestOK v12) (hq50 : 1 ≤ v13 ∧ v13 ≤ 100) (hq51 : v12.Stack.length ≤ 10) (hq52 : v12.Stack.length ≤ 10 ∧ (0 ≤ v12.State ∧ v12.State ≤ 2) ∧ (0 ≤ v12.Dust ∧ v12.Dust ≤ 100) ∧ (0 ≤ v12.Laid ∧ v12.Laid ≤ 9999) ∧ (0 ≤ v12.Given ∧ v12.Given ≤ 9999) ∧ v12.Laid - v12.Given = (v12.Stack.length : Int)) (n56 : Nat) (hl61 : n56 = (((impl_StepChest v12 (⟨7, v13⟩ : ChestStep)).1).Stack).length) (hl62 : (n56 : Int) ≤ 9223372036854775807) (hq63 : (((impl_StepChest v12 (⟨7, v13⟩ : ChestStep)).1).Stack).length ≤ 10) (h95 : ¬ (((!((impl_StepChest v12 (⟨7, v13⟩ : ChestStep)).2)) = true) ∨ ((¬ ((((impl_StepChest v12 (⟨7, v13⟩ : ChestStep)).1).Dust) = (dustN v12 v13))) ∨ (((dustN v12 v13) < v12.Dust) ∨ ((v12.Dust + v13) < (dustN v12 v13)))))) (hq97 : ¬ ((!((impl_StepChest v12 (⟨7, v13⟩ : ChestStep)).2)) = true)) (hq98 : (((impl_StepChest v12 (⟨7, v13⟩ : ChestStep)).1).Dust) = (dustN v12 v13)) (hq99 : ¬ ((dustN v12 v13) < v12.Dust)) (hq100 : ¬ ((v12.Dust + v13) < (dustN v12 v13))) (v107 : Chest) (hq108 : (v107.Stack.length ≤ 11) ∧ 0 ≤ v107.Key ∧ v107.Key ≤ 9999) (n104 : Nat) (hl111 : n104 = (v107.Stack).length) (hl112 : (n104 : Int) ≤ 9223372036854775807) (hq113 : OpLaw v107) (h144 : ¬ (ChestOK v107)) (v313 : Chest) (hq314 : (v313.Stack.length ≤ 11) ∧ 0 ≤ v313.Key ∧ v313.Key ≤ 9999) (n310 : Nat) (hl317 : n310 = (v313.Stack).length) (hl318 : (n310 : Int) ≤ 9223372036854775807) (hq319 : TopLaw v313) (h356 : (¬ (((impl_TopMap v313).1) = ((spec_TopMap v313).1))) ∨ ((!(((impl_TopMap v313).2) == ((spec_TopMap v313).2))) = true)) : false = true := by
  exfalso; first | exact top_bad ‹TopLaw _› (by assumption) | exact op_bad ‹OpLaw _› (by assumption) (by assumption) | exact du_bad ‹DuLaw _ _› (by assumption) (by assumption) (by assumption) | exact ‹¬ dustN _ _ = dustN _ _› rfl | exact ‹¬ openN _ = openN _› rfl
theorem z_c_laws_FnDust_502 (L : List UInt8) (nL : Nat) (hbdL : (nL : Int) ≤ 9223372036854775807) (hleL : nL = L.length) (h5 : ¬ (65536 < (L.length : Int))) (v12 : Chest) (v13 : Int) (hq14 : (v12.Stack.length ≤ 11) ∧ 0 ≤ v12.Key ∧ v12.Key ≤ 9999) (n9 : Nat) (hl17 : n9 = (v12.Stack).length) (hl18 : (n9 : Int) ≤ 9223372036854775807) (hq19 : DuLaw v12 v13) (h48 : ¬ (ChestOK v12 ∧ (1 ≤ v13 ∧ v13 ≤ 100))) (v412 : Chest) (hq413 : (v412.Stack.length ≤ 11) ∧ 0 ≤ v412.Key ∧ v412.Key ≤ 9999) (n409 : Nat) (hl416 : n409 = (v412.Stack).length) (hl417 : (n409 : Int) ≤ 9223372036854775807) (hq418 : OpLaw v412) (h448 : ChestOK v412) (hq449 : v412.Stack.length ≤ 10) (hq450 : v412.Stack.length ≤ 10 ∧ (0 ≤ v412.State ∧ v412.State ≤ 2) ∧ (0 ≤ v412.Dust ∧ v412.Dust ≤ 100) ∧ (0 ≤ v412.Laid ∧ v412.Laid ≤ 9999) ∧ (0 ≤ v412.Given ∧ v412.Given ≤ 9999) ∧ v412.Laid - v412.Given = (v412.Stack.length : Int)) (n463 : Nat) (hl468 : n463 = (((runF v412 ([(⟨4, v412.Key⟩ : ChestStep), (⟨1, 0⟩ : ChestStep)] : List ChestStep)).1).Stack).length) (hl469 : (n463 : Int) ≤ 9223372036854775807) (hq470 : (((runF v412 ([(⟨4, v412.Key⟩ : ChestStep), (⟨1, 0⟩ : ChestStep)] : List ChestStep)).1).Stack).length ≤ 10) (h501 : ((!((runF v412 ([(⟨4, v412.Key⟩ : ChestStep), (⟨1, 0⟩ : ChestStep)] : List ChestStep)).2.2)) = true) ∨ ((¬ (((runF v412 ([(⟨4, v412.Key⟩ : ChestStep), (⟨1, 0⟩ : ChestStep)] : List ChestStep)).2.1) = (openN v412))) ∨ (¬ ((((runF v412 ([(⟨4, v412.Key⟩ : ChestStep), (⟨1, 0⟩ : ChestStep)] : List ChestStep)).1).State) = 1)))) : false = true := by
  exfalso; first | exact top_bad ‹TopLaw _› (by assumption) | exact op_bad ‹OpLaw _› (by assumption) (by assumption) | exact du_bad ‹DuLaw _ _› (by assumption) (by assumption) (by assumption) | exact ‹¬ dustN _ _ = dustN _ _› rfl | exact ‹¬ openN _ = openN _› rfl
theorem z_c_laws_FnDust_557 (L : List UInt8) (nL : Nat) (hbdL : (nL : Int) ≤ 9223372036854775807) (hleL : nL = L.length) (h5 : ¬ (65536 < (L.length : Int))) (v12 : Chest) (v13 : Int) (hq14 : (v12.Stack.length ≤ 11) ∧ 0 ≤ v12.Key ∧ v12.Key ≤ 9999) (n9 : Nat) (hl17 : n9 = (v12.Stack).length) (hl18 : (n9 : Int) ≤ 9223372036854775807) (hq19 : DuLaw v12 v13) (h48 : ¬ (ChestOK v12 ∧ (1 ≤ v13 ∧ v13 ≤ 100))) (v412 : Chest) (hq413 : (v412.Stack.length ≤ 11) ∧ 0 ≤ v412.Key ∧ v412.Key ≤ 9999) (n409 : Nat) (hl416 : n409 = (v412.Stack).length) (hl417 : (n409 : Int) ≤ 9223372036854775807) (hq418 : OpLaw v412) (h448 : ChestOK v412) (hq449 : v412.Stack.length ≤ 10) (hq450 : v412.Stack.length ≤ 10 ∧ (0 ≤ v412.State ∧ v412.State ≤ 2) ∧ (0 ≤ v412.Dust ∧ v412.Dust ≤ 100) ∧ (0 ≤ v412.Laid ∧ v412.Laid ≤ 9999) ∧ (0 ≤ v412.Given ∧ v412.Given ≤ 9999) ∧ v412.Laid - v412.Given = (v412.Stack.length : Int)) (n463 : Nat) (hl468 : n463 = (((runF v412 ([(⟨4, v412.Key⟩ : ChestStep), (⟨1, 0⟩ : ChestStep)] : List ChestStep)).1).Stack).length) (hl469 : (n463 : Int) ≤ 9223372036854775807) (hq470 : (((runF v412 ([(⟨4, v412.Key⟩ : ChestStep), (⟨1, 0⟩ : ChestStep)] : List ChestStep)).1).Stack).length ≤ 10) (h501 : ¬ (((!((runF v412 ([(⟨4, v412.Key⟩ : ChestStep), (⟨1, 0⟩ : ChestStep)] : List ChestStep)).2.2)) = true) ∨ ((¬ (((runF v412 ([(⟨4, v412.Key⟩ : ChestStep), (⟨1, 0⟩ : ChestStep)] : List ChestStep)).2.1) = (openN v412))) ∨ (¬ ((((runF v412 ([(⟨4, v412.Key⟩ : ChestStep), (⟨1, 0⟩ : ChestStep)] : List ChestStep)).1).State) = 1))))) (hq503 : ¬ ((!((runF v412 ([(⟨4, v412.Key⟩ : ChestStep), (⟨1, 0⟩ : ChestStep)] : List ChestStep)).2.2)) = true)) (hq504 : ((runF v412 ([(⟨4, v412.Key⟩ : ChestStep), (⟨1, 0⟩ : ChestStep)] : List ChestStep)).2.1) = (openN v412)) (hq505 : (((runF v412 ([(⟨4, v412.Key⟩ : ChestStep), (⟨1, 0⟩ : ChestStep)] : List ChestStep)).1).State) = 1) (v512 : Chest) (hq513 : (v512.Stack.length ≤ 11) ∧ 0 ≤ v512.Key ∧ v512.Key ≤ 9999) (n509 : Nat) (hl516 : n509 = (v512.Stack).length) (hl517 : (n509 : Int) ≤ 9223372036854775807) (hq518 : TopLaw v512) (h556 : (¬ (((impl_TopMap v512).1) = ((spec_TopMap v512).1))) ∨ ((!(((impl_TopMap v512).2) == ((spec_TopMap v512).2))) = true)) : false = true := by
  exfalso; first | exact top_bad ‹TopLaw _› (by assumption) | exact op_bad ‹OpLaw _› (by assumption) (by assumption) | exact du_bad ‹DuLaw _ _› (by assumption) (by assumption) (by assumption) | exact ‹¬ dustN _ _ = dustN _ _› rfl | exact ‹¬ openN _ = openN _› rfl
theorem z_c_laws_FnDust_656 (L : List UInt8) (nL : Nat) (hbdL : (nL : Int) ≤ 9223372036854775807) (hleL : nL = L.length) (h5 : ¬ (65536 < (L.length : Int))) (v12 : Chest) (v13 : Int) (hq14 : (v12.Stack.length ≤ 11) ∧ 0 ≤ v12.Key ∧ v12.Key ≤ 9999) (n9 : Nat) (hl17 : n9 = (v12.Stack).length) (hl18 : (n9 : Int) ≤ 9223372036854775807) (hq19 : DuLaw v12 v13) (h48 : ¬ (ChestOK v12 ∧ (1 ≤ v13 ∧ v13 ≤ 100))) (v412 : Chest) (hq413 : (v412.Stack.length ≤ 11) ∧ 0 ≤ v412.Key ∧ v412.Key ≤ 9999) (n409 : Nat) (hl416 : n409 = (v412.Stack).length) (hl417 : (n409 : Int) ≤ 9223372036854775807) (hq418 : OpLaw v412) (h448 : ¬ (ChestOK v412)) (v613 : Chest) (hq614 : (v613.Stack.length ≤ 11) ∧ 0 ≤ v613.Key ∧ v613.Key ≤ 9999) (n610 : Nat) (hl617 : n610 = (v613.Stack).length) (hl618 : (n610 : Int) ≤ 9223372036854775807) (hq619 : TopLaw v613) (h655 : (¬ (((impl_TopMap v613).1) = ((spec_TopMap v613).1))) ∨ ((!(((impl_TopMap v613).2) == ((spec_TopMap v613).2))) = true)) : false = true := by
  exfalso; first | exact top_bad ‹TopLaw _› (by assumption) | exact op_bad ‹OpLaw _› (by assumption) (by assumption) | exact du_bad ‹DuLaw _ _› (by assumption) (by assumption) (by assumption) | exact ‹¬ dustN _ _ = dustN _ _› rfl | exact ‹¬ openN _ = openN _› rfl
theorem c_laws_FnDust (w : World) {AL : Option Addr} {nL cL BL : Nat}  (L : List UInt8) (hL : SlR w BL encB 1 AL nL cL L) (hE : EnvW w) : Calls Tryd.prog 4 #[.slice AL nL cL] w fun e w' => e = .returned (.bool true) ∧ Lo w w' := by
  refine calls_W 176 Tryd.func4 rfl rfl rfl ?_
  have hbdL := hL.bound
  have hleL := hL.len
  have hBbL := hL.bd
  refine W.seq ?_
  refine W.regS (SR.q' (r_as (v := .bool false) rfl) <| SR.nil ?_)
  refine W.seq ?_
  refine W.seq ?_
  refine W.regS (SR.q' (r_mv (v := .slice _ _ _) rfl) <| SR.call ent11 (c_laws_vBig w L ((hL))) rfl ?_)
  rintro e w1 ⟨rfl, hk2⟩
  refine ⟨_, rfl, ?_⟩
  have hz3 := hk2.size
  have hB4 := (Lo.refl w).lo hk2
  refine SR.nil ?_
  refine W.cond_d rfl (fun h5 => ?_) (fun h5 => ?_)
  · refine W.seq ?_
    refine W.regS (SR.q' (r_as (v := .bool true) rfl) <| SR.nil ?_)
    refine W.ret ?_
    refine ret1 rfl (v := .bool _) rfl ?_
    exact ⟨eR rfl, hB4⟩
  · refine W.skip ?_
    refine W.seq ?_
    refine W.regS (SR.q' (r_mv (v := .slice _ _ _) rfl) <| SR.call ent12 (c_spec_DrawDustIn w1 L (((hL).lo hk2)) (by omega)) rfl ?_)
    rintro e w6 ⟨A8, n9, c10, v12, v13, rfl, hO11, hq14, hk7⟩
    refine ⟨_, rfl, ?_⟩
    have hz15 := hk7.size
    have hB16 := hB4.lo hk7
    have hl17 := hO11.len
    have hl18 := hO11.rd.bound
    have hq19 : DuLaw v12 v13 := du_law v12 v13
    refine SR.q' (r_mv (v := .tuple (List.toArray _)) rfl) <| SR.q' (r_ext (v := .agg (List.toArray _)) rfl rfl) <| SR.q' (r_ext (v := .int .i64 _) rfl rfl) <| SR.alloc (l := [.int .i64 0, .int .i64 0, .slice none 0 0, .int .i64 0, .int .i64 0, .int .i64 0]) tz40 rfl ?_
    intro g20 w21 hg22 hk23 hs24 hb25
    have hz26 := hk23.size
    have hB27 := hB16.lo hk23
    have hd28 : ¬ A8 = some ⟨g20, 0, none⟩ := fun e' => by have := (hO11).base_le e'; omega
    refine SR.store (o := 0) (vs := [.int .i64 v12.State, .int .i64 v12.Key, .slice A8 n9 c10, .int .i64 v12.Dust, .int .i64 v12.Laid, .int .i64 v12.Given]) agg40.2 rfl rfl rfl rfl (hb25) (Nat.le_of_ble_eq_true rfl) rfl ?_
    intro w29 hk30 hs31 hb32
    have hz33 := hk30.size
    have hB34 := hB27.new hk30 (by omega)
    refine SR.q' (r_as (v := .int .i64 _) rfl) <| SR.nil ?_
    refine W.seq ?_
    have hm35 := ((((hL).lo hk2).lo hk7).lo hk23).kp hk30 (fun b_ hb e' => by have e'' : b_ = g20 := e'; omega)
    have hm36 := ((hO11).lo hk23).kp hk30 (fun b_ hb e' => hd28 (by have e'' : b_ = g20 := e'; rw [← e'']; exact hb))
    refine W.regS (SR.q' (r_lda (l := [.int .i64 v12.State, .int .i64 v12.Key, .slice A8 n9 c10, .int .i64 v12.Dust, .int .i64 v12.Laid, .int .i64 v12.Given]) agg40 rfl (fun _ _ hu => (hb32).cell hu) rfl) <| SR.q' (r_mv (v := .int .i64 _) rfl) <| SR.call ent13 (c_impl_DustIn w29 v12 (((hm36).rd)) v13) rfl ?_)
    rintro e w37 ⟨rfl, hk38⟩
    refine ⟨_, rfl, ?_⟩
    have hz39 := hk38.size
    have hB40 := hB34.lo hk38
    refine SR.q' (r_mv (v := .tuple (List.toArray _)) rfl) <| SR.q' (r_ext (v := .int .i64 _) rfl rfl) <| SR.q' (r_ext (v := .bool _) rfl rfl) <| SR.q' (r_as (v := .int .i64 _) rfl) <| SR.q' (r_as (v := .bool _) rfl) <| SR.nil ?_
    refine W.seq ?_
    refine W.seq ?_
    refine W.regS (SR.q' (r_lda (l := [.int .i64 v12.State, .int .i64 v12.Key, .slice A8 n9 c10, .int .i64 v12.Dust, .int .i64 v12.Laid, .int .i64 v12.Given]) agg40 rfl (fun _ _ hu => ((hb32).lo hk38).cell hu) rfl) <| SR.q' (r_mv (v := .int .i64 _) rfl) <| SR.call ent14 (c_spec_DustIn w37 v12 ((((hm36).lo hk38).rd)) v13) rfl ?_)
    rintro e w41 ⟨rfl, hk42⟩
    refine ⟨_, rfl, ?_⟩
    have hz43 := hk42.size
    have hB44 := hB40.lo hk42
    refine SR.q' (r_mv (v := .tuple (List.toArray _)) rfl) <| SR.q' (r_ext (v := .int .i64 _) rfl rfl) <| SR.q' (r_ext (v := .bool _) rfl rfl) <| SR.q' (r_as (v := .int .i64 _) rfl) <| SR.q' (r_as (v := .bool _) rfl) <| SR.nil ?_
    refine W.seq ?_
    have hm45 := ((hm35).lo hk38).lo hk42
    have hm46 := ((hb32).lo hk38).lo hk42
    have hm47 := ((hm36).lo hk38).lo hk42
    refine W.regS (SR.q' (r_mv (v := .int .i64 _) rfl) <| SR.q' (r_mv (v := .int .i64 _) rfl) <| SR.q' (r_ne_s rfl rfl) <| SR.q' (r_mv (v := .bool _) rfl) <| SR.g' rfl (r_mv (v := .bool _) rfl) <| SR.g' rfl (r_mv (v := .bool _) rfl) <| SR.g' rfl (r_neb_s und4 rfl rfl) <| SR.q' (r_pick false rfl (v := .bool _) rfl) <| SR.nil ?_)
    refine W.cond_f rfl ?_
    refine W.skip ?_
    refine W.seq ?_
    refine W.seq ?_
    refine W.regS (SR.q' (r_mv (v := .bool _) rfl) <| SR.nil ?_)
    refine W.cond_d rfl (fun h48 => ?_) (fun h48 => ?_)
    · have hq49 := And.left h48
      have hq50 := And.right h48
      have hq51 := chest_len hq49
      have hq52 := chest_rng hq49
      refine W.seq ?_
      refine W.regS (SR.q' (r_lda (l := [.int .i64 v12.State, .int .i64 v12.Key, .slice A8 n9 c10, .int .i64 v12.Dust, .int .i64 v12.Laid, .int .i64 v12.Given]) agg40 rfl (fun _ _ hu => (hm46).cell hu) rfl) <| SR.q' (r_mv (v := .int .i64 _) rfl) <| SR.q' (r_build (vs := [(0, .int .i64 7), (1, .int .i64 v13)]) rfl (bld48_0_1 _ _)) <| SR.call ent15 (c_impl_StepChest w41 v12 (((hm47).rd)) (⟨7, v13⟩ : ChestStep)) rfl ?_)
      rintro e w53 ⟨A55, n56, c57, rfl, hO58, hk54⟩
      refine ⟨_, rfl, ?_⟩
      have hz59 := hk54.size
      have hB60 := hB44.lo hk54
      have hl61 := hO58.len
      have hl62 := hO58.rd.bound
      have hq63 := step_len_i v12 (⟨7, v13⟩ : ChestStep)
      refine SR.q' (r_mv (v := .tuple (List.toArray _)) rfl) <| SR.q' (r_ext (v := .agg (List.toArray _)) rfl rfl) <| SR.q' (r_ext (v := .bool _) rfl rfl) <| SR.alloc (l := [.int .i64 0, .int .i64 0, .slice none 0 0, .int .i64 0, .int .i64 0, .int .i64 0]) tz40 rfl ?_
      intro g64 w65 hg66 hk67 hs68 hb69
      have hz70 := hk67.size
      have hB71 := hB60.lo hk67
      have hd72 : ¬ A8 = some ⟨g64, 0, none⟩ := fun e' => by have := ((hm47).lo hk54).base_le e'; omega
      have hd73 : ¬ A55 = some ⟨g64, 0, none⟩ := fun e' => by have := (hO58).base_le e'; omega
      refine SR.store (o := 0) (vs := [.int .i64 (((impl_StepChest v12 (⟨7, v13⟩ : ChestStep)).1).State), .int .i64 (((impl_StepChest v12 (⟨7, v13⟩ : ChestStep)).1).Key), .slice A55 n56 c57, .int .i64 (((impl_StepChest v12 (⟨7, v13⟩ : ChestStep)).1).Dust), .int .i64 (((impl_StepChest v12 (⟨7, v13⟩ : ChestStep)).1).Laid), .int .i64 (((impl_StepChest v12 (⟨7, v13⟩ : ChestStep)).1).Given)]) agg40.2 rfl rfl rfl rfl (hb69) (Nat.le_of_ble_eq_true rfl) rfl ?_
      intro w74 hk75 hs76 hb77
      have hz78 := hk75.size
      have hB79 := hB71.new hk75 (by omega)
      refine SR.q' (r_as (v := .bool _) rfl) <| SR.nil ?_
      refine W.seq ?_
      have hm80 := (((hm45).lo hk54).lo hk67).kp hk75 (fun b_ hb e' => by have e'' : b_ = g64 := e'; omega)
      have hm81 := (((hm46).lo hk54).lo hk67).kp hk75 (fun e' => by have e'' : g20 = g64 := e'; omega)
      have hm82 := (((hm47).lo hk54).lo hk67).kp hk75 (fun b_ hb e' => hd72 (by have e'' : b_ = g64 := e'; rw [← e'']; exact hb))
      have hm83 := ((hO58).lo hk67).kp hk75 (fun b_ hb e' => hd73 (by have e'' : b_ = g64 := e'; rw [← e'']; exact hb))
      refine W.regJS (fun f' w' => At f' [(0, .slice AL nL cL), (2, .bool false), (85, .bool (decide (((!((impl_StepChest v12 (⟨7, v13⟩ : ChestStep)).2)) = true) ∨ ((¬ ((((impl_StepChest v12 (⟨7, v13⟩ : ChestStep)).1).Dust) = (dustN v12 v13))) ∨ (((dustN v12 v13) < v12.Dust) ∨ ((v12.Dust + v13) < (dustN v12 v13)))))))] ∧ Lo w74 w') ?_ ?_
      · refine SR.q' (r_mv (v := .bool _) rfl) <| SR.q' (r_not rfl) <| SR.q' (r_mv (v := .bool _) rfl) <| SR.split (fun h84 => ?_) (fun h84 => ?_)
        · have hq85 := bnot_t h84
          refine SR.s' rfl <| SR.s' rfl <| SR.s' rfl <| SR.s' rfl <| SR.q' (r_pick true rfl (v := .bool true) rfl) <| SR.q' (r_mv (v := .bool _) rfl) <| SR.s' rfl <| SR.s' rfl <| SR.s' rfl <| SR.s' rfl <| SR.q' (r_pick true rfl (v := .bool true) rfl) <| SR.q' (r_mv (v := .bool _) rfl) <| SR.s' rfl <| SR.s' rfl <| SR.s' rfl <| SR.s' rfl <| SR.s' rfl <| SR.s' rfl <| SR.q' (r_pick true rfl (v := .bool true) rfl) <| SR.nil ?_
          exact ⟨_, rfl, ⟨⟨rfl, rfl, (eDT ((jot h84).1 trivial)), trivial⟩, (Lo.refl _)⟩⟩
        · have hq86 := bnot_f h84
          refine SR.g' rfl (r_fa fa40_3 rfl) <| SR.g' rfl (r_ld (v := .int .i64 (((impl_StepChest v12 (⟨7, v13⟩ : ChestStep)).1).Dust)) sca3 rfl ((hb77).cell rfl)) <| SR.g' rfl (r_mv (v := .int .i64 _) rfl) <| SR.g' rfl (r_ne rfl rfl) <| SR.q' (r_pick false rfl (v := .bool _) rfl) <| SR.q' (r_mv (v := .bool _) rfl) <| SR.splitN (fun h87 => ?_) (fun h87 => ?_)
          · refine SR.s' rfl <| SR.s' rfl <| SR.s' rfl <| SR.s' rfl <| SR.q' (r_pick true rfl (v := .bool true) rfl) <| SR.q' (r_mv (v := .bool _) rfl) <| SR.s' rfl <| SR.s' rfl <| SR.s' rfl <| SR.s' rfl <| SR.s' rfl <| SR.s' rfl <| SR.q' (r_pick true rfl (v := .bool true) rfl) <| SR.nil ?_
            exact ⟨_, rfl, ⟨⟨rfl, rfl, (eDT (((jmf h87).trans (jof (ne_true_of_eq_false h84))).1 trivial)), trivial⟩, (Lo.refl _)⟩⟩
          · refine SR.g' rfl (r_mv (v := .int .i64 _) rfl) <| SR.g' rfl (r_fa fa40_3 rfl) <| SR.g' rfl (r_ld (v := .int .i64 v12.Dust) sca3 rfl ((hm81).cell rfl)) <| SR.g' rfl (r_lt rfl rfl) <| SR.q' (r_pick false rfl (v := .bool _) rfl) <| SR.q' (r_mv (v := .bool _) rfl) <| SR.splitD (fun h88 => ?_) (fun h88 => ?_)
            · refine SR.s' rfl <| SR.s' rfl <| SR.s' rfl <| SR.s' rfl <| SR.s' rfl <| SR.s' rfl <| SR.q' (r_pick true rfl (v := .bool true) rfl) <| SR.nil ?_
              exact ⟨_, rfl, ⟨⟨rfl, rfl, (eDT ((((jot h88).trans (jmt h87)).trans (jof (ne_true_of_eq_false h84))).1 trivial)), trivial⟩, (Lo.refl _)⟩⟩
            · refine SR.g' rfl (r_mv (v := .int .i64 _) rfl) <| SR.g' rfl (r_fa fa40_3 rfl) <| SR.g' rfl (r_ld (v := .int .i64 v12.Dust) sca3 rfl ((hm81).cell rfl)) <| SR.g' rfl (r_mv (v := .int .i64 _) rfl) <| SR.g' rfl (r_add rfl rfl (by omega)) <| SR.g' rfl (r_gt rfl rfl) <| SR.q' (r_pick false rfl (v := .bool _) rfl) <| SR.nil ?_
              exact ⟨_, rfl, ⟨⟨rfl, rfl, (eDD (((jof h88).trans (jmt h87)).trans (jof (ne_true_of_eq_false h84)))), trivial⟩, (Lo.refl _)⟩⟩
      rintro f89 w90 ⟨hat91, hk92⟩
      rw [← sets_of_at hat91]
      have hz93 := hk92.size
      have hB94 := hB79.lo hk92
      refine W.cond_d rfl (fun h95 => ?_) (fun h95 => ?_)
      · refine W.seq ?_
        refine W.regS (SR.q' (r_as (v := .bool false) rfl) <| SR.nil ?_)
        refine W.ret ?_
        refine ret1 rfl (v := .bool _) rfl ?_
        exact ⟨eR (eB (z_c_laws_FnDust_96 L nL hbdL hleL h5 v12 v13 hq14 n9 hl17 hl18 hq19 h48 hq49 hq50 hq51 hq52 n56 hl61 hl62 hq63 h95)), hB94⟩
      · have hq97 : ¬ ((!((impl_StepChest v12 (⟨7, v13⟩ : ChestStep)).2)) = true) := (not_or.1 h95).1
        have hq98 : (((impl_StepChest v12 (⟨7, v13⟩ : ChestStep)).1).Dust) = (dustN v12 v13) := (Classical.not_not.1 (not_or.1 (not_or.1 h95).2).1)
        have hq99 : ¬ ((dustN v12 v13) < v12.Dust) := (not_or.1 (not_or.1 (not_or.1 h95).2).2).1
        have hq100 : ¬ ((v12.Dust + v13) < (dustN v12 v13)) := (not_or.1 (not_or.1 (not_or.1 h95).2).2).2
        refine W.skip ?_
        refine W.seq ?_
        refine W.regS (SR.q' (r_mv (v := .slice _ _ _) rfl) <| SR.call ent16 (c_spec_DrawStepsToOpen w90 L (((hm80).lo hk92)) (by omega)) rfl ?_)
        rintro e w101 ⟨A103, n104, c105, v107, rfl, hO106, hq108, hk102⟩
        refine ⟨_, rfl, ?_⟩
        have hz109 := hk102.size
        have hB110 := hB94.lo hk102
        have hl111 := hO106.len
        have hl112 := hO106.rd.bound
        have hq113 : OpLaw v107 := op_law v107
        refine SR.alloc (l := [.int .i64 0, .int .i64 0, .slice none 0 0, .int .i64 0, .int .i64 0, .int .i64 0]) tz40 rfl ?_
        intro g114 w115 hg116 hk117 hs118 hb119
        have hz120 := hk117.size
        have hB121 := hB110.lo hk117
        have hd122 : ¬ A8 = some ⟨g114, 0, none⟩ := fun e' => by have := (((hm82).lo hk92).lo hk102).base_le e'; omega
        have hd123 : ¬ A55 = some ⟨g114, 0, none⟩ := fun e' => by have := (((hm83).lo hk92).lo hk102).base_le e'; omega
        have hd124 : ¬ A103 = some ⟨g114, 0, none⟩ := fun e' => by have := (hO106).base_le e'; omega
        refine SR.store (o := 0) (vs := [.int .i64 v107.State, .int .i64 v107.Key, .slice A103 n104 c105, .int .i64 v107.Dust, .int .i64 v107.Laid, .int .i64 v107.Given]) agg40.2 rfl rfl rfl rfl (hb119) (Nat.le_of_ble_eq_true rfl) rfl ?_
        intro w125 hk126 hs127 hb128
        have hz129 := hk126.size
        have hB130 := hB121.new hk126 (by omega)
        refine SR.nil ?_
        refine W.seq ?_
        have hm131 := ((((hm80).lo hk92).lo hk102).lo hk117).kp hk126 (fun b_ hb e' => by have e'' : b_ = g114 := e'; omega)
        have hm132 := ((hO106).lo hk117).kp hk126 (fun b_ hb e' => hd124 (by have e'' : b_ = g114 := e'; rw [← e'']; exact hb))
        refine W.regS (SR.q' (r_lda (l := [.int .i64 v107.State, .int .i64 v107.Key, .slice A103 n104 c105, .int .i64 v107.Dust, .int .i64 v107.Laid, .int .i64 v107.Given]) agg40 rfl (fun _ _ hu => (hb128).cell hu) rfl) <| SR.call ent17 (c_impl_StepsToOpen w125 v107 (((hm132).rd))) rfl ?_)
        rintro e w133 ⟨rfl, hk134⟩
        refine ⟨_, rfl, ?_⟩
        have hz135 := hk134.size
        have hB136 := hB130.lo hk134
        refine SR.q' (r_mv (v := .tuple (List.toArray _)) rfl) <| SR.q' (r_ext (v := .int .i64 _) rfl rfl) <| SR.q' (r_ext (v := .bool _) rfl rfl) <| SR.q' (r_as (v := .int .i64 _) rfl) <| SR.q' (r_as (v := .bool _) rfl) <| SR.nil ?_
        refine W.seq ?_
        refine W.seq ?_
        refine W.regS (SR.q' (r_lda (l := [.int .i64 v107.State, .int .i64 v107.Key, .slice A103 n104 c105, .int .i64 v107.Dust, .int .i64 v107.Laid, .int .i64 v107.Given]) agg40 rfl (fun _ _ hu => ((hb128).lo hk134).cell hu) rfl) <| SR.call ent18 (c_spec_StepsToOpen w133 v107 ((((hm132).lo hk134).rd))) rfl ?_)
        rintro e w137 ⟨rfl, hk138⟩
        refine ⟨_, rfl, ?_⟩
        have hz139 := hk138.size
        have hB140 := hB136.lo hk138
        refine SR.q' (r_mv (v := .tuple (List.toArray _)) rfl) <| SR.q' (r_ext (v := .int .i64 _) rfl rfl) <| SR.q' (r_ext (v := .bool _) rfl rfl) <| SR.q' (r_as (v := .int .i64 _) rfl) <| SR.q' (r_as (v := .bool _) rfl) <| SR.nil ?_
        refine W.seq ?_
        have hm141 := ((hm131).lo hk134).lo hk138
        have hm142 := ((hb128).lo hk134).lo hk138
        have hm143 := ((hm132).lo hk134).lo hk138
        refine W.regS (SR.q' (r_mv (v := .int .i64 _) rfl) <| SR.q' (r_mv (v := .int .i64 _) rfl) <| SR.q' (r_ne_s rfl rfl) <| SR.q' (r_mv (v := .bool _) rfl) <| SR.g' rfl (r_mv (v := .bool _) rfl) <| SR.g' rfl (r_mv (v := .bool _) rfl) <| SR.g' rfl (r_neb_s und4 rfl rfl) <| SR.q' (r_pick false rfl (v := .bool _) rfl) <| SR.nil ?_)
        refine W.cond_f rfl ?_
        refine W.skip ?_
        refine W.seq ?_
        refine W.seq ?_
        refine W.regS (SR.q' (r_mv (v := .bool _) rfl) <| SR.nil ?_)
        refine W.cond_d rfl (fun h144 => ?_) (fun h144 => ?_)
        · have hq145 := chest_len h144
          have hq146 := chest_rng h144
          refine W.seq ?_
          refine W.regS (SR.q' (r_lda (l := [.int .i64 v107.State, .int .i64 v107.Key, .slice A103 n104 c105, .int .i64 v107.Dust, .int .i64 v107.Laid, .int .i64 v107.Given]) agg40 rfl (fun _ _ hu => (hm142).cell hu) rfl) <| SR.q' (r_fa fa40_1 rfl) <| SR.q' (r_ld (v := .int .i64 v107.Key) sca3 rfl ((hm142).cell rfl)) <| SR.q' (r_build (vs := [(0, .int .i64 4), (1, .int .i64 v107.Key)]) rfl (bld48_0_1 _ _)) <| SR.q' (r_build (vs := [(0, .int .i64 1)]) rfl (bld48_0 _)) <| SR.lit (vs := [.agg (List.toArray [.int .i64 4, .int .i64 v107.Key]), .agg (List.toArray [.int .i64 1, .int .i64 0])]) (L := ([(⟨4, v107.Key⟩ : ChestStep), (⟨1, 0⟩ : ChestStep)] : List ChestStep)) (enc := encChestStep) tel53 (fun _ => rfl) rfl rfl rfl (by decide) ?_)
          intro g147 w148 hg149 hk150 hO151
          have hz152 := hk150.size
          have hB153 := hB140.lo hk150
          have hd154 : ¬ A8 = some ⟨g147, 0, none⟩ := fun e' => by have := (((((((hm82).lo hk92).lo hk102).lo hk117).kp hk126 (fun b_ hb e' => hd122 (by have e'' : b_ = g114 := e'; rw [← e'']; exact hb))).lo hk134).lo hk138).base_le e'; omega
          have hd155 : ¬ A55 = some ⟨g147, 0, none⟩ := fun e' => by have := (((((((hm83).lo hk92).lo hk102).lo hk117).kp hk126 (fun b_ hb e' => hd123 (by have e'' : b_ = g114 := e'; rw [← e'']; exact hb))).lo hk134).lo hk138).base_le e'; omega
          have hd156 : ¬ A103 = some ⟨g147, 0, none⟩ := fun e' => by have := (hm143).base_le e'; omega
          refine SR.call ent19 (c_impl_RunChest w148 v107 ((((hm143).lo hk150).rd)) ([(⟨4, v107.Key⟩ : ChestStep), (⟨1, 0⟩ : ChestStep)] : List ChestStep) (((hO151).rd))) rfl ?_
          rintro e w157 ⟨A159, n160, c161, rfl, hO162, hk158⟩
          refine ⟨_, rfl, ?_⟩
          have hz163 := hk158.size
          have hB164 := hB153.lo hk158
          have hl165 := hO162.len
          have hl166 := hO162.rd.bound
          have hq167 := runF_len v107 ([(⟨4, v107.Key⟩ : ChestStep), (⟨1, 0⟩ : ChestStep)] : List ChestStep)
          refine SR.q' (r_mv (v := .tuple (List.toArray _)) rfl) <| SR.q' (r_ext (v := .agg (List.toArray _)) rfl rfl) <| SR.q' (r_ext (v := .int .i64 _) rfl rfl) <| SR.q' (r_ext (v := .bool _) rfl rfl) <| SR.alloc (l := [.int .i64 0, .int .i64 0, .slice none 0 0, .int .i64 0, .int .i64 0, .int .i64 0]) tz40 rfl ?_
          intro g168 w169 hg170 hk171 hs172 hb173
          have hz174 := hk171.size
          have hB175 := hB164.lo hk171
          have hd176 : ¬ A8 = some ⟨g168, 0, none⟩ := fun e' => by have := (((((((((hm82).lo hk92).lo hk102).lo hk117).kp hk126 (fun b_ hb e' => hd122 (by have e'' : b_ = g114 := e'; rw [← e'']; exact hb))).lo hk134).lo hk138).lo hk150).lo hk158).base_le e'; omega
          have hd177 : ¬ A55 = some ⟨g168, 0, none⟩ := fun e' => by have := (((((((((hm83).lo hk92).lo hk102).lo hk117).kp hk126 (fun b_ hb e' => hd123 (by have e'' : b_ = g114 := e'; rw [← e'']; exact hb))).lo hk134).lo hk138).lo hk150).lo hk158).base_le e'; omega
          have hd178 : ¬ A103 = some ⟨g168, 0, none⟩ := fun e' => by have := (((hm143).lo hk150).lo hk158).base_le e'; omega
          have hd179 : ¬ (some (⟨g147, 0, none⟩ : Addr)) = some ⟨g168, 0, none⟩ := fun e' => by have := ((hO151).lo hk158).base_le e'; omega
          have hd180 : ¬ A159 = some ⟨g168, 0, none⟩ := fun e' => by have := (hO162).base_le e'; omega
          refine SR.store (o := 0) (vs := [.int .i64 (((runF v107 ([(⟨4, v107.Key⟩ : ChestStep), (⟨1, 0⟩ : ChestStep)] : List ChestStep)).1).State), .int .i64 (((runF v107 ([(⟨4, v107.Key⟩ : ChestStep), (⟨1, 0⟩ : ChestStep)] : List ChestStep)).1).Key), .slice A159 n160 c161, .int .i64 (((runF v107 ([(⟨4, v107.Key⟩ : ChestStep), (⟨1, 0⟩ : ChestStep)] : List ChestStep)).1).Dust), .int .i64 (((runF v107 ([(⟨4, v107.Key⟩ : ChestStep), (⟨1, 0⟩ : ChestStep)] : List ChestStep)).1).Laid), .int .i64 (((runF v107 ([(⟨4, v107.Key⟩ : ChestStep), (⟨1, 0⟩ : ChestStep)] : List ChestStep)).1).Given)]) agg40.2 rfl rfl rfl rfl (hb173) (Nat.le_of_ble_eq_true rfl) rfl ?_
          intro w181 hk182 hs183 hb184
          have hz185 := hk182.size
          have hB186 := hB175.new hk182 (by omega)
          refine SR.q' (r_as (v := .int .i64 _) rfl) <| SR.q' (r_as (v := .bool _) rfl) <| SR.nil ?_
          refine W.seq ?_
          have hm187 := ((((hm141).lo hk150).lo hk158).lo hk171).kp hk182 (fun b_ hb e' => by have e'' : b_ = g168 := e'; omega)
          have hm188 := ((hO162).lo hk171).kp hk182 (fun b_ hb e' => hd180 (by have e'' : b_ = g168 := e'; rw [← e'']; exact hb))
          refine W.regJS (fun f' w' => At f' [(0, .slice AL nL cL), (2, .bool false), (129, .bool (decide (((!((runF v107 ([(⟨4, v107.Key⟩ : ChestStep), (⟨1, 0⟩ : ChestStep)] : List ChestStep)).2.2)) = true) ∨ ((¬ (((runF v107 ([(⟨4, v107.Key⟩ : ChestStep), (⟨1, 0⟩ : ChestStep)] : List ChestStep)).2.1) = (openN v107))) ∨ (¬ ((((runF v107 ([(⟨4, v107.Key⟩ : ChestStep), (⟨1, 0⟩ : ChestStep)] : List ChestStep)).1).State) = 1))))))] ∧ Lo w181 w') ?_ ?_
          · refine SR.q' (r_mv (v := .bool _) rfl) <| SR.q' (r_not rfl) <| SR.q' (r_mv (v := .bool _) rfl) <| SR.split (fun h189 => ?_) (fun h189 => ?_)
            · have hq190 := bnot_t h189
              refine SR.s' rfl <| SR.s' rfl <| SR.s' rfl <| SR.q' (r_pick true rfl (v := .bool true) rfl) <| SR.q' (r_mv (v := .bool _) rfl) <| SR.s' rfl <| SR.s' rfl <| SR.s' rfl <| SR.q' (r_pick true rfl (v := .bool true) rfl) <| SR.nil ?_
              exact ⟨_, rfl, ⟨⟨rfl, rfl, (eDT ((jot h189).1 trivial)), trivial⟩, (Lo.refl _)⟩⟩
            · have hq191 := bnot_f h189
              refine SR.g' rfl (r_mv (v := .int .i64 _) rfl) <| SR.g' rfl (r_mv (v := .int .i64 _) rfl) <| SR.g' rfl (r_ne rfl rfl) <| SR.q' (r_pick false rfl (v := .bool _) rfl) <| SR.q' (r_mv (v := .bool _) rfl) <| SR.splitN (fun h192 => ?_) (fun h192 => ?_)
              · refine SR.s' rfl <| SR.s' rfl <| SR.s' rfl <| SR.q' (r_pick true rfl (v := .bool true) rfl) <| SR.nil ?_
                exact ⟨_, rfl, ⟨⟨rfl, rfl, (eDT (((jmf h192).trans (jof (ne_true_of_eq_false h189))).1 trivial)), trivial⟩, (Lo.refl _)⟩⟩
              · refine SR.g' rfl (r_fa fa40_0 rfl) <| SR.g' rfl (r_ld (v := .int .i64 (((runF v107 ([(⟨4, v107.Key⟩ : ChestStep), (⟨1, 0⟩ : ChestStep)] : List ChestStep)).1).State)) sca3 rfl ((hb184).cell rfl)) <| SR.g' rfl (r_ne rfl rfl) <| SR.q' (r_pick false rfl (v := .bool _) rfl) <| SR.nil ?_
                exact ⟨_, rfl, ⟨⟨rfl, rfl, (eND ((jmt h192).trans (jof (ne_true_of_eq_false h189)))), trivial⟩, (Lo.refl _)⟩⟩
          rintro f193 w194 ⟨hat195, hk196⟩
          rw [← sets_of_at hat195]
          have hz197 := hk196.size
          have hB198 := hB186.lo hk196
          refine W.cond_d rfl (fun h199 => ?_) (fun h199 => ?_)
          · refine W.seq ?_
            refine W.regS (SR.q' (r_as (v := .bool false) rfl) <| SR.nil ?_)
            refine W.ret ?_
            refine ret1 rfl (v := .bool _) rfl ?_
            exact ⟨eR (eB (z_c_laws_FnDust_200 L nL hbdL hleL h5 v12 v13 hq14 n9 hl17 hl18 hq19 h48 hq49 hq50 hq51 hq52 n56 hl61 hl62 hq63 h95 hq97 hq98 hq99 hq100 v107 hq108 n104 hl111 hl112 hq113 h144 hq145 hq146 n160 hl165 hl166 hq167 h199)), hB198⟩
          · have hq201 : ¬ ((!((runF v107 ([(⟨4, v107.Key⟩ : ChestStep), (⟨1, 0⟩ : ChestStep)] : List ChestStep)).2.2)) = true) := (not_or.1 h199).1
            have hq202 : ((runF v107 ([(⟨4, v107.Key⟩ : ChestStep), (⟨1, 0⟩ : ChestStep)] : List ChestStep)).2.1) = (openN v107) := (Classical.not_not.1 (not_or.1 (not_or.1 h199).2).1)
            have hq203 : (((runF v107 ([(⟨4, v107.Key⟩ : ChestStep), (⟨1, 0⟩ : ChestStep)] : List ChestStep)).1).State) = 1 := (Classical.not_not.1 (not_or.1 (not_or.1 h199).2).2)
            refine W.skip ?_
            refine W.seq ?_
            refine W.regS (SR.q' (r_mv (v := .slice _ _ _) rfl) <| SR.call ent20 (c_spec_DrawTopMap w194 L (((hm187).lo hk196)) (by omega)) rfl ?_)
            rintro e w204 ⟨A206, n207, c208, v210, rfl, hO209, hq211, hk205⟩
            refine ⟨_, rfl, ?_⟩
            have hz212 := hk205.size
            have hB213 := hB198.lo hk205
            have hl214 := hO209.len
            have hl215 := hO209.rd.bound
            have hq216 : TopLaw v210 := (rfl : TopLaw v210)
            refine SR.alloc (l := [.int .i64 0, .int .i64 0, .slice none 0 0, .int .i64 0, .int .i64 0, .int .i64 0]) tz40 rfl ?_
            intro g217 w218 hg219 hk220 hs221 hb222
            have hz223 := hk220.size
            have hB224 := hB213.lo hk220
            have hd225 : ¬ A8 = some ⟨g217, 0, none⟩ := fun e' => by have := (((((((((((((hm82).lo hk92).lo hk102).lo hk117).kp hk126 (fun b_ hb e' => hd122 (by have e'' : b_ = g114 := e'; rw [← e'']; exact hb))).lo hk134).lo hk138).lo hk150).lo hk158).lo hk171).kp hk182 (fun b_ hb e' => hd176 (by have e'' : b_ = g168 := e'; rw [← e'']; exact hb))).lo hk196).lo hk205).base_le e'; omega
            have hd226 : ¬ A55 = some ⟨g217, 0, none⟩ := fun e' => by have := (((((((((((((hm83).lo hk92).lo hk102).lo hk117).kp hk126 (fun b_ hb e' => hd123 (by have e'' : b_ = g114 := e'; rw [← e'']; exact hb))).lo hk134).lo hk138).lo hk150).lo hk158).lo hk171).kp hk182 (fun b_ hb e' => hd177 (by have e'' : b_ = g168 := e'; rw [← e'']; exact hb))).lo hk196).lo hk205).base_le e'; omega
            have hd227 : ¬ A103 = some ⟨g217, 0, none⟩ := fun e' => by have := (((((((hm143).lo hk150).lo hk158).lo hk171).kp hk182 (fun b_ hb e' => hd178 (by have e'' : b_ = g168 := e'; rw [← e'']; exact hb))).lo hk196).lo hk205).base_le e'; omega
            have hd228 : ¬ (some (⟨g147, 0, none⟩ : Addr)) = some ⟨g217, 0, none⟩ := fun e' => by have := ((((((hO151).lo hk158).lo hk171).kp hk182 (fun b_ hb e' => hd179 (by have e'' : b_ = g168 := e'; rw [← e'']; exact hb))).lo hk196).lo hk205).base_le e'; omega
            have hd229 : ¬ A159 = some ⟨g217, 0, none⟩ := fun e' => by have := (((hm188).lo hk196).lo hk205).base_le e'; omega
            have hd230 : ¬ A206 = some ⟨g217, 0, none⟩ := fun e' => by have := (hO209).base_le e'; omega
            refine SR.store (o := 0) (vs := [.int .i64 v210.State, .int .i64 v210.Key, .slice A206 n207 c208, .int .i64 v210.Dust, .int .i64 v210.Laid, .int .i64 v210.Given]) agg40.2 rfl rfl rfl rfl (hb222) (Nat.le_of_ble_eq_true rfl) rfl ?_
            intro w231 hk232 hs233 hb234
            have hz235 := hk232.size
            have hB236 := hB224.new hk232 (by omega)
            refine SR.nil ?_
            refine W.seq ?_
            have hm237 := ((((hm187).lo hk196).lo hk205).lo hk220).kp hk232 (fun b_ hb e' => by have e'' : b_ = g217 := e'; omega)
            have hm238 := ((hO209).lo hk220).kp hk232 (fun b_ hb e' => hd230 (by have e'' : b_ = g217 := e'; rw [← e'']; exact hb))
            refine W.regS (SR.q' (r_lda (l := [.int .i64 v210.State, .int .i64 v210.Key, .slice A206 n207 c208, .int .i64 v210.Dust, .int .i64 v210.Laid, .int .i64 v210.Given]) agg40 rfl (fun _ _ hu => (hb234).cell hu) rfl) <| SR.call ent21 (c_impl_TopMap w231 v210 (((hm238).rd))) rfl ?_)
            rintro e w239 ⟨rfl, hk240⟩
            refine ⟨_, rfl, ?_⟩
            have hz241 := hk240.size
            have hB242 := hB236.lo hk240
            refine SR.q' (r_mv (v := .tuple (List.toArray _)) rfl) <| SR.q' (r_ext (v := .int .i64 _) rfl rfl) <| SR.q' (r_ext (v := .bool _) rfl rfl) <| SR.q' (r_as (v := .int .i64 _) rfl) <| SR.q' (r_as (v := .bool _) rfl) <| SR.nil ?_
            refine W.seq ?_
            refine W.seq ?_
            refine W.regS (SR.q' (r_lda (l := [.int .i64 v210.State, .int .i64 v210.Key, .slice A206 n207 c208, .int .i64 v210.Dust, .int .i64 v210.Laid, .int .i64 v210.Given]) agg40 rfl (fun _ _ hu => ((hb234).lo hk240).cell hu) rfl) <| SR.call ent22 (c_spec_TopMap w239 v210 ((((hm238).lo hk240).rd))) rfl ?_)
            rintro e w243 ⟨rfl, hk244⟩
            refine ⟨_, rfl, ?_⟩
            have hz245 := hk244.size
            have hB246 := hB242.lo hk244
            refine SR.q' (r_mv (v := .tuple (List.toArray _)) rfl) <| SR.q' (r_ext (v := .int .i64 _) rfl rfl) <| SR.q' (r_ext (v := .bool _) rfl rfl) <| SR.q' (r_as (v := .int .i64 _) rfl) <| SR.q' (r_as (v := .bool _) rfl) <| SR.nil ?_
            refine W.seq ?_
            have hm247 := ((hm237).lo hk240).lo hk244
            refine W.regJS (fun f' w' => At f' [(0, .slice AL nL cL), (2, .bool false), (149, .bool (decide ((¬ (((impl_TopMap v210).1) = ((spec_TopMap v210).1))) ∨ ((!(((impl_TopMap v210).2) == ((spec_TopMap v210).2))) = true))))] ∧ Lo w243 w') ?_ ?_
            · refine SR.q' (r_mv (v := .int .i64 _) rfl) <| SR.q' (r_mv (v := .int .i64 _) rfl) <| SR.q' (r_ne rfl rfl) <| SR.q' (r_mv (v := .bool _) rfl) <| SR.splitN (fun h248 => ?_) (fun h248 => ?_)
              · refine SR.s' rfl <| SR.s' rfl <| SR.s' rfl <| SR.q' (r_pick true rfl (v := .bool true) rfl) <| SR.nil ?_
                exact ⟨_, rfl, ⟨⟨rfl, rfl, (eDT ((jmf h248).1 trivial)), trivial⟩, (Lo.refl _)⟩⟩
              · refine SR.g' rfl (r_mv (v := .bool _) rfl) <| SR.g' rfl (r_mv (v := .bool _) rfl) <| SR.g' rfl (r_neb und4 rfl rfl) <| SR.q' (r_pick false rfl (v := .bool _) rfl) <| SR.nil ?_
                exact ⟨_, rfl, ⟨⟨rfl, rfl, (eBD (jmt h248)), trivial⟩, (Lo.refl _)⟩⟩
            rintro f249 w250 ⟨hat251, hk252⟩
            rw [← sets_of_at hat251]
            have hz253 := hk252.size
            have hB254 := hB246.lo hk252
            refine W.cond_d rfl (fun h255 => ?_) (fun h255 => ?_)
            · refine W.seq ?_
              refine W.regS (SR.q' (r_as (v := .bool false) rfl) <| SR.nil ?_)
              refine W.ret ?_
              refine ret1 rfl (v := .bool _) rfl ?_
              exact ⟨eR (eB (z_c_laws_FnDust_256 L nL hbdL hleL h5 v12 v13 hq14 n9 hl17 hl18 hq19 h48 hq49 hq50 hq51 hq52 n56 hl61 hl62 hq63 h95 hq97 hq98 hq99 hq100 v107 hq108 n104 hl111 hl112 hq113 h144 hq145 hq146 n160 hl165 hl166 hq167 h199 hq201 hq202 hq203 v210 hq211 n207 hl214 hl215 hq216 h255)), hB254⟩
            · have hq257 : ((impl_TopMap v210).1) = ((spec_TopMap v210).1) := (Classical.not_not.1 (not_or.1 h255).1)
              have hq258 : ¬ ((!(((impl_TopMap v210).2) == ((spec_TopMap v210).2))) = true) := (not_or.1 h255).2
              refine W.skip ?_
              refine W.seq ?_
              refine W.regS (SR.q' (r_mv (v := .slice _ _ _) rfl) <| SR.call ent23 (c_spec_DrawChestText w250 L (((hm247).lo hk252)) (by omega)) rfl ?_)
              rintro e w259 ⟨A261, n262, c263, v265, rfl, hO264, hq266, hk260⟩
              refine ⟨_, rfl, ?_⟩
              have hz267 := hk260.size
              have hB268 := hB254.lo hk260
              have hl269 := hO264.len
              have hl270 := hO264.rd.bound
              refine SR.alloc (l := [.int .i64 0, .int .i64 0, .slice none 0 0, .int .i64 0, .int .i64 0, .int .i64 0]) tz40 rfl ?_
              intro g271 w272 hg273 hk274 hs275 hb276
              have hz277 := hk274.size
              have hB278 := hB268.lo hk274
              have hd279 : ¬ A8 = some ⟨g271, 0, none⟩ := fun e' => by have := (((((((((((((((((((hm82).lo hk92).lo hk102).lo hk117).kp hk126 (fun b_ hb e' => hd122 (by have e'' : b_ = g114 := e'; rw [← e'']; exact hb))).lo hk134).lo hk138).lo hk150).lo hk158).lo hk171).kp hk182 (fun b_ hb e' => hd176 (by have e'' : b_ = g168 := e'; rw [← e'']; exact hb))).lo hk196).lo hk205).lo hk220).kp hk232 (fun b_ hb e' => hd225 (by have e'' : b_ = g217 := e'; rw [← e'']; exact hb))).lo hk240).lo hk244).lo hk252).lo hk260).base_le e'; omega
              have hd280 : ¬ A55 = some ⟨g271, 0, none⟩ := fun e' => by have := (((((((((((((((((((hm83).lo hk92).lo hk102).lo hk117).kp hk126 (fun b_ hb e' => hd123 (by have e'' : b_ = g114 := e'; rw [← e'']; exact hb))).lo hk134).lo hk138).lo hk150).lo hk158).lo hk171).kp hk182 (fun b_ hb e' => hd177 (by have e'' : b_ = g168 := e'; rw [← e'']; exact hb))).lo hk196).lo hk205).lo hk220).kp hk232 (fun b_ hb e' => hd226 (by have e'' : b_ = g217 := e'; rw [← e'']; exact hb))).lo hk240).lo hk244).lo hk252).lo hk260).base_le e'; omega
              have hd281 : ¬ A103 = some ⟨g271, 0, none⟩ := fun e' => by have := (((((((((((((hm143).lo hk150).lo hk158).lo hk171).kp hk182 (fun b_ hb e' => hd178 (by have e'' : b_ = g168 := e'; rw [← e'']; exact hb))).lo hk196).lo hk205).lo hk220).kp hk232 (fun b_ hb e' => hd227 (by have e'' : b_ = g217 := e'; rw [← e'']; exact hb))).lo hk240).lo hk244).lo hk252).lo hk260).base_le e'; omega
              have hd282 : ¬ (some (⟨g147, 0, none⟩ : Addr)) = some ⟨g271, 0, none⟩ := fun e' => by have := ((((((((((((hO151).lo hk158).lo hk171).kp hk182 (fun b_ hb e' => hd179 (by have e'' : b_ = g168 := e'; rw [← e'']; exact hb))).lo hk196).lo hk205).lo hk220).kp hk232 (fun b_ hb e' => hd228 (by have e'' : b_ = g217 := e'; rw [← e'']; exact hb))).lo hk240).lo hk244).lo hk252).lo hk260).base_le e'; omega
              have hd283 : ¬ A159 = some ⟨g271, 0, none⟩ := fun e' => by have := (((((((((hm188).lo hk196).lo hk205).lo hk220).kp hk232 (fun b_ hb e' => hd229 (by have e'' : b_ = g217 := e'; rw [← e'']; exact hb))).lo hk240).lo hk244).lo hk252).lo hk260).base_le e'; omega
              have hd284 : ¬ A206 = some ⟨g271, 0, none⟩ := fun e' => by have := (((((hm238).lo hk240).lo hk244).lo hk252).lo hk260).base_le e'; omega
              have hd285 : ¬ A261 = some ⟨g271, 0, none⟩ := fun e' => by have := (hO264).base_le e'; omega
              refine SR.store (o := 0) (vs := [.int .i64 v265.State, .int .i64 v265.Key, .slice A261 n262 c263, .int .i64 v265.Dust, .int .i64 v265.Laid, .int .i64 v265.Given]) agg40.2 rfl rfl rfl rfl (hb276) (Nat.le_of_ble_eq_true rfl) rfl ?_
              intro w286 hk287 hs288 hb289
              have hz290 := hk287.size
              have hB291 := hB278.new hk287 (by omega)
              refine SR.nil ?_
              refine W.seq ?_
              have hm292 := ((hO264).lo hk274).kp hk287 (fun b_ hb e' => hd285 (by have e'' : b_ = g271 := e'; rw [← e'']; exact hb))
              refine W.regS (SR.q' (r_lda (l := [.int .i64 v265.State, .int .i64 v265.Key, .slice A261 n262 c263, .int .i64 v265.Dust, .int .i64 v265.Laid, .int .i64 v265.Given]) agg40 rfl (fun _ _ hu => (hb289).cell hu) rfl) <| SR.call ent24 (c_impl_ChestText w286 v265 (((hm292).rd)) (hE.lo (hB291))) rfl ?_)
              rintro e w293 ⟨rfl, hk294⟩
              refine ⟨_, rfl, ?_⟩
              have hz295 := hk294.size
              have hB296 := hB291.lo hk294
              refine SR.q' (r_mv (v := .tuple (List.toArray _)) rfl) <| SR.q' (r_ext (v := str _) rfl rfl) <| SR.q' (r_ext (v := .bool _) rfl rfl) <| SR.q' (r_as (v := str _) rfl) <| SR.q' (r_as (v := .bool _) rfl) <| SR.nil ?_
              refine W.seq ?_
              refine W.regS (SR.q' (r_lda (l := [.int .i64 v265.State, .int .i64 v265.Key, .slice A261 n262 c263, .int .i64 v265.Dust, .int .i64 v265.Laid, .int .i64 v265.Given]) agg40 rfl (fun _ _ hu => ((hb289).lo hk294).cell hu) rfl) <| SR.call ent25 (c_spec_ChestText w293 v265 ((((hm292).lo hk294).rd))) rfl ?_)
              rintro e w297 ⟨rfl, hk298⟩
              refine ⟨_, rfl, ?_⟩
              have hz299 := hk298.size
              have hB300 := hB296.lo hk298
              refine SR.q' (r_mv (v := .tuple (List.toArray _)) rfl) <| SR.q' (r_ext (v := str _) rfl rfl) <| SR.q' (r_ext (v := .bool _) rfl rfl) <| SR.q' (r_as (v := str _) rfl) <| SR.q' (r_as (v := .bool _) rfl) <| SR.nil ?_
              refine W.seq ?_
              have hm301 := ((hb289).lo hk294).lo hk298
              have hm302 := ((hm292).lo hk294).lo hk298
              refine W.regS (SR.q' (r_mv (v := str _) rfl) <| SR.q' (r_mv (v := str _) rfl) <| SR.q' (r_eqs_s (s := chX v265) rfl rfl) <| SR.q' (r_mv (v := .bool _) rfl) <| SR.g' rfl (r_mv (v := .bool _) rfl) <| SR.g' rfl (r_mv (v := .bool _) rfl) <| SR.g' rfl (r_eqb_s und4 rfl rfl) <| SR.q' (r_pick true rfl (v := .bool _) rfl) <| SR.q' (r_mv (v := .bool _) rfl) <| SR.g' rfl (r_mv (v := .bool _) rfl) <| SR.g' rfl (r_lda (l := [.int .i64 v265.State, .int .i64 v265.Key, .slice A261 n262 c263, .int .i64 v265.Dust, .int .i64 v265.Laid, .int .i64 v265.Given]) agg40 rfl (fun _ _ hu => (hm301).cell hu) rfl) <| SR.gcall rfl ent26 (c_impl_IsChest w297 v265 (((hm302).rd))) rfl ?_)
              rintro e w303 ⟨rfl, hk304⟩
              refine ⟨_, rfl, ?_⟩
              have hz305 := hk304.size
              have hB306 := hB300.lo hk304
              refine SR.g' rfl (r_eqb_s und4 rfl rfl) <| SR.q' (r_pick true rfl (v := .bool _) rfl) <| SR.q' (r_as (v := .bool _) rfl) <| SR.nil ?_
              refine W.ret ?_
              refine ret1 rfl (v := .bool _) rfl ?_
              exact ⟨eR rfl, hB306⟩
        · refine W.skip ?_
          refine W.seq ?_
          refine W.regS (SR.q' (r_mv (v := .slice _ _ _) rfl) <| SR.call ent20 (c_spec_DrawTopMap w137 L ((hm141)) (by omega)) rfl ?_)
          rintro e w307 ⟨A309, n310, c311, v313, rfl, hO312, hq314, hk308⟩
          refine ⟨_, rfl, ?_⟩
          have hz315 := hk308.size
          have hB316 := hB140.lo hk308
          have hl317 := hO312.len
          have hl318 := hO312.rd.bound
          have hq319 : TopLaw v313 := (rfl : TopLaw v313)
          refine SR.alloc (l := [.int .i64 0, .int .i64 0, .slice none 0 0, .int .i64 0, .int .i64 0, .int .i64 0]) tz40 rfl ?_
          intro g320 w321 hg322 hk323 hs324 hb325
          have hz326 := hk323.size
          have hB327 := hB316.lo hk323
          have hd328 : ¬ A8 = some ⟨g320, 0, none⟩ := fun e' => by have := ((((((((hm82).lo hk92).lo hk102).lo hk117).kp hk126 (fun b_ hb e' => hd122 (by have e'' : b_ = g114 := e'; rw [← e'']; exact hb))).lo hk134).lo hk138).lo hk308).base_le e'; omega
          have hd329 : ¬ A55 = some ⟨g320, 0, none⟩ := fun e' => by have := ((((((((hm83).lo hk92).lo hk102).lo hk117).kp hk126 (fun b_ hb e' => hd123 (by have e'' : b_ = g114 := e'; rw [← e'']; exact hb))).lo hk134).lo hk138).lo hk308).base_le e'; omega
          have hd330 : ¬ A103 = some ⟨g320, 0, none⟩ := fun e' => by have := ((hm143).lo hk308).base_le e'; omega
          have hd331 : ¬ A309 = some ⟨g320, 0, none⟩ := fun e' => by have := (hO312).base_le e'; omega
          refine SR.store (o := 0) (vs := [.int .i64 v313.State, .int .i64 v313.Key, .slice A309 n310 c311, .int .i64 v313.Dust, .int .i64 v313.Laid, .int .i64 v313.Given]) agg40.2 rfl rfl rfl rfl (hb325) (Nat.le_of_ble_eq_true rfl) rfl ?_
          intro w332 hk333 hs334 hb335
          have hz336 := hk333.size
          have hB337 := hB327.new hk333 (by omega)
          refine SR.nil ?_
          refine W.seq ?_
          have hm338 := (((hm141).lo hk308).lo hk323).kp hk333 (fun b_ hb e' => by have e'' : b_ = g320 := e'; omega)
          have hm339 := ((hO312).lo hk323).kp hk333 (fun b_ hb e' => hd331 (by have e'' : b_ = g320 := e'; rw [← e'']; exact hb))
          refine W.regS (SR.q' (r_lda (l := [.int .i64 v313.State, .int .i64 v313.Key, .slice A309 n310 c311, .int .i64 v313.Dust, .int .i64 v313.Laid, .int .i64 v313.Given]) agg40 rfl (fun _ _ hu => (hb335).cell hu) rfl) <| SR.call ent21 (c_impl_TopMap w332 v313 (((hm339).rd))) rfl ?_)
          rintro e w340 ⟨rfl, hk341⟩
          refine ⟨_, rfl, ?_⟩
          have hz342 := hk341.size
          have hB343 := hB337.lo hk341
          refine SR.q' (r_mv (v := .tuple (List.toArray _)) rfl) <| SR.q' (r_ext (v := .int .i64 _) rfl rfl) <| SR.q' (r_ext (v := .bool _) rfl rfl) <| SR.q' (r_as (v := .int .i64 _) rfl) <| SR.q' (r_as (v := .bool _) rfl) <| SR.nil ?_
          refine W.seq ?_
          refine W.seq ?_
          refine W.regS (SR.q' (r_lda (l := [.int .i64 v313.State, .int .i64 v313.Key, .slice A309 n310 c311, .int .i64 v313.Dust, .int .i64 v313.Laid, .int .i64 v313.Given]) agg40 rfl (fun _ _ hu => ((hb335).lo hk341).cell hu) rfl) <| SR.call ent22 (c_spec_TopMap w340 v313 ((((hm339).lo hk341).rd))) rfl ?_)
          rintro e w344 ⟨rfl, hk345⟩
          refine ⟨_, rfl, ?_⟩
          have hz346 := hk345.size
          have hB347 := hB343.lo hk345
          refine SR.q' (r_mv (v := .tuple (List.toArray _)) rfl) <| SR.q' (r_ext (v := .int .i64 _) rfl rfl) <| SR.q' (r_ext (v := .bool _) rfl rfl) <| SR.q' (r_as (v := .int .i64 _) rfl) <| SR.q' (r_as (v := .bool _) rfl) <| SR.nil ?_
          refine W.seq ?_
          have hm348 := ((hm338).lo hk341).lo hk345
          refine W.regJS (fun f' w' => At f' [(0, .slice AL nL cL), (2, .bool false), (149, .bool (decide ((¬ (((impl_TopMap v313).1) = ((spec_TopMap v313).1))) ∨ ((!(((impl_TopMap v313).2) == ((spec_TopMap v313).2))) = true))))] ∧ Lo w344 w') ?_ ?_
          · refine SR.q' (r_mv (v := .int .i64 _) rfl) <| SR.q' (r_mv (v := .int .i64 _) rfl) <| SR.q' (r_ne rfl rfl) <| SR.q' (r_mv (v := .bool _) rfl) <| SR.splitN (fun h349 => ?_) (fun h349 => ?_)
            · refine SR.s' rfl <| SR.s' rfl <| SR.s' rfl <| SR.q' (r_pick true rfl (v := .bool true) rfl) <| SR.nil ?_
              exact ⟨_, rfl, ⟨⟨rfl, rfl, (eDT ((jmf h349).1 trivial)), trivial⟩, (Lo.refl _)⟩⟩
            · refine SR.g' rfl (r_mv (v := .bool _) rfl) <| SR.g' rfl (r_mv (v := .bool _) rfl) <| SR.g' rfl (r_neb und4 rfl rfl) <| SR.q' (r_pick false rfl (v := .bool _) rfl) <| SR.nil ?_
              exact ⟨_, rfl, ⟨⟨rfl, rfl, (eBD (jmt h349)), trivial⟩, (Lo.refl _)⟩⟩
          rintro f350 w351 ⟨hat352, hk353⟩
          rw [← sets_of_at hat352]
          have hz354 := hk353.size
          have hB355 := hB347.lo hk353
          refine W.cond_d rfl (fun h356 => ?_) (fun h356 => ?_)
          · refine W.seq ?_
            refine W.regS (SR.q' (r_as (v := .bool false) rfl) <| SR.nil ?_)
            refine W.ret ?_
            refine ret1 rfl (v := .bool _) rfl ?_
            exact ⟨eR (eB (z_c_laws_FnDust_357 L nL hbdL hleL h5 v12 v13 hq14 n9 hl17 hl18 hq19 h48 hq49 hq50 hq51 hq52 n56 hl61 hl62 hq63 h95 hq97 hq98 hq99 hq100 v107 hq108 n104 hl111 hl112 hq113 h144 v313 hq314 n310 hl317 hl318 hq319 h356)), hB355⟩
          · have hq358 : ((impl_TopMap v313).1) = ((spec_TopMap v313).1) := (Classical.not_not.1 (not_or.1 h356).1)
            have hq359 : ¬ ((!(((impl_TopMap v313).2) == ((spec_TopMap v313).2))) = true) := (not_or.1 h356).2
            refine W.skip ?_
            refine W.seq ?_
            refine W.regS (SR.q' (r_mv (v := .slice _ _ _) rfl) <| SR.call ent23 (c_spec_DrawChestText w351 L (((hm348).lo hk353)) (by omega)) rfl ?_)
            rintro e w360 ⟨A362, n363, c364, v366, rfl, hO365, hq367, hk361⟩
            refine ⟨_, rfl, ?_⟩
            have hz368 := hk361.size
            have hB369 := hB355.lo hk361
            have hl370 := hO365.len
            have hl371 := hO365.rd.bound
            refine SR.alloc (l := [.int .i64 0, .int .i64 0, .slice none 0 0, .int .i64 0, .int .i64 0, .int .i64 0]) tz40 rfl ?_
            intro g372 w373 hg374 hk375 hs376 hb377
            have hz378 := hk375.size
            have hB379 := hB369.lo hk375
            have hd380 : ¬ A8 = some ⟨g372, 0, none⟩ := fun e' => by have := ((((((((((((((hm82).lo hk92).lo hk102).lo hk117).kp hk126 (fun b_ hb e' => hd122 (by have e'' : b_ = g114 := e'; rw [← e'']; exact hb))).lo hk134).lo hk138).lo hk308).lo hk323).kp hk333 (fun b_ hb e' => hd328 (by have e'' : b_ = g320 := e'; rw [← e'']; exact hb))).lo hk341).lo hk345).lo hk353).lo hk361).base_le e'; omega
            have hd381 : ¬ A55 = some ⟨g372, 0, none⟩ := fun e' => by have := ((((((((((((((hm83).lo hk92).lo hk102).lo hk117).kp hk126 (fun b_ hb e' => hd123 (by have e'' : b_ = g114 := e'; rw [← e'']; exact hb))).lo hk134).lo hk138).lo hk308).lo hk323).kp hk333 (fun b_ hb e' => hd329 (by have e'' : b_ = g320 := e'; rw [← e'']; exact hb))).lo hk341).lo hk345).lo hk353).lo hk361).base_le e'; omega
            have hd382 : ¬ A103 = some ⟨g372, 0, none⟩ := fun e' => by have := ((((((((hm143).lo hk308).lo hk323).kp hk333 (fun b_ hb e' => hd330 (by have e'' : b_ = g320 := e'; rw [← e'']; exact hb))).lo hk341).lo hk345).lo hk353).lo hk361).base_le e'; omega
            have hd383 : ¬ A309 = some ⟨g372, 0, none⟩ := fun e' => by have := (((((hm339).lo hk341).lo hk345).lo hk353).lo hk361).base_le e'; omega
            have hd384 : ¬ A362 = some ⟨g372, 0, none⟩ := fun e' => by have := (hO365).base_le e'; omega
            refine SR.store (o := 0) (vs := [.int .i64 v366.State, .int .i64 v366.Key, .slice A362 n363 c364, .int .i64 v366.Dust, .int .i64 v366.Laid, .int .i64 v366.Given]) agg40.2 rfl rfl rfl rfl (hb377) (Nat.le_of_ble_eq_true rfl) rfl ?_
            intro w385 hk386 hs387 hb388
            have hz389 := hk386.size
            have hB390 := hB379.new hk386 (by omega)
            refine SR.nil ?_
            refine W.seq ?_
            have hm391 := ((hO365).lo hk375).kp hk386 (fun b_ hb e' => hd384 (by have e'' : b_ = g372 := e'; rw [← e'']; exact hb))
            refine W.regS (SR.q' (r_lda (l := [.int .i64 v366.State, .int .i64 v366.Key, .slice A362 n363 c364, .int .i64 v366.Dust, .int .i64 v366.Laid, .int .i64 v366.Given]) agg40 rfl (fun _ _ hu => (hb388).cell hu) rfl) <| SR.call ent24 (c_impl_ChestText w385 v366 (((hm391).rd)) (hE.lo (hB390))) rfl ?_)
            rintro e w392 ⟨rfl, hk393⟩
            refine ⟨_, rfl, ?_⟩
            have hz394 := hk393.size
            have hB395 := hB390.lo hk393
            refine SR.q' (r_mv (v := .tuple (List.toArray _)) rfl) <| SR.q' (r_ext (v := str _) rfl rfl) <| SR.q' (r_ext (v := .bool _) rfl rfl) <| SR.q' (r_as (v := str _) rfl) <| SR.q' (r_as (v := .bool _) rfl) <| SR.nil ?_
            refine W.seq ?_
            refine W.regS (SR.q' (r_lda (l := [.int .i64 v366.State, .int .i64 v366.Key, .slice A362 n363 c364, .int .i64 v366.Dust, .int .i64 v366.Laid, .int .i64 v366.Given]) agg40 rfl (fun _ _ hu => ((hb388).lo hk393).cell hu) rfl) <| SR.call ent25 (c_spec_ChestText w392 v366 ((((hm391).lo hk393).rd))) rfl ?_)
            rintro e w396 ⟨rfl, hk397⟩
            refine ⟨_, rfl, ?_⟩
            have hz398 := hk397.size
            have hB399 := hB395.lo hk397
            refine SR.q' (r_mv (v := .tuple (List.toArray _)) rfl) <| SR.q' (r_ext (v := str _) rfl rfl) <| SR.q' (r_ext (v := .bool _) rfl rfl) <| SR.q' (r_as (v := str _) rfl) <| SR.q' (r_as (v := .bool _) rfl) <| SR.nil ?_
            refine W.seq ?_
            have hm400 := ((hb388).lo hk393).lo hk397
            have hm401 := ((hm391).lo hk393).lo hk397
            refine W.regS (SR.q' (r_mv (v := str _) rfl) <| SR.q' (r_mv (v := str _) rfl) <| SR.q' (r_eqs_s (s := chX v366) rfl rfl) <| SR.q' (r_mv (v := .bool _) rfl) <| SR.g' rfl (r_mv (v := .bool _) rfl) <| SR.g' rfl (r_mv (v := .bool _) rfl) <| SR.g' rfl (r_eqb_s und4 rfl rfl) <| SR.q' (r_pick true rfl (v := .bool _) rfl) <| SR.q' (r_mv (v := .bool _) rfl) <| SR.g' rfl (r_mv (v := .bool _) rfl) <| SR.g' rfl (r_lda (l := [.int .i64 v366.State, .int .i64 v366.Key, .slice A362 n363 c364, .int .i64 v366.Dust, .int .i64 v366.Laid, .int .i64 v366.Given]) agg40 rfl (fun _ _ hu => (hm400).cell hu) rfl) <| SR.gcall rfl ent26 (c_impl_IsChest w396 v366 (((hm401).rd))) rfl ?_)
            rintro e w402 ⟨rfl, hk403⟩
            refine ⟨_, rfl, ?_⟩
            have hz404 := hk403.size
            have hB405 := hB399.lo hk403
            refine SR.g' rfl (r_eqb_s und4 rfl rfl) <| SR.q' (r_pick true rfl (v := .bool _) rfl) <| SR.q' (r_as (v := .bool _) rfl) <| SR.nil ?_
            refine W.ret ?_
            refine ret1 rfl (v := .bool _) rfl ?_
            exact ⟨eR rfl, hB405⟩
    · refine W.skip ?_
      refine W.seq ?_
      refine W.regS (SR.q' (r_mv (v := .slice _ _ _) rfl) <| SR.call ent16 (c_spec_DrawStepsToOpen w41 L ((hm45)) (by omega)) rfl ?_)
      rintro e w406 ⟨A408, n409, c410, v412, rfl, hO411, hq413, hk407⟩
      refine ⟨_, rfl, ?_⟩
      have hz414 := hk407.size
      have hB415 := hB44.lo hk407
      have hl416 := hO411.len
      have hl417 := hO411.rd.bound
      have hq418 : OpLaw v412 := op_law v412
      refine SR.alloc (l := [.int .i64 0, .int .i64 0, .slice none 0 0, .int .i64 0, .int .i64 0, .int .i64 0]) tz40 rfl ?_
      intro g419 w420 hg421 hk422 hs423 hb424
      have hz425 := hk422.size
      have hB426 := hB415.lo hk422
      have hd427 : ¬ A8 = some ⟨g419, 0, none⟩ := fun e' => by have := ((hm47).lo hk407).base_le e'; omega
      have hd428 : ¬ A408 = some ⟨g419, 0, none⟩ := fun e' => by have := (hO411).base_le e'; omega
      refine SR.store (o := 0) (vs := [.int .i64 v412.State, .int .i64 v412.Key, .slice A408 n409 c410, .int .i64 v412.Dust, .int .i64 v412.Laid, .int .i64 v412.Given]) agg40.2 rfl rfl rfl rfl (hb424) (Nat.le_of_ble_eq_true rfl) rfl ?_
      intro w429 hk430 hs431 hb432
      have hz433 := hk430.size
      have hB434 := hB426.new hk430 (by omega)
      refine SR.nil ?_
      refine W.seq ?_
      have hm435 := (((hm45).lo hk407).lo hk422).kp hk430 (fun b_ hb e' => by have e'' : b_ = g419 := e'; omega)
      have hm436 := ((hO411).lo hk422).kp hk430 (fun b_ hb e' => hd428 (by have e'' : b_ = g419 := e'; rw [← e'']; exact hb))
      refine W.regS (SR.q' (r_lda (l := [.int .i64 v412.State, .int .i64 v412.Key, .slice A408 n409 c410, .int .i64 v412.Dust, .int .i64 v412.Laid, .int .i64 v412.Given]) agg40 rfl (fun _ _ hu => (hb432).cell hu) rfl) <| SR.call ent17 (c_impl_StepsToOpen w429 v412 (((hm436).rd))) rfl ?_)
      rintro e w437 ⟨rfl, hk438⟩
      refine ⟨_, rfl, ?_⟩
      have hz439 := hk438.size
      have hB440 := hB434.lo hk438
      refine SR.q' (r_mv (v := .tuple (List.toArray _)) rfl) <| SR.q' (r_ext (v := .int .i64 _) rfl rfl) <| SR.q' (r_ext (v := .bool _) rfl rfl) <| SR.q' (r_as (v := .int .i64 _) rfl) <| SR.q' (r_as (v := .bool _) rfl) <| SR.nil ?_
      refine W.seq ?_
      refine W.seq ?_
      refine W.regS (SR.q' (r_lda (l := [.int .i64 v412.State, .int .i64 v412.Key, .slice A408 n409 c410, .int .i64 v412.Dust, .int .i64 v412.Laid, .int .i64 v412.Given]) agg40 rfl (fun _ _ hu => ((hb432).lo hk438).cell hu) rfl) <| SR.call ent18 (c_spec_StepsToOpen w437 v412 ((((hm436).lo hk438).rd))) rfl ?_)
      rintro e w441 ⟨rfl, hk442⟩
      refine ⟨_, rfl, ?_⟩
      have hz443 := hk442.size
      have hB444 := hB440.lo hk442
      refine SR.q' (r_mv (v := .tuple (List.toArray _)) rfl) <| SR.q' (r_ext (v := .int .i64 _) rfl rfl) <| SR.q' (r_ext (v := .bool _) rfl rfl) <| SR.q' (r_as (v := .int .i64 _) rfl) <| SR.q' (r_as (v := .bool _) rfl) <| SR.nil ?_
      refine W.seq ?_
      have hm445 := ((hm435).lo hk438).lo hk442
      have hm446 := ((hb432).lo hk438).lo hk442
      have hm447 := ((hm436).lo hk438).lo hk442
      refine W.regS (SR.q' (r_mv (v := .int .i64 _) rfl) <| SR.q' (r_mv (v := .int .i64 _) rfl) <| SR.q' (r_ne_s rfl rfl) <| SR.q' (r_mv (v := .bool _) rfl) <| SR.g' rfl (r_mv (v := .bool _) rfl) <| SR.g' rfl (r_mv (v := .bool _) rfl) <| SR.g' rfl (r_neb_s und4 rfl rfl) <| SR.q' (r_pick false rfl (v := .bool _) rfl) <| SR.nil ?_)
      refine W.cond_f rfl ?_
      refine W.skip ?_
      refine W.seq ?_
      refine W.seq ?_
      refine W.regS (SR.q' (r_mv (v := .bool _) rfl) <| SR.nil ?_)
      refine W.cond_d rfl (fun h448 => ?_) (fun h448 => ?_)
      · have hq449 := chest_len h448
        have hq450 := chest_rng h448
        refine W.seq ?_
        refine W.regS (SR.q' (r_lda (l := [.int .i64 v412.State, .int .i64 v412.Key, .slice A408 n409 c410, .int .i64 v412.Dust, .int .i64 v412.Laid, .int .i64 v412.Given]) agg40 rfl (fun _ _ hu => (hm446).cell hu) rfl) <| SR.q' (r_fa fa40_1 rfl) <| SR.q' (r_ld (v := .int .i64 v412.Key) sca3 rfl ((hm446).cell rfl)) <| SR.q' (r_build (vs := [(0, .int .i64 4), (1, .int .i64 v412.Key)]) rfl (bld48_0_1 _ _)) <| SR.q' (r_build (vs := [(0, .int .i64 1)]) rfl (bld48_0 _)) <| SR.lit (vs := [.agg (List.toArray [.int .i64 4, .int .i64 v412.Key]), .agg (List.toArray [.int .i64 1, .int .i64 0])]) (L := ([(⟨4, v412.Key⟩ : ChestStep), (⟨1, 0⟩ : ChestStep)] : List ChestStep)) (enc := encChestStep) tel53 (fun _ => rfl) rfl rfl rfl (by decide) ?_)
        intro g451 w452 hg453 hk454 hO455
        have hz456 := hk454.size
        have hB457 := hB444.lo hk454
        have hd458 : ¬ A8 = some ⟨g451, 0, none⟩ := fun e' => by have := ((((((hm47).lo hk407).lo hk422).kp hk430 (fun b_ hb e' => hd427 (by have e'' : b_ = g419 := e'; rw [← e'']; exact hb))).lo hk438).lo hk442).base_le e'; omega
        have hd459 : ¬ A408 = some ⟨g451, 0, none⟩ := fun e' => by have := (hm447).base_le e'; omega
        refine SR.call ent19 (c_impl_RunChest w452 v412 ((((hm447).lo hk454).rd)) ([(⟨4, v412.Key⟩ : ChestStep), (⟨1, 0⟩ : ChestStep)] : List ChestStep) (((hO455).rd))) rfl ?_
        rintro e w460 ⟨A462, n463, c464, rfl, hO465, hk461⟩
        refine ⟨_, rfl, ?_⟩
        have hz466 := hk461.size
        have hB467 := hB457.lo hk461
        have hl468 := hO465.len
        have hl469 := hO465.rd.bound
        have hq470 := runF_len v412 ([(⟨4, v412.Key⟩ : ChestStep), (⟨1, 0⟩ : ChestStep)] : List ChestStep)
        refine SR.q' (r_mv (v := .tuple (List.toArray _)) rfl) <| SR.q' (r_ext (v := .agg (List.toArray _)) rfl rfl) <| SR.q' (r_ext (v := .int .i64 _) rfl rfl) <| SR.q' (r_ext (v := .bool _) rfl rfl) <| SR.alloc (l := [.int .i64 0, .int .i64 0, .slice none 0 0, .int .i64 0, .int .i64 0, .int .i64 0]) tz40 rfl ?_
        intro g471 w472 hg473 hk474 hs475 hb476
        have hz477 := hk474.size
        have hB478 := hB467.lo hk474
        have hd479 : ¬ A8 = some ⟨g471, 0, none⟩ := fun e' => by have := ((((((((hm47).lo hk407).lo hk422).kp hk430 (fun b_ hb e' => hd427 (by have e'' : b_ = g419 := e'; rw [← e'']; exact hb))).lo hk438).lo hk442).lo hk454).lo hk461).base_le e'; omega
        have hd480 : ¬ A408 = some ⟨g471, 0, none⟩ := fun e' => by have := (((hm447).lo hk454).lo hk461).base_le e'; omega
        have hd481 : ¬ (some (⟨g451, 0, none⟩ : Addr)) = some ⟨g471, 0, none⟩ := fun e' => by have := ((hO455).lo hk461).base_le e'; omega
        have hd482 : ¬ A462 = some ⟨g471, 0, none⟩ := fun e' => by have := (hO465).base_le e'; omega
        refine SR.store (o := 0) (vs := [.int .i64 (((runF v412 ([(⟨4, v412.Key⟩ : ChestStep), (⟨1, 0⟩ : ChestStep)] : List ChestStep)).1).State), .int .i64 (((runF v412 ([(⟨4, v412.Key⟩ : ChestStep), (⟨1, 0⟩ : ChestStep)] : List ChestStep)).1).Key), .slice A462 n463 c464, .int .i64 (((runF v412 ([(⟨4, v412.Key⟩ : ChestStep), (⟨1, 0⟩ : ChestStep)] : List ChestStep)).1).Dust), .int .i64 (((runF v412 ([(⟨4, v412.Key⟩ : ChestStep), (⟨1, 0⟩ : ChestStep)] : List ChestStep)).1).Laid), .int .i64 (((runF v412 ([(⟨4, v412.Key⟩ : ChestStep), (⟨1, 0⟩ : ChestStep)] : List ChestStep)).1).Given)]) agg40.2 rfl rfl rfl rfl (hb476) (Nat.le_of_ble_eq_true rfl) rfl ?_
        intro w483 hk484 hs485 hb486
        have hz487 := hk484.size
        have hB488 := hB478.new hk484 (by omega)
        refine SR.q' (r_as (v := .int .i64 _) rfl) <| SR.q' (r_as (v := .bool _) rfl) <| SR.nil ?_
        refine W.seq ?_
        have hm489 := ((((hm445).lo hk454).lo hk461).lo hk474).kp hk484 (fun b_ hb e' => by have e'' : b_ = g471 := e'; omega)
        have hm490 := ((hO465).lo hk474).kp hk484 (fun b_ hb e' => hd482 (by have e'' : b_ = g471 := e'; rw [← e'']; exact hb))
        refine W.regJS (fun f' w' => At f' [(0, .slice AL nL cL), (2, .bool false), (129, .bool (decide (((!((runF v412 ([(⟨4, v412.Key⟩ : ChestStep), (⟨1, 0⟩ : ChestStep)] : List ChestStep)).2.2)) = true) ∨ ((¬ (((runF v412 ([(⟨4, v412.Key⟩ : ChestStep), (⟨1, 0⟩ : ChestStep)] : List ChestStep)).2.1) = (openN v412))) ∨ (¬ ((((runF v412 ([(⟨4, v412.Key⟩ : ChestStep), (⟨1, 0⟩ : ChestStep)] : List ChestStep)).1).State) = 1))))))] ∧ Lo w483 w') ?_ ?_
        · refine SR.q' (r_mv (v := .bool _) rfl) <| SR.q' (r_not rfl) <| SR.q' (r_mv (v := .bool _) rfl) <| SR.split (fun h491 => ?_) (fun h491 => ?_)
          · have hq492 := bnot_t h491
            refine SR.s' rfl <| SR.s' rfl <| SR.s' rfl <| SR.q' (r_pick true rfl (v := .bool true) rfl) <| SR.q' (r_mv (v := .bool _) rfl) <| SR.s' rfl <| SR.s' rfl <| SR.s' rfl <| SR.q' (r_pick true rfl (v := .bool true) rfl) <| SR.nil ?_
            exact ⟨_, rfl, ⟨⟨rfl, rfl, (eDT ((jot h491).1 trivial)), trivial⟩, (Lo.refl _)⟩⟩
          · have hq493 := bnot_f h491
            refine SR.g' rfl (r_mv (v := .int .i64 _) rfl) <| SR.g' rfl (r_mv (v := .int .i64 _) rfl) <| SR.g' rfl (r_ne rfl rfl) <| SR.q' (r_pick false rfl (v := .bool _) rfl) <| SR.q' (r_mv (v := .bool _) rfl) <| SR.splitN (fun h494 => ?_) (fun h494 => ?_)
            · refine SR.s' rfl <| SR.s' rfl <| SR.s' rfl <| SR.q' (r_pick true rfl (v := .bool true) rfl) <| SR.nil ?_
              exact ⟨_, rfl, ⟨⟨rfl, rfl, (eDT (((jmf h494).trans (jof (ne_true_of_eq_false h491))).1 trivial)), trivial⟩, (Lo.refl _)⟩⟩
            · refine SR.g' rfl (r_fa fa40_0 rfl) <| SR.g' rfl (r_ld (v := .int .i64 (((runF v412 ([(⟨4, v412.Key⟩ : ChestStep), (⟨1, 0⟩ : ChestStep)] : List ChestStep)).1).State)) sca3 rfl ((hb486).cell rfl)) <| SR.g' rfl (r_ne rfl rfl) <| SR.q' (r_pick false rfl (v := .bool _) rfl) <| SR.nil ?_
              exact ⟨_, rfl, ⟨⟨rfl, rfl, (eND ((jmt h494).trans (jof (ne_true_of_eq_false h491)))), trivial⟩, (Lo.refl _)⟩⟩
        rintro f495 w496 ⟨hat497, hk498⟩
        rw [← sets_of_at hat497]
        have hz499 := hk498.size
        have hB500 := hB488.lo hk498
        refine W.cond_d rfl (fun h501 => ?_) (fun h501 => ?_)
        · refine W.seq ?_
          refine W.regS (SR.q' (r_as (v := .bool false) rfl) <| SR.nil ?_)
          refine W.ret ?_
          refine ret1 rfl (v := .bool _) rfl ?_
          exact ⟨eR (eB (z_c_laws_FnDust_502 L nL hbdL hleL h5 v12 v13 hq14 n9 hl17 hl18 hq19 h48 v412 hq413 n409 hl416 hl417 hq418 h448 hq449 hq450 n463 hl468 hl469 hq470 h501)), hB500⟩
        · have hq503 : ¬ ((!((runF v412 ([(⟨4, v412.Key⟩ : ChestStep), (⟨1, 0⟩ : ChestStep)] : List ChestStep)).2.2)) = true) := (not_or.1 h501).1
          have hq504 : ((runF v412 ([(⟨4, v412.Key⟩ : ChestStep), (⟨1, 0⟩ : ChestStep)] : List ChestStep)).2.1) = (openN v412) := (Classical.not_not.1 (not_or.1 (not_or.1 h501).2).1)
          have hq505 : (((runF v412 ([(⟨4, v412.Key⟩ : ChestStep), (⟨1, 0⟩ : ChestStep)] : List ChestStep)).1).State) = 1 := (Classical.not_not.1 (not_or.1 (not_or.1 h501).2).2)
          refine W.skip ?_
          refine W.seq ?_
          refine W.regS (SR.q' (r_mv (v := .slice _ _ _) rfl) <| SR.call ent20 (c_spec_DrawTopMap w496 L (((hm489).lo hk498)) (by omega)) rfl ?_)
          rintro e w506 ⟨A508, n509, c510, v512, rfl, hO511, hq513, hk507⟩
          refine ⟨_, rfl, ?_⟩
          have hz514 := hk507.size
          have hB515 := hB500.lo hk507
          have hl516 := hO511.len
          have hl517 := hO511.rd.bound
          have hq518 : TopLaw v512 := (rfl : TopLaw v512)
          refine SR.alloc (l := [.int .i64 0, .int .i64 0, .slice none 0 0, .int .i64 0, .int .i64 0, .int .i64 0]) tz40 rfl ?_
          intro g519 w520 hg521 hk522 hs523 hb524
          have hz525 := hk522.size
          have hB526 := hB515.lo hk522
          have hd527 : ¬ A8 = some ⟨g519, 0, none⟩ := fun e' => by have := ((((((((((((hm47).lo hk407).lo hk422).kp hk430 (fun b_ hb e' => hd427 (by have e'' : b_ = g419 := e'; rw [← e'']; exact hb))).lo hk438).lo hk442).lo hk454).lo hk461).lo hk474).kp hk484 (fun b_ hb e' => hd479 (by have e'' : b_ = g471 := e'; rw [← e'']; exact hb))).lo hk498).lo hk507).base_le e'; omega
          have hd528 : ¬ A408 = some ⟨g519, 0, none⟩ := fun e' => by have := (((((((hm447).lo hk454).lo hk461).lo hk474).kp hk484 (fun b_ hb e' => hd480 (by have e'' : b_ = g471 := e'; rw [← e'']; exact hb))).lo hk498).lo hk507).base_le e'; omega
          have hd529 : ¬ (some (⟨g451, 0, none⟩ : Addr)) = some ⟨g519, 0, none⟩ := fun e' => by have := ((((((hO455).lo hk461).lo hk474).kp hk484 (fun b_ hb e' => hd481 (by have e'' : b_ = g471 := e'; rw [← e'']; exact hb))).lo hk498).lo hk507).base_le e'; omega
          have hd530 : ¬ A462 = some ⟨g519, 0, none⟩ := fun e' => by have := (((hm490).lo hk498).lo hk507).base_le e'; omega
          have hd531 : ¬ A508 = some ⟨g519, 0, none⟩ := fun e' => by have := (hO511).base_le e'; omega
          refine SR.store (o := 0) (vs := [.int .i64 v512.State, .int .i64 v512.Key, .slice A508 n509 c510, .int .i64 v512.Dust, .int .i64 v512.Laid, .int .i64 v512.Given]) agg40.2 rfl rfl rfl rfl (hb524) (Nat.le_of_ble_eq_true rfl) rfl ?_
          intro w532 hk533 hs534 hb535
          have hz536 := hk533.size
          have hB537 := hB526.new hk533 (by omega)
          refine SR.nil ?_
          refine W.seq ?_
          have hm538 := ((((hm489).lo hk498).lo hk507).lo hk522).kp hk533 (fun b_ hb e' => by have e'' : b_ = g519 := e'; omega)
          have hm539 := ((hO511).lo hk522).kp hk533 (fun b_ hb e' => hd531 (by have e'' : b_ = g519 := e'; rw [← e'']; exact hb))
          refine W.regS (SR.q' (r_lda (l := [.int .i64 v512.State, .int .i64 v512.Key, .slice A508 n509 c510, .int .i64 v512.Dust, .int .i64 v512.Laid, .int .i64 v512.Given]) agg40 rfl (fun _ _ hu => (hb535).cell hu) rfl) <| SR.call ent21 (c_impl_TopMap w532 v512 (((hm539).rd))) rfl ?_)
          rintro e w540 ⟨rfl, hk541⟩
          refine ⟨_, rfl, ?_⟩
          have hz542 := hk541.size
          have hB543 := hB537.lo hk541
          refine SR.q' (r_mv (v := .tuple (List.toArray _)) rfl) <| SR.q' (r_ext (v := .int .i64 _) rfl rfl) <| SR.q' (r_ext (v := .bool _) rfl rfl) <| SR.q' (r_as (v := .int .i64 _) rfl) <| SR.q' (r_as (v := .bool _) rfl) <| SR.nil ?_
          refine W.seq ?_
          refine W.seq ?_
          refine W.regS (SR.q' (r_lda (l := [.int .i64 v512.State, .int .i64 v512.Key, .slice A508 n509 c510, .int .i64 v512.Dust, .int .i64 v512.Laid, .int .i64 v512.Given]) agg40 rfl (fun _ _ hu => ((hb535).lo hk541).cell hu) rfl) <| SR.call ent22 (c_spec_TopMap w540 v512 ((((hm539).lo hk541).rd))) rfl ?_)
          rintro e w544 ⟨rfl, hk545⟩
          refine ⟨_, rfl, ?_⟩
          have hz546 := hk545.size
          have hB547 := hB543.lo hk545
          refine SR.q' (r_mv (v := .tuple (List.toArray _)) rfl) <| SR.q' (r_ext (v := .int .i64 _) rfl rfl) <| SR.q' (r_ext (v := .bool _) rfl rfl) <| SR.q' (r_as (v := .int .i64 _) rfl) <| SR.q' (r_as (v := .bool _) rfl) <| SR.nil ?_
          refine W.seq ?_
          have hm548 := ((hm538).lo hk541).lo hk545
          refine W.regJS (fun f' w' => At f' [(0, .slice AL nL cL), (2, .bool false), (149, .bool (decide ((¬ (((impl_TopMap v512).1) = ((spec_TopMap v512).1))) ∨ ((!(((impl_TopMap v512).2) == ((spec_TopMap v512).2))) = true))))] ∧ Lo w544 w') ?_ ?_
          · refine SR.q' (r_mv (v := .int .i64 _) rfl) <| SR.q' (r_mv (v := .int .i64 _) rfl) <| SR.q' (r_ne rfl rfl) <| SR.q' (r_mv (v := .bool _) rfl) <| SR.splitN (fun h549 => ?_) (fun h549 => ?_)
            · refine SR.s' rfl <| SR.s' rfl <| SR.s' rfl <| SR.q' (r_pick true rfl (v := .bool true) rfl) <| SR.nil ?_
              exact ⟨_, rfl, ⟨⟨rfl, rfl, (eDT ((jmf h549).1 trivial)), trivial⟩, (Lo.refl _)⟩⟩
            · refine SR.g' rfl (r_mv (v := .bool _) rfl) <| SR.g' rfl (r_mv (v := .bool _) rfl) <| SR.g' rfl (r_neb und4 rfl rfl) <| SR.q' (r_pick false rfl (v := .bool _) rfl) <| SR.nil ?_
              exact ⟨_, rfl, ⟨⟨rfl, rfl, (eBD (jmt h549)), trivial⟩, (Lo.refl _)⟩⟩
          rintro f550 w551 ⟨hat552, hk553⟩
          rw [← sets_of_at hat552]
          have hz554 := hk553.size
          have hB555 := hB547.lo hk553
          refine W.cond_d rfl (fun h556 => ?_) (fun h556 => ?_)
          · refine W.seq ?_
            refine W.regS (SR.q' (r_as (v := .bool false) rfl) <| SR.nil ?_)
            refine W.ret ?_
            refine ret1 rfl (v := .bool _) rfl ?_
            exact ⟨eR (eB (z_c_laws_FnDust_557 L nL hbdL hleL h5 v12 v13 hq14 n9 hl17 hl18 hq19 h48 v412 hq413 n409 hl416 hl417 hq418 h448 hq449 hq450 n463 hl468 hl469 hq470 h501 hq503 hq504 hq505 v512 hq513 n509 hl516 hl517 hq518 h556)), hB555⟩
          · have hq558 : ((impl_TopMap v512).1) = ((spec_TopMap v512).1) := (Classical.not_not.1 (not_or.1 h556).1)
            have hq559 : ¬ ((!(((impl_TopMap v512).2) == ((spec_TopMap v512).2))) = true) := (not_or.1 h556).2
            refine W.skip ?_
            refine W.seq ?_
            refine W.regS (SR.q' (r_mv (v := .slice _ _ _) rfl) <| SR.call ent23 (c_spec_DrawChestText w551 L (((hm548).lo hk553)) (by omega)) rfl ?_)
            rintro e w560 ⟨A562, n563, c564, v566, rfl, hO565, hq567, hk561⟩
            refine ⟨_, rfl, ?_⟩
            have hz568 := hk561.size
            have hB569 := hB555.lo hk561
            have hl570 := hO565.len
            have hl571 := hO565.rd.bound
            refine SR.alloc (l := [.int .i64 0, .int .i64 0, .slice none 0 0, .int .i64 0, .int .i64 0, .int .i64 0]) tz40 rfl ?_
            intro g572 w573 hg574 hk575 hs576 hb577
            have hz578 := hk575.size
            have hB579 := hB569.lo hk575
            have hd580 : ¬ A8 = some ⟨g572, 0, none⟩ := fun e' => by have := ((((((((((((((((((hm47).lo hk407).lo hk422).kp hk430 (fun b_ hb e' => hd427 (by have e'' : b_ = g419 := e'; rw [← e'']; exact hb))).lo hk438).lo hk442).lo hk454).lo hk461).lo hk474).kp hk484 (fun b_ hb e' => hd479 (by have e'' : b_ = g471 := e'; rw [← e'']; exact hb))).lo hk498).lo hk507).lo hk522).kp hk533 (fun b_ hb e' => hd527 (by have e'' : b_ = g519 := e'; rw [← e'']; exact hb))).lo hk541).lo hk545).lo hk553).lo hk561).base_le e'; omega
            have hd581 : ¬ A408 = some ⟨g572, 0, none⟩ := fun e' => by have := (((((((((((((hm447).lo hk454).lo hk461).lo hk474).kp hk484 (fun b_ hb e' => hd480 (by have e'' : b_ = g471 := e'; rw [← e'']; exact hb))).lo hk498).lo hk507).lo hk522).kp hk533 (fun b_ hb e' => hd528 (by have e'' : b_ = g519 := e'; rw [← e'']; exact hb))).lo hk541).lo hk545).lo hk553).lo hk561).base_le e'; omega
            have hd582 : ¬ (some (⟨g451, 0, none⟩ : Addr)) = some ⟨g572, 0, none⟩ := fun e' => by have := ((((((((((((hO455).lo hk461).lo hk474).kp hk484 (fun b_ hb e' => hd481 (by have e'' : b_ = g471 := e'; rw [← e'']; exact hb))).lo hk498).lo hk507).lo hk522).kp hk533 (fun b_ hb e' => hd529 (by have e'' : b_ = g519 := e'; rw [← e'']; exact hb))).lo hk541).lo hk545).lo hk553).lo hk561).base_le e'; omega
            have hd583 : ¬ A462 = some ⟨g572, 0, none⟩ := fun e' => by have := (((((((((hm490).lo hk498).lo hk507).lo hk522).kp hk533 (fun b_ hb e' => hd530 (by have e'' : b_ = g519 := e'; rw [← e'']; exact hb))).lo hk541).lo hk545).lo hk553).lo hk561).base_le e'; omega
            have hd584 : ¬ A508 = some ⟨g572, 0, none⟩ := fun e' => by have := (((((hm539).lo hk541).lo hk545).lo hk553).lo hk561).base_le e'; omega
            have hd585 : ¬ A562 = some ⟨g572, 0, none⟩ := fun e' => by have := (hO565).base_le e'; omega
            refine SR.store (o := 0) (vs := [.int .i64 v566.State, .int .i64 v566.Key, .slice A562 n563 c564, .int .i64 v566.Dust, .int .i64 v566.Laid, .int .i64 v566.Given]) agg40.2 rfl rfl rfl rfl (hb577) (Nat.le_of_ble_eq_true rfl) rfl ?_
            intro w586 hk587 hs588 hb589
            have hz590 := hk587.size
            have hB591 := hB579.new hk587 (by omega)
            refine SR.nil ?_
            refine W.seq ?_
            have hm592 := ((hO565).lo hk575).kp hk587 (fun b_ hb e' => hd585 (by have e'' : b_ = g572 := e'; rw [← e'']; exact hb))
            refine W.regS (SR.q' (r_lda (l := [.int .i64 v566.State, .int .i64 v566.Key, .slice A562 n563 c564, .int .i64 v566.Dust, .int .i64 v566.Laid, .int .i64 v566.Given]) agg40 rfl (fun _ _ hu => (hb589).cell hu) rfl) <| SR.call ent24 (c_impl_ChestText w586 v566 (((hm592).rd)) (hE.lo (hB591))) rfl ?_)
            rintro e w593 ⟨rfl, hk594⟩
            refine ⟨_, rfl, ?_⟩
            have hz595 := hk594.size
            have hB596 := hB591.lo hk594
            refine SR.q' (r_mv (v := .tuple (List.toArray _)) rfl) <| SR.q' (r_ext (v := str _) rfl rfl) <| SR.q' (r_ext (v := .bool _) rfl rfl) <| SR.q' (r_as (v := str _) rfl) <| SR.q' (r_as (v := .bool _) rfl) <| SR.nil ?_
            refine W.seq ?_
            refine W.regS (SR.q' (r_lda (l := [.int .i64 v566.State, .int .i64 v566.Key, .slice A562 n563 c564, .int .i64 v566.Dust, .int .i64 v566.Laid, .int .i64 v566.Given]) agg40 rfl (fun _ _ hu => ((hb589).lo hk594).cell hu) rfl) <| SR.call ent25 (c_spec_ChestText w593 v566 ((((hm592).lo hk594).rd))) rfl ?_)
            rintro e w597 ⟨rfl, hk598⟩
            refine ⟨_, rfl, ?_⟩
            have hz599 := hk598.size
            have hB600 := hB596.lo hk598
            refine SR.q' (r_mv (v := .tuple (List.toArray _)) rfl) <| SR.q' (r_ext (v := str _) rfl rfl) <| SR.q' (r_ext (v := .bool _) rfl rfl) <| SR.q' (r_as (v := str _) rfl) <| SR.q' (r_as (v := .bool _) rfl) <| SR.nil ?_
            refine W.seq ?_
            have hm601 := ((hb589).lo hk594).lo hk598
            have hm602 := ((hm592).lo hk594).lo hk598
            refine W.regS (SR.q' (r_mv (v := str _) rfl) <| SR.q' (r_mv (v := str _) rfl) <| SR.q' (r_eqs_s (s := chX v566) rfl rfl) <| SR.q' (r_mv (v := .bool _) rfl) <| SR.g' rfl (r_mv (v := .bool _) rfl) <| SR.g' rfl (r_mv (v := .bool _) rfl) <| SR.g' rfl (r_eqb_s und4 rfl rfl) <| SR.q' (r_pick true rfl (v := .bool _) rfl) <| SR.q' (r_mv (v := .bool _) rfl) <| SR.g' rfl (r_mv (v := .bool _) rfl) <| SR.g' rfl (r_lda (l := [.int .i64 v566.State, .int .i64 v566.Key, .slice A562 n563 c564, .int .i64 v566.Dust, .int .i64 v566.Laid, .int .i64 v566.Given]) agg40 rfl (fun _ _ hu => (hm601).cell hu) rfl) <| SR.gcall rfl ent26 (c_impl_IsChest w597 v566 (((hm602).rd))) rfl ?_)
            rintro e w603 ⟨rfl, hk604⟩
            refine ⟨_, rfl, ?_⟩
            have hz605 := hk604.size
            have hB606 := hB600.lo hk604
            refine SR.g' rfl (r_eqb_s und4 rfl rfl) <| SR.q' (r_pick true rfl (v := .bool _) rfl) <| SR.q' (r_as (v := .bool _) rfl) <| SR.nil ?_
            refine W.ret ?_
            refine ret1 rfl (v := .bool _) rfl ?_
            exact ⟨eR rfl, hB606⟩
      · refine W.skip ?_
        refine W.seq ?_
        refine W.regS (SR.q' (r_mv (v := .slice _ _ _) rfl) <| SR.call ent20 (c_spec_DrawTopMap w441 L ((hm445)) (by omega)) rfl ?_)
        rintro e w607 ⟨A609, n610, c611, v613, rfl, hO612, hq614, hk608⟩
        refine ⟨_, rfl, ?_⟩
        have hz615 := hk608.size
        have hB616 := hB444.lo hk608
        have hl617 := hO612.len
        have hl618 := hO612.rd.bound
        have hq619 : TopLaw v613 := (rfl : TopLaw v613)
        refine SR.alloc (l := [.int .i64 0, .int .i64 0, .slice none 0 0, .int .i64 0, .int .i64 0, .int .i64 0]) tz40 rfl ?_
        intro g620 w621 hg622 hk623 hs624 hb625
        have hz626 := hk623.size
        have hB627 := hB616.lo hk623
        have hd628 : ¬ A8 = some ⟨g620, 0, none⟩ := fun e' => by have := (((((((hm47).lo hk407).lo hk422).kp hk430 (fun b_ hb e' => hd427 (by have e'' : b_ = g419 := e'; rw [← e'']; exact hb))).lo hk438).lo hk442).lo hk608).base_le e'; omega
        have hd629 : ¬ A408 = some ⟨g620, 0, none⟩ := fun e' => by have := ((hm447).lo hk608).base_le e'; omega
        have hd630 : ¬ A609 = some ⟨g620, 0, none⟩ := fun e' => by have := (hO612).base_le e'; omega
        refine SR.store (o := 0) (vs := [.int .i64 v613.State, .int .i64 v613.Key, .slice A609 n610 c611, .int .i64 v613.Dust, .int .i64 v613.Laid, .int .i64 v613.Given]) agg40.2 rfl rfl rfl rfl (hb625) (Nat.le_of_ble_eq_true rfl) rfl ?_
        intro w631 hk632 hs633 hb634
        have hz635 := hk632.size
        have hB636 := hB627.new hk632 (by omega)
        refine SR.nil ?_
        refine W.seq ?_
        have hm637 := (((hm445).lo hk608).lo hk623).kp hk632 (fun b_ hb e' => by have e'' : b_ = g620 := e'; omega)
        have hm638 := ((hO612).lo hk623).kp hk632 (fun b_ hb e' => hd630 (by have e'' : b_ = g620 := e'; rw [← e'']; exact hb))
        refine W.regS (SR.q' (r_lda (l := [.int .i64 v613.State, .int .i64 v613.Key, .slice A609 n610 c611, .int .i64 v613.Dust, .int .i64 v613.Laid, .int .i64 v613.Given]) agg40 rfl (fun _ _ hu => (hb634).cell hu) rfl) <| SR.call ent21 (c_impl_TopMap w631 v613 (((hm638).rd))) rfl ?_)
        rintro e w639 ⟨rfl, hk640⟩
        refine ⟨_, rfl, ?_⟩
        have hz641 := hk640.size
        have hB642 := hB636.lo hk640
        refine SR.q' (r_mv (v := .tuple (List.toArray _)) rfl) <| SR.q' (r_ext (v := .int .i64 _) rfl rfl) <| SR.q' (r_ext (v := .bool _) rfl rfl) <| SR.q' (r_as (v := .int .i64 _) rfl) <| SR.q' (r_as (v := .bool _) rfl) <| SR.nil ?_
        refine W.seq ?_
        refine W.seq ?_
        refine W.regS (SR.q' (r_lda (l := [.int .i64 v613.State, .int .i64 v613.Key, .slice A609 n610 c611, .int .i64 v613.Dust, .int .i64 v613.Laid, .int .i64 v613.Given]) agg40 rfl (fun _ _ hu => ((hb634).lo hk640).cell hu) rfl) <| SR.call ent22 (c_spec_TopMap w639 v613 ((((hm638).lo hk640).rd))) rfl ?_)
        rintro e w643 ⟨rfl, hk644⟩
        refine ⟨_, rfl, ?_⟩
        have hz645 := hk644.size
        have hB646 := hB642.lo hk644
        refine SR.q' (r_mv (v := .tuple (List.toArray _)) rfl) <| SR.q' (r_ext (v := .int .i64 _) rfl rfl) <| SR.q' (r_ext (v := .bool _) rfl rfl) <| SR.q' (r_as (v := .int .i64 _) rfl) <| SR.q' (r_as (v := .bool _) rfl) <| SR.nil ?_
        refine W.seq ?_
        have hm647 := ((hm637).lo hk640).lo hk644
        refine W.regJS (fun f' w' => At f' [(0, .slice AL nL cL), (2, .bool false), (149, .bool (decide ((¬ (((impl_TopMap v613).1) = ((spec_TopMap v613).1))) ∨ ((!(((impl_TopMap v613).2) == ((spec_TopMap v613).2))) = true))))] ∧ Lo w643 w') ?_ ?_
        · refine SR.q' (r_mv (v := .int .i64 _) rfl) <| SR.q' (r_mv (v := .int .i64 _) rfl) <| SR.q' (r_ne rfl rfl) <| SR.q' (r_mv (v := .bool _) rfl) <| SR.splitN (fun h648 => ?_) (fun h648 => ?_)
          · refine SR.s' rfl <| SR.s' rfl <| SR.s' rfl <| SR.q' (r_pick true rfl (v := .bool true) rfl) <| SR.nil ?_
            exact ⟨_, rfl, ⟨⟨rfl, rfl, (eDT ((jmf h648).1 trivial)), trivial⟩, (Lo.refl _)⟩⟩
          · refine SR.g' rfl (r_mv (v := .bool _) rfl) <| SR.g' rfl (r_mv (v := .bool _) rfl) <| SR.g' rfl (r_neb und4 rfl rfl) <| SR.q' (r_pick false rfl (v := .bool _) rfl) <| SR.nil ?_
            exact ⟨_, rfl, ⟨⟨rfl, rfl, (eBD (jmt h648)), trivial⟩, (Lo.refl _)⟩⟩
        rintro f649 w650 ⟨hat651, hk652⟩
        rw [← sets_of_at hat651]
        have hz653 := hk652.size
        have hB654 := hB646.lo hk652
        refine W.cond_d rfl (fun h655 => ?_) (fun h655 => ?_)
        · refine W.seq ?_
          refine W.regS (SR.q' (r_as (v := .bool false) rfl) <| SR.nil ?_)
          refine W.ret ?_
          refine ret1 rfl (v := .bool _) rfl ?_
          exact ⟨eR (eB (z_c_laws_FnDust_656 L nL hbdL hleL h5 v12 v13 hq14 n9 hl17 hl18 hq19 h48 v412 hq413 n409 hl416 hl417 hq418 h448 v613 hq614 n610 hl617 hl618 hq619 h655)), hB654⟩
        · have hq657 : ((impl_TopMap v613).1) = ((spec_TopMap v613).1) := (Classical.not_not.1 (not_or.1 h655).1)
          have hq658 : ¬ ((!(((impl_TopMap v613).2) == ((spec_TopMap v613).2))) = true) := (not_or.1 h655).2
          refine W.skip ?_
          refine W.seq ?_
          refine W.regS (SR.q' (r_mv (v := .slice _ _ _) rfl) <| SR.call ent23 (c_spec_DrawChestText w650 L (((hm647).lo hk652)) (by omega)) rfl ?_)
          rintro e w659 ⟨A661, n662, c663, v665, rfl, hO664, hq666, hk660⟩
          refine ⟨_, rfl, ?_⟩
          have hz667 := hk660.size
          have hB668 := hB654.lo hk660
          have hl669 := hO664.len
          have hl670 := hO664.rd.bound
          refine SR.alloc (l := [.int .i64 0, .int .i64 0, .slice none 0 0, .int .i64 0, .int .i64 0, .int .i64 0]) tz40 rfl ?_
          intro g671 w672 hg673 hk674 hs675 hb676
          have hz677 := hk674.size
          have hB678 := hB668.lo hk674
          have hd679 : ¬ A8 = some ⟨g671, 0, none⟩ := fun e' => by have := (((((((((((((hm47).lo hk407).lo hk422).kp hk430 (fun b_ hb e' => hd427 (by have e'' : b_ = g419 := e'; rw [← e'']; exact hb))).lo hk438).lo hk442).lo hk608).lo hk623).kp hk632 (fun b_ hb e' => hd628 (by have e'' : b_ = g620 := e'; rw [← e'']; exact hb))).lo hk640).lo hk644).lo hk652).lo hk660).base_le e'; omega
          have hd680 : ¬ A408 = some ⟨g671, 0, none⟩ := fun e' => by have := ((((((((hm447).lo hk608).lo hk623).kp hk632 (fun b_ hb e' => hd629 (by have e'' : b_ = g620 := e'; rw [← e'']; exact hb))).lo hk640).lo hk644).lo hk652).lo hk660).base_le e'; omega
          have hd681 : ¬ A609 = some ⟨g671, 0, none⟩ := fun e' => by have := (((((hm638).lo hk640).lo hk644).lo hk652).lo hk660).base_le e'; omega
          have hd682 : ¬ A661 = some ⟨g671, 0, none⟩ := fun e' => by have := (hO664).base_le e'; omega
          refine SR.store (o := 0) (vs := [.int .i64 v665.State, .int .i64 v665.Key, .slice A661 n662 c663, .int .i64 v665.Dust, .int .i64 v665.Laid, .int .i64 v665.Given]) agg40.2 rfl rfl rfl rfl (hb676) (Nat.le_of_ble_eq_true rfl) rfl ?_
          intro w683 hk684 hs685 hb686
          have hz687 := hk684.size
          have hB688 := hB678.new hk684 (by omega)
          refine SR.nil ?_
          refine W.seq ?_
          have hm689 := ((hO664).lo hk674).kp hk684 (fun b_ hb e' => hd682 (by have e'' : b_ = g671 := e'; rw [← e'']; exact hb))
          refine W.regS (SR.q' (r_lda (l := [.int .i64 v665.State, .int .i64 v665.Key, .slice A661 n662 c663, .int .i64 v665.Dust, .int .i64 v665.Laid, .int .i64 v665.Given]) agg40 rfl (fun _ _ hu => (hb686).cell hu) rfl) <| SR.call ent24 (c_impl_ChestText w683 v665 (((hm689).rd)) (hE.lo (hB688))) rfl ?_)
          rintro e w690 ⟨rfl, hk691⟩
          refine ⟨_, rfl, ?_⟩
          have hz692 := hk691.size
          have hB693 := hB688.lo hk691
          refine SR.q' (r_mv (v := .tuple (List.toArray _)) rfl) <| SR.q' (r_ext (v := str _) rfl rfl) <| SR.q' (r_ext (v := .bool _) rfl rfl) <| SR.q' (r_as (v := str _) rfl) <| SR.q' (r_as (v := .bool _) rfl) <| SR.nil ?_
          refine W.seq ?_
          refine W.regS (SR.q' (r_lda (l := [.int .i64 v665.State, .int .i64 v665.Key, .slice A661 n662 c663, .int .i64 v665.Dust, .int .i64 v665.Laid, .int .i64 v665.Given]) agg40 rfl (fun _ _ hu => ((hb686).lo hk691).cell hu) rfl) <| SR.call ent25 (c_spec_ChestText w690 v665 ((((hm689).lo hk691).rd))) rfl ?_)
          rintro e w694 ⟨rfl, hk695⟩
          refine ⟨_, rfl, ?_⟩
          have hz696 := hk695.size
          have hB697 := hB693.lo hk695
          refine SR.q' (r_mv (v := .tuple (List.toArray _)) rfl) <| SR.q' (r_ext (v := str _) rfl rfl) <| SR.q' (r_ext (v := .bool _) rfl rfl) <| SR.q' (r_as (v := str _) rfl) <| SR.q' (r_as (v := .bool _) rfl) <| SR.nil ?_
          refine W.seq ?_
          have hm698 := ((hb686).lo hk691).lo hk695
          have hm699 := ((hm689).lo hk691).lo hk695
          refine W.regS (SR.q' (r_mv (v := str _) rfl) <| SR.q' (r_mv (v := str _) rfl) <| SR.q' (r_eqs_s (s := chX v665) rfl rfl) <| SR.q' (r_mv (v := .bool _) rfl) <| SR.g' rfl (r_mv (v := .bool _) rfl) <| SR.g' rfl (r_mv (v := .bool _) rfl) <| SR.g' rfl (r_eqb_s und4 rfl rfl) <| SR.q' (r_pick true rfl (v := .bool _) rfl) <| SR.q' (r_mv (v := .bool _) rfl) <| SR.g' rfl (r_mv (v := .bool _) rfl) <| SR.g' rfl (r_lda (l := [.int .i64 v665.State, .int .i64 v665.Key, .slice A661 n662 c663, .int .i64 v665.Dust, .int .i64 v665.Laid, .int .i64 v665.Given]) agg40 rfl (fun _ _ hu => (hm698).cell hu) rfl) <| SR.gcall rfl ent26 (c_impl_IsChest w694 v665 (((hm699).rd))) rfl ?_)
          rintro e w700 ⟨rfl, hk701⟩
          refine ⟨_, rfl, ?_⟩
          have hz702 := hk701.size
          have hB703 := hB697.lo hk701
          refine SR.g' rfl (r_eqb_s und4 rfl rfl) <| SR.q' (r_pick true rfl (v := .bool _) rfl) <| SR.q' (r_as (v := .bool _) rfl) <| SR.nil ?_
          refine W.ret ?_
          refine ret1 rfl (v := .bool _) rfl ?_
          exact ⟨eR rfl, hB703⟩
end Go.Proofs.YtlpapeeaghmjpaaDoor
