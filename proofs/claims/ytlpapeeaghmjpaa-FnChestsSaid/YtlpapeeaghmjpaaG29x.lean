/- Walks, printed by a program of this claim's author. -/
import Derived.Test.YtlpapeeaghmjpaaChecked
import Derived.Test.YtlpapeeaghmjpaaSa
import Derived.Test.YtlpapeeaghmjpaaFu
import Derived.Test.YtlpapeeaghmjpaaFs
import Derived.Test.YtlpapeeaghmjpaaFq
import Derived.Test.YtlpapeeaghmjpaaFo
import Derived.Test.YtlpapeeaghmjpaaSi
import Derived.Test.YtlpapeeaghmjpaaG29z
namespace Go.Proofs.Ytlpapeeaghmjpaa
open Go Go.RowKit Fw
set_option maxRecDepth 10000
set_option linter.unusedVariables false
theorem ent13 : Ent Try.prog 13 := ent_of Try.func13 (by decide +kernel) rfl
theorem ent26 : Ent Try.prog 26 := ent_of Try.func26 (by decide +kernel) rfl
theorem ent28 : Ent Try.prog 28 := ent_of Try.func28 (by decide +kernel) rfl
theorem ent37 : Ent Try.prog 37 := ent_of Try.func37 (by decide +kernel) rfl
theorem ent47 : Ent Try.prog 47 := ent_of Try.func47 (by decide +kernel) rfl
theorem ent48 : Ent Try.prog 48 := ent_of Try.func48 (by decide +kernel) rfl
theorem ent50 : Ent Try.prog 50 := ent_of Try.func50 (by decide +kernel) rfl
theorem ent51 : Ent Try.prog 51 := ent_of Try.func51 (by decide +kernel) rfl
theorem ent52 : Ent Try.prog 52 := ent_of Try.func52 (by decide +kernel) rfl
theorem ent53 : Ent Try.prog 53 := ent_of Try.func53 (by decide +kernel) rfl
theorem ent54 : Ent Try.prog 54 := ent_of Try.func54 (by decide +kernel) rfl
theorem ent55 : Ent Try.prog 55 := ent_of Try.func55 (by decide +kernel) rfl
theorem ent56 : Ent Try.prog 56 := ent_of Try.func56 (by decide +kernel) rfl

theorem z_c_laws_FnChests_139 (L : List UInt8) (nL : Nat) (hbdL : (nL : Int) ≤ 9223372036854775807) (hleL : nL = L.length) (h5 : ¬ (65536 < (L.length : Int))) (v12 : Chest) (v13 : ChestStep) (hq14 : (v12.Stack.length ≤ 11) ∧ 0 ≤ v12.Key ∧ v12.Key ≤ 9999) (n9 : Nat) (hl17 : n9 = (v12.Stack).length) (hl18 : (n9 : Int) ≤ 9223372036854775807) (hq19 : ChLaw v12 v13) (n55 : Nat) (hl60 : n55 = (((impl_StepChest v12 v13).1).Stack).length) (hl61 : (n55 : Int) ≤ 9223372036854775807) (hq62 : (((impl_StepChest v12 v13).1).Stack).length ≤ 10) (n87 : Nat) (hl92 : n87 = (((spec_StepChest v12 v13).1).Stack).length) (hl93 : (n87 : Int) ≤ 9223372036854775807) (hq94 : (((spec_StepChest v12 v13).1).Stack).length ≤ 10) (h138 : ((!(((impl_StepChest v12 v13).2) == ((spec_StepChest v12 v13).2))) = true) ∨ ((¬ (((impl_StepChest v12 v13).1) = ((spec_StepChest v12 v13).1))) ∨ ((((impl_StepChest v12 v13).2) = true) ∧ (¬ (ChestOK ((impl_StepChest v12 v13).1)))))) : false = true := by
  first | (exfalso; first | exact ch_bad1 ‹ChLaw _ _› (by assumption) | exact ch_bad2 ‹ChLaw _ _› (by assumption) (by assumption) | exact run_bad ‹(runF _ _).2.2 = true› (by assumption) (by omega) (by assumption) | exact ab_bad1 ‹AbLaw _ _› (by assumption) | exact ab_bad2 ‹AbLaw _ _› (by assumption) | exact ‹¬ (runF _ _).1 = (runF _ _).1› rfl) | exact decide_eq_true (ab_fin ‹AbLaw _ _›)
theorem z_c_laws_FnChests_159 (L : List UInt8) (nL : Nat) (hbdL : (nL : Int) ≤ 9223372036854775807) (hleL : nL = L.length) (h5 : ¬ (65536 < (L.length : Int))) (v12 : Chest) (v13 : ChestStep) (hq14 : (v12.Stack.length ≤ 11) ∧ 0 ≤ v12.Key ∧ v12.Key ≤ 9999) (n9 : Nat) (hl17 : n9 = (v12.Stack).length) (hl18 : (n9 : Int) ≤ 9223372036854775807) (hq19 : ChLaw v12 v13) (n55 : Nat) (hl60 : n55 = (((impl_StepChest v12 v13).1).Stack).length) (hl61 : (n55 : Int) ≤ 9223372036854775807) (hq62 : (((impl_StepChest v12 v13).1).Stack).length ≤ 10) (n87 : Nat) (hl92 : n87 = (((spec_StepChest v12 v13).1).Stack).length) (hl93 : (n87 : Int) ≤ 9223372036854775807) (hq94 : (((spec_StepChest v12 v13).1).Stack).length ≤ 10) (h138 : ¬ (((!(((impl_StepChest v12 v13).2) == ((spec_StepChest v12 v13).2))) = true) ∨ ((¬ (((impl_StepChest v12 v13).1) = ((spec_StepChest v12 v13).1))) ∨ ((((impl_StepChest v12 v13).2) = true) ∧ (¬ (ChestOK ((impl_StepChest v12 v13).1))))))) (hq140 : ¬ ((!(((impl_StepChest v12 v13).2) == ((spec_StepChest v12 v13).2))) = true)) (hq141 : ((impl_StepChest v12 v13).1) = ((spec_StepChest v12 v13).1)) (hq142 : ¬ ((((impl_StepChest v12 v13).2) = true) ∧ (¬ (ChestOK ((impl_StepChest v12 v13).1))))) (h155 : (((impl_StepChest v12 v13).2) = true) ∧ ((¬ ((IntKind.i64.wrap ((((impl_StepChest v12 v13).1).Laid) - (((impl_StepChest v12 v13).1).Given))) = (n55 : Int))) ∨ (((v13.Kind = 5) ∧ ((¬ (v13.Kind = 6)) ∧ (¬ ((((impl_StepChest v12 v13).1).Given) = v12.Given)))) ∨ ((¬ (v13.Kind = 5)) ∧ ((¬ ((((impl_StepChest v12 v13).1).Laid) = v12.Laid)) ∨ ((¬ (v13.Kind = 6)) ∧ (¬ ((((impl_StepChest v12 v13).1).Given) = v12.Given)))))))) (hq156 : ((impl_StepChest v12 v13).2) = true) (hq157 : (¬ ((IntKind.i64.wrap ((((impl_StepChest v12 v13).1).Laid) - (((impl_StepChest v12 v13).1).Given))) = (n55 : Int))) ∨ (((v13.Kind = 5) ∧ ((¬ (v13.Kind = 6)) ∧ (¬ ((((impl_StepChest v12 v13).1).Given) = v12.Given)))) ∨ ((¬ (v13.Kind = 5)) ∧ ((¬ ((((impl_StepChest v12 v13).1).Laid) = v12.Laid)) ∨ ((¬ (v13.Kind = 6)) ∧ (¬ ((((impl_StepChest v12 v13).1).Given) = v12.Given))))))) : false = true := by
  first | (exfalso; first | exact ch_bad1 ‹ChLaw _ _› (by assumption) | exact ch_bad2 ‹ChLaw _ _› (by assumption) (by assumption) | exact run_bad ‹(runF _ _).2.2 = true› (by assumption) (by omega) (by assumption) | exact ab_bad1 ‹AbLaw _ _› (by assumption) | exact ab_bad2 ‹AbLaw _ _› (by assumption) | exact ‹¬ (runF _ _).1 = (runF _ _).1› rfl) | exact decide_eq_true (ab_fin ‹AbLaw _ _›)
theorem z_c_laws_FnChests_284 (L : List UInt8) (nL : Nat) (hbdL : (nL : Int) ≤ 9223372036854775807) (hleL : nL = L.length) (h5 : ¬ (65536 < (L.length : Int))) (v12 : Chest) (v13 : ChestStep) (hq14 : (v12.Stack.length ≤ 11) ∧ 0 ≤ v12.Key ∧ v12.Key ≤ 9999) (n9 : Nat) (hl17 : n9 = (v12.Stack).length) (hl18 : (n9 : Int) ≤ 9223372036854775807) (hq19 : ChLaw v12 v13) (n55 : Nat) (hl60 : n55 = (((impl_StepChest v12 v13).1).Stack).length) (hl61 : (n55 : Int) ≤ 9223372036854775807) (hq62 : (((impl_StepChest v12 v13).1).Stack).length ≤ 10) (n87 : Nat) (hl92 : n87 = (((spec_StepChest v12 v13).1).Stack).length) (hl93 : (n87 : Int) ≤ 9223372036854775807) (hq94 : (((spec_StepChest v12 v13).1).Stack).length ≤ 10) (h138 : ¬ (((!(((impl_StepChest v12 v13).2) == ((spec_StepChest v12 v13).2))) = true) ∨ ((¬ (((impl_StepChest v12 v13).1) = ((spec_StepChest v12 v13).1))) ∨ ((((impl_StepChest v12 v13).2) = true) ∧ (¬ (ChestOK ((impl_StepChest v12 v13).1))))))) (hq140 : ¬ ((!(((impl_StepChest v12 v13).2) == ((spec_StepChest v12 v13).2))) = true)) (hq141 : ((impl_StepChest v12 v13).1) = ((spec_StepChest v12 v13).1)) (hq142 : ¬ ((((impl_StepChest v12 v13).2) = true) ∧ (¬ (ChestOK ((impl_StepChest v12 v13).1))))) (h155 : ¬ ((((impl_StepChest v12 v13).2) = true) ∧ ((¬ ((IntKind.i64.wrap ((((impl_StepChest v12 v13).1).Laid) - (((impl_StepChest v12 v13).1).Given))) = (n55 : Int))) ∨ (((v13.Kind = 5) ∧ ((¬ (v13.Kind = 6)) ∧ (¬ ((((impl_StepChest v12 v13).1).Given) = v12.Given)))) ∨ ((¬ (v13.Kind = 5)) ∧ ((¬ ((((impl_StepChest v12 v13).1).Laid) = v12.Laid)) ∨ ((¬ (v13.Kind = 6)) ∧ (¬ ((((impl_StepChest v12 v13).1).Given) = v12.Given))))))))) (v172 : Chest) (v173 : List ChestStep) (hq174 : (v172.Stack.length ≤ 11) ∧ 0 ≤ v172.Key ∧ v172.Key ≤ 9999) (hq175 : v173.length ≤ 60) (n164 : Nat) (hl178 : n164 = (v172.Stack).length) (hl179 : (n164 : Int) ≤ 9223372036854775807) (n168 : Nat) (hl180 : n168 = (v173).length) (hl181 : (n168 : Int) ≤ 9223372036854775807) (n207 : Nat) (hl212 : n207 = (((runF v172 v173).1).Stack).length) (hl213 : (n207 : Int) ≤ 9223372036854775807) (hq214 : (((runF v172 v173).1).Stack).length ≤ 10) (n243 : Nat) (hl248 : n243 = (((runF v172 v173).1).Stack).length) (hl249 : (n243 : Int) ≤ 9223372036854775807) (hq250 : (((runF v172 v173).1).Stack).length ≤ 10) (h283 : ¬ (((runF v172 v173).1) = ((runF v172 v173).1))) : false = true := by
  first | (exfalso; first | exact ch_bad1 ‹ChLaw _ _› (by assumption) | exact ch_bad2 ‹ChLaw _ _› (by assumption) (by assumption) | exact run_bad ‹(runF _ _).2.2 = true› (by assumption) (by omega) (by assumption) | exact ab_bad1 ‹AbLaw _ _› (by assumption) | exact ab_bad2 ‹AbLaw _ _› (by assumption) | exact ‹¬ (runF _ _).1 = (runF _ _).1› rfl) | exact decide_eq_true (ab_fin ‹AbLaw _ _›)
theorem z_c_laws_FnChests_313 (L : List UInt8) (nL : Nat) (hbdL : (nL : Int) ≤ 9223372036854775807) (hleL : nL = L.length) (h5 : ¬ (65536 < (L.length : Int))) (v12 : Chest) (v13 : ChestStep) (hq14 : (v12.Stack.length ≤ 11) ∧ 0 ≤ v12.Key ∧ v12.Key ≤ 9999) (n9 : Nat) (hl17 : n9 = (v12.Stack).length) (hl18 : (n9 : Int) ≤ 9223372036854775807) (hq19 : ChLaw v12 v13) (n55 : Nat) (hl60 : n55 = (((impl_StepChest v12 v13).1).Stack).length) (hl61 : (n55 : Int) ≤ 9223372036854775807) (hq62 : (((impl_StepChest v12 v13).1).Stack).length ≤ 10) (n87 : Nat) (hl92 : n87 = (((spec_StepChest v12 v13).1).Stack).length) (hl93 : (n87 : Int) ≤ 9223372036854775807) (hq94 : (((spec_StepChest v12 v13).1).Stack).length ≤ 10) (h138 : ¬ (((!(((impl_StepChest v12 v13).2) == ((spec_StepChest v12 v13).2))) = true) ∨ ((¬ (((impl_StepChest v12 v13).1) = ((spec_StepChest v12 v13).1))) ∨ ((((impl_StepChest v12 v13).2) = true) ∧ (¬ (ChestOK ((impl_StepChest v12 v13).1))))))) (hq140 : ¬ ((!(((impl_StepChest v12 v13).2) == ((spec_StepChest v12 v13).2))) = true)) (hq141 : ((impl_StepChest v12 v13).1) = ((spec_StepChest v12 v13).1)) (hq142 : ¬ ((((impl_StepChest v12 v13).2) = true) ∧ (¬ (ChestOK ((impl_StepChest v12 v13).1))))) (h155 : ¬ ((((impl_StepChest v12 v13).2) = true) ∧ ((¬ ((IntKind.i64.wrap ((((impl_StepChest v12 v13).1).Laid) - (((impl_StepChest v12 v13).1).Given))) = (n55 : Int))) ∨ (((v13.Kind = 5) ∧ ((¬ (v13.Kind = 6)) ∧ (¬ ((((impl_StepChest v12 v13).1).Given) = v12.Given)))) ∨ ((¬ (v13.Kind = 5)) ∧ ((¬ ((((impl_StepChest v12 v13).1).Laid) = v12.Laid)) ∨ ((¬ (v13.Kind = 6)) ∧ (¬ ((((impl_StepChest v12 v13).1).Given) = v12.Given))))))))) (v172 : Chest) (v173 : List ChestStep) (hq174 : (v172.Stack.length ≤ 11) ∧ 0 ≤ v172.Key ∧ v172.Key ≤ 9999) (hq175 : v173.length ≤ 60) (n164 : Nat) (hl178 : n164 = (v172.Stack).length) (hl179 : (n164 : Int) ≤ 9223372036854775807) (n168 : Nat) (hl180 : n168 = (v173).length) (hl181 : (n168 : Int) ≤ 9223372036854775807) (n207 : Nat) (hl212 : n207 = (((runF v172 v173).1).Stack).length) (hl213 : (n207 : Int) ≤ 9223372036854775807) (hq214 : (((runF v172 v173).1).Stack).length ≤ 10) (n243 : Nat) (hl248 : n243 = (((runF v172 v173).1).Stack).length) (hl249 : (n243 : Int) ≤ 9223372036854775807) (hq250 : (((runF v172 v173).1).Stack).length ≤ 10) (h283 : ((runF v172 v173).1) = ((runF v172 v173).1)) (h285 : ((runF v172 v173).2.2) = true) : (0 ≤ v173.length ∧ 0 ≤ (0 : Int) ∧ (0 : Int) ≤ (0 : Int)) ∧ runTo v172 v173 0 = (v172, (0 : Int)) ∧ ChestOK v172 := by
  exact ⟨by omega, rfl, (runF_told ‹(runF _ _).2.2 = true›).1⟩
theorem z_c_laws_FnChests_441 (L : List UInt8) (nL : Nat) (hbdL : (nL : Int) ≤ 9223372036854775807) (hleL : nL = L.length) (h5 : ¬ (65536 < (L.length : Int))) (v12 : Chest) (v13 : ChestStep) (hq14 : (v12.Stack.length ≤ 11) ∧ 0 ≤ v12.Key ∧ v12.Key ≤ 9999) (n9 : Nat) (hl17 : n9 = (v12.Stack).length) (hl18 : (n9 : Int) ≤ 9223372036854775807) (hq19 : ChLaw v12 v13) (n55 : Nat) (hl60 : n55 = (((impl_StepChest v12 v13).1).Stack).length) (hl61 : (n55 : Int) ≤ 9223372036854775807) (hq62 : (((impl_StepChest v12 v13).1).Stack).length ≤ 10) (n87 : Nat) (hl92 : n87 = (((spec_StepChest v12 v13).1).Stack).length) (hl93 : (n87 : Int) ≤ 9223372036854775807) (hq94 : (((spec_StepChest v12 v13).1).Stack).length ≤ 10) (h138 : ¬ (((!(((impl_StepChest v12 v13).2) == ((spec_StepChest v12 v13).2))) = true) ∨ ((¬ (((impl_StepChest v12 v13).1) = ((spec_StepChest v12 v13).1))) ∨ ((((impl_StepChest v12 v13).2) = true) ∧ (¬ (ChestOK ((impl_StepChest v12 v13).1))))))) (hq140 : ¬ ((!(((impl_StepChest v12 v13).2) == ((spec_StepChest v12 v13).2))) = true)) (hq141 : ((impl_StepChest v12 v13).1) = ((spec_StepChest v12 v13).1)) (hq142 : ¬ ((((impl_StepChest v12 v13).2) = true) ∧ (¬ (ChestOK ((impl_StepChest v12 v13).1))))) (h155 : ¬ ((((impl_StepChest v12 v13).2) = true) ∧ ((¬ ((IntKind.i64.wrap ((((impl_StepChest v12 v13).1).Laid) - (((impl_StepChest v12 v13).1).Given))) = (n55 : Int))) ∨ (((v13.Kind = 5) ∧ ((¬ (v13.Kind = 6)) ∧ (¬ ((((impl_StepChest v12 v13).1).Given) = v12.Given)))) ∨ ((¬ (v13.Kind = 5)) ∧ ((¬ ((((impl_StepChest v12 v13).1).Laid) = v12.Laid)) ∨ ((¬ (v13.Kind = 6)) ∧ (¬ ((((impl_StepChest v12 v13).1).Given) = v12.Given))))))))) (v172 : Chest) (v173 : List ChestStep) (hq174 : (v172.Stack.length ≤ 11) ∧ 0 ≤ v172.Key ∧ v172.Key ≤ 9999) (hq175 : v173.length ≤ 60) (n164 : Nat) (hl178 : n164 = (v172.Stack).length) (hl179 : (n164 : Int) ≤ 9223372036854775807) (n168 : Nat) (hl180 : n168 = (v173).length) (hl181 : (n168 : Int) ≤ 9223372036854775807) (n207 : Nat) (hl212 : n207 = (((runF v172 v173).1).Stack).length) (hl213 : (n207 : Int) ≤ 9223372036854775807) (hq214 : (((runF v172 v173).1).Stack).length ≤ 10) (n243 : Nat) (hl248 : n243 = (((runF v172 v173).1).Stack).length) (hl249 : (n243 : Int) ≤ 9223372036854775807) (hq250 : (((runF v172 v173).1).Stack).length ≤ 10) (h283 : ((runF v172 v173).1) = ((runF v172 v173).1)) (h285 : ((runF v172 v173).2.2) = true) (k : Nat) (o : Chest) (m : Int) (n312 : Nat) (c312 : Nat) (hi324 : (k ≤ v173.length ∧ 0 ≤ m ∧ m ≤ (k : Int)) ∧ runTo v172 v173 k = (o, m) ∧ ChestOK o) (hl331 : n312 = (o.Stack).length) (hq333 : 0 ≤ m ∧ m ≤ (k : Int)) (hq334 : ChestOK o) (hq335 : o.Stack.length ≤ 10) (h336 : (k : Int) < (n168 : Int)) (n346 : Nat) (hx342 : v173[k]? = some (gt v173 k)) (hl352 : n346 = (((impl_StepChest o (gt v173 k)).1).Stack).length) (hl353 : (n346 : Int) ≤ 9223372036854775807) (hq354 : (((impl_StepChest o (gt v173 k)).1).Stack).length ≤ 10) (h430 : ((impl_StepChest o (gt v173 k)).2) = true) : (k + 1 ≤ v173.length ∧ 0 ≤ m + 1 ∧ m + 1 ≤ (k + 1 : Int)) ∧ runTo v172 v173 (k + 1) = (((impl_StepChest o (gt v173 k)).1), m + 1) ∧ ChestOK ((impl_StepChest o (gt v173 k)).1) := by
  have hh := ‹_ ∧ runTo _ _ _ = _ ∧ _›
  first | exact ⟨by omega, run_yesI hh.2.1 ‹_[k]? = some _› ‹_›⟩ | exact ⟨by omega, run_noI hh.2.1 hh.2.2 ‹_[k]? = some _› ‹_›, hh.2.2⟩
theorem z_c_laws_FnChests_442 (L : List UInt8) (nL : Nat) (hbdL : (nL : Int) ≤ 9223372036854775807) (hleL : nL = L.length) (h5 : ¬ (65536 < (L.length : Int))) (v12 : Chest) (v13 : ChestStep) (hq14 : (v12.Stack.length ≤ 11) ∧ 0 ≤ v12.Key ∧ v12.Key ≤ 9999) (n9 : Nat) (hl17 : n9 = (v12.Stack).length) (hl18 : (n9 : Int) ≤ 9223372036854775807) (hq19 : ChLaw v12 v13) (n55 : Nat) (hl60 : n55 = (((impl_StepChest v12 v13).1).Stack).length) (hl61 : (n55 : Int) ≤ 9223372036854775807) (hq62 : (((impl_StepChest v12 v13).1).Stack).length ≤ 10) (n87 : Nat) (hl92 : n87 = (((spec_StepChest v12 v13).1).Stack).length) (hl93 : (n87 : Int) ≤ 9223372036854775807) (hq94 : (((spec_StepChest v12 v13).1).Stack).length ≤ 10) (h138 : ¬ (((!(((impl_StepChest v12 v13).2) == ((spec_StepChest v12 v13).2))) = true) ∨ ((¬ (((impl_StepChest v12 v13).1) = ((spec_StepChest v12 v13).1))) ∨ ((((impl_StepChest v12 v13).2) = true) ∧ (¬ (ChestOK ((impl_StepChest v12 v13).1))))))) (hq140 : ¬ ((!(((impl_StepChest v12 v13).2) == ((spec_StepChest v12 v13).2))) = true)) (hq141 : ((impl_StepChest v12 v13).1) = ((spec_StepChest v12 v13).1)) (hq142 : ¬ ((((impl_StepChest v12 v13).2) = true) ∧ (¬ (ChestOK ((impl_StepChest v12 v13).1))))) (h155 : ¬ ((((impl_StepChest v12 v13).2) = true) ∧ ((¬ ((IntKind.i64.wrap ((((impl_StepChest v12 v13).1).Laid) - (((impl_StepChest v12 v13).1).Given))) = (n55 : Int))) ∨ (((v13.Kind = 5) ∧ ((¬ (v13.Kind = 6)) ∧ (¬ ((((impl_StepChest v12 v13).1).Given) = v12.Given)))) ∨ ((¬ (v13.Kind = 5)) ∧ ((¬ ((((impl_StepChest v12 v13).1).Laid) = v12.Laid)) ∨ ((¬ (v13.Kind = 6)) ∧ (¬ ((((impl_StepChest v12 v13).1).Given) = v12.Given))))))))) (v172 : Chest) (v173 : List ChestStep) (hq174 : (v172.Stack.length ≤ 11) ∧ 0 ≤ v172.Key ∧ v172.Key ≤ 9999) (hq175 : v173.length ≤ 60) (n164 : Nat) (hl178 : n164 = (v172.Stack).length) (hl179 : (n164 : Int) ≤ 9223372036854775807) (n168 : Nat) (hl180 : n168 = (v173).length) (hl181 : (n168 : Int) ≤ 9223372036854775807) (n207 : Nat) (hl212 : n207 = (((runF v172 v173).1).Stack).length) (hl213 : (n207 : Int) ≤ 9223372036854775807) (hq214 : (((runF v172 v173).1).Stack).length ≤ 10) (n243 : Nat) (hl248 : n243 = (((runF v172 v173).1).Stack).length) (hl249 : (n243 : Int) ≤ 9223372036854775807) (hq250 : (((runF v172 v173).1).Stack).length ≤ 10) (h283 : ((runF v172 v173).1) = ((runF v172 v173).1)) (h285 : ((runF v172 v173).2.2) = true) (k : Nat) (o : Chest) (m : Int) (n312 : Nat) (c312 : Nat) (hi324 : (k ≤ v173.length ∧ 0 ≤ m ∧ m ≤ (k : Int)) ∧ runTo v172 v173 k = (o, m) ∧ ChestOK o) (hl331 : n312 = (o.Stack).length) (hq333 : 0 ≤ m ∧ m ≤ (k : Int)) (hq334 : ChestOK o) (hq335 : o.Stack.length ≤ 10) (h336 : (k : Int) < (n168 : Int)) (n346 : Nat) (hx342 : v173[k]? = some (gt v173 k)) (hl352 : n346 = (((impl_StepChest o (gt v173 k)).1).Stack).length) (hl353 : (n346 : Int) ≤ 9223372036854775807) (hq354 : (((impl_StepChest o (gt v173 k)).1).Stack).length ≤ 10) (h430 : ((impl_StepChest o (gt v173 k)).2) = true) : 60 - (k + 1) < 60 - k := by
  omega
theorem z_c_laws_FnChests_443 (L : List UInt8) (nL : Nat) (hbdL : (nL : Int) ≤ 9223372036854775807) (hleL : nL = L.length) (h5 : ¬ (65536 < (L.length : Int))) (v12 : Chest) (v13 : ChestStep) (hq14 : (v12.Stack.length ≤ 11) ∧ 0 ≤ v12.Key ∧ v12.Key ≤ 9999) (n9 : Nat) (hl17 : n9 = (v12.Stack).length) (hl18 : (n9 : Int) ≤ 9223372036854775807) (hq19 : ChLaw v12 v13) (n55 : Nat) (hl60 : n55 = (((impl_StepChest v12 v13).1).Stack).length) (hl61 : (n55 : Int) ≤ 9223372036854775807) (hq62 : (((impl_StepChest v12 v13).1).Stack).length ≤ 10) (n87 : Nat) (hl92 : n87 = (((spec_StepChest v12 v13).1).Stack).length) (hl93 : (n87 : Int) ≤ 9223372036854775807) (hq94 : (((spec_StepChest v12 v13).1).Stack).length ≤ 10) (h138 : ¬ (((!(((impl_StepChest v12 v13).2) == ((spec_StepChest v12 v13).2))) = true) ∨ ((¬ (((impl_StepChest v12 v13).1) = ((spec_StepChest v12 v13).1))) ∨ ((((impl_StepChest v12 v13).2) = true) ∧ (¬ (ChestOK ((impl_StepChest v12 v13).1))))))) (hq140 : ¬ ((!(((impl_StepChest v12 v13).2) == ((spec_StepChest v12 v13).2))) = true)) (hq141 : ((impl_StepChest v12 v13).1) = ((spec_StepChest v12 v13).1)) (hq142 : ¬ ((((impl_StepChest v12 v13).2) = true) ∧ (¬ (ChestOK ((impl_StepChest v12 v13).1))))) (h155 : ¬ ((((impl_StepChest v12 v13).2) = true) ∧ ((¬ ((IntKind.i64.wrap ((((impl_StepChest v12 v13).1).Laid) - (((impl_StepChest v12 v13).1).Given))) = (n55 : Int))) ∨ (((v13.Kind = 5) ∧ ((¬ (v13.Kind = 6)) ∧ (¬ ((((impl_StepChest v12 v13).1).Given) = v12.Given)))) ∨ ((¬ (v13.Kind = 5)) ∧ ((¬ ((((impl_StepChest v12 v13).1).Laid) = v12.Laid)) ∨ ((¬ (v13.Kind = 6)) ∧ (¬ ((((impl_StepChest v12 v13).1).Given) = v12.Given))))))))) (v172 : Chest) (v173 : List ChestStep) (hq174 : (v172.Stack.length ≤ 11) ∧ 0 ≤ v172.Key ∧ v172.Key ≤ 9999) (hq175 : v173.length ≤ 60) (n164 : Nat) (hl178 : n164 = (v172.Stack).length) (hl179 : (n164 : Int) ≤ 9223372036854775807) (n168 : Nat) (hl180 : n168 = (v173).length) (hl181 : (n168 : Int) ≤ 9223372036854775807) (n207 : Nat) (hl212 : n207 = (((runF v172 v173).1).Stack).length) (hl213 : (n207 : Int) ≤ 9223372036854775807) (hq214 : (((runF v172 v173).1).Stack).length ≤ 10) (n243 : Nat) (hl248 : n243 = (((runF v172 v173).1).Stack).length) (hl249 : (n243 : Int) ≤ 9223372036854775807) (hq250 : (((runF v172 v173).1).Stack).length ≤ 10) (h283 : ((runF v172 v173).1) = ((runF v172 v173).1)) (h285 : ((runF v172 v173).2.2) = true) (k : Nat) (o : Chest) (m : Int) (n312 : Nat) (c312 : Nat) (hi324 : (k ≤ v173.length ∧ 0 ≤ m ∧ m ≤ (k : Int)) ∧ runTo v172 v173 k = (o, m) ∧ ChestOK o) (hl331 : n312 = (o.Stack).length) (hq333 : 0 ≤ m ∧ m ≤ (k : Int)) (hq334 : ChestOK o) (hq335 : o.Stack.length ≤ 10) (h336 : (k : Int) < (n168 : Int)) (n346 : Nat) (hx342 : v173[k]? = some (gt v173 k)) (hl352 : n346 = (((impl_StepChest o (gt v173 k)).1).Stack).length) (hl353 : (n346 : Int) ≤ 9223372036854775807) (hq354 : (((impl_StepChest o (gt v173 k)).1).Stack).length ≤ 10) (h430 : ((impl_StepChest o (gt v173 k)).2) = false) : (k + 1 ≤ v173.length ∧ 0 ≤ m ∧ m ≤ (k + 1 : Int)) ∧ runTo v172 v173 (k + 1) = (o, m) ∧ ChestOK o := by
  have hh := ‹_ ∧ runTo _ _ _ = _ ∧ _›
  first | exact ⟨by omega, run_yesI hh.2.1 ‹_[k]? = some _› ‹_›⟩ | exact ⟨by omega, run_noI hh.2.1 hh.2.2 ‹_[k]? = some _› ‹_›, hh.2.2⟩
theorem z_c_laws_FnChests_444 (L : List UInt8) (nL : Nat) (hbdL : (nL : Int) ≤ 9223372036854775807) (hleL : nL = L.length) (h5 : ¬ (65536 < (L.length : Int))) (v12 : Chest) (v13 : ChestStep) (hq14 : (v12.Stack.length ≤ 11) ∧ 0 ≤ v12.Key ∧ v12.Key ≤ 9999) (n9 : Nat) (hl17 : n9 = (v12.Stack).length) (hl18 : (n9 : Int) ≤ 9223372036854775807) (hq19 : ChLaw v12 v13) (n55 : Nat) (hl60 : n55 = (((impl_StepChest v12 v13).1).Stack).length) (hl61 : (n55 : Int) ≤ 9223372036854775807) (hq62 : (((impl_StepChest v12 v13).1).Stack).length ≤ 10) (n87 : Nat) (hl92 : n87 = (((spec_StepChest v12 v13).1).Stack).length) (hl93 : (n87 : Int) ≤ 9223372036854775807) (hq94 : (((spec_StepChest v12 v13).1).Stack).length ≤ 10) (h138 : ¬ (((!(((impl_StepChest v12 v13).2) == ((spec_StepChest v12 v13).2))) = true) ∨ ((¬ (((impl_StepChest v12 v13).1) = ((spec_StepChest v12 v13).1))) ∨ ((((impl_StepChest v12 v13).2) = true) ∧ (¬ (ChestOK ((impl_StepChest v12 v13).1))))))) (hq140 : ¬ ((!(((impl_StepChest v12 v13).2) == ((spec_StepChest v12 v13).2))) = true)) (hq141 : ((impl_StepChest v12 v13).1) = ((spec_StepChest v12 v13).1)) (hq142 : ¬ ((((impl_StepChest v12 v13).2) = true) ∧ (¬ (ChestOK ((impl_StepChest v12 v13).1))))) (h155 : ¬ ((((impl_StepChest v12 v13).2) = true) ∧ ((¬ ((IntKind.i64.wrap ((((impl_StepChest v12 v13).1).Laid) - (((impl_StepChest v12 v13).1).Given))) = (n55 : Int))) ∨ (((v13.Kind = 5) ∧ ((¬ (v13.Kind = 6)) ∧ (¬ ((((impl_StepChest v12 v13).1).Given) = v12.Given)))) ∨ ((¬ (v13.Kind = 5)) ∧ ((¬ ((((impl_StepChest v12 v13).1).Laid) = v12.Laid)) ∨ ((¬ (v13.Kind = 6)) ∧ (¬ ((((impl_StepChest v12 v13).1).Given) = v12.Given))))))))) (v172 : Chest) (v173 : List ChestStep) (hq174 : (v172.Stack.length ≤ 11) ∧ 0 ≤ v172.Key ∧ v172.Key ≤ 9999) (hq175 : v173.length ≤ 60) (n164 : Nat) (hl178 : n164 = (v172.Stack).length) (hl179 : (n164 : Int) ≤ 9223372036854775807) (n168 : Nat) (hl180 : n168 = (v173).length) (hl181 : (n168 : Int) ≤ 9223372036854775807) (n207 : Nat) (hl212 : n207 = (((runF v172 v173).1).Stack).length) (hl213 : (n207 : Int) ≤ 9223372036854775807) (hq214 : (((runF v172 v173).1).Stack).length ≤ 10) (n243 : Nat) (hl248 : n243 = (((runF v172 v173).1).Stack).length) (hl249 : (n243 : Int) ≤ 9223372036854775807) (hq250 : (((runF v172 v173).1).Stack).length ≤ 10) (h283 : ((runF v172 v173).1) = ((runF v172 v173).1)) (h285 : ((runF v172 v173).2.2) = true) (k : Nat) (o : Chest) (m : Int) (n312 : Nat) (c312 : Nat) (hi324 : (k ≤ v173.length ∧ 0 ≤ m ∧ m ≤ (k : Int)) ∧ runTo v172 v173 k = (o, m) ∧ ChestOK o) (hl331 : n312 = (o.Stack).length) (hq333 : 0 ≤ m ∧ m ≤ (k : Int)) (hq334 : ChestOK o) (hq335 : o.Stack.length ≤ 10) (h336 : (k : Int) < (n168 : Int)) (n346 : Nat) (hx342 : v173[k]? = some (gt v173 k)) (hl352 : n346 = (((impl_StepChest o (gt v173 k)).1).Stack).length) (hl353 : (n346 : Int) ≤ 9223372036854775807) (hq354 : (((impl_StepChest o (gt v173 k)).1).Stack).length ≤ 10) (h430 : ((impl_StepChest o (gt v173 k)).2) = false) : 60 - (k + 1) < 60 - k := by
  omega
theorem z_c_laws_FnChests_457 (L : List UInt8) (nL : Nat) (hbdL : (nL : Int) ≤ 9223372036854775807) (hleL : nL = L.length) (h5 : ¬ (65536 < (L.length : Int))) (v12 : Chest) (v13 : ChestStep) (hq14 : (v12.Stack.length ≤ 11) ∧ 0 ≤ v12.Key ∧ v12.Key ≤ 9999) (n9 : Nat) (hl17 : n9 = (v12.Stack).length) (hl18 : (n9 : Int) ≤ 9223372036854775807) (hq19 : ChLaw v12 v13) (n55 : Nat) (hl60 : n55 = (((impl_StepChest v12 v13).1).Stack).length) (hl61 : (n55 : Int) ≤ 9223372036854775807) (hq62 : (((impl_StepChest v12 v13).1).Stack).length ≤ 10) (n87 : Nat) (hl92 : n87 = (((spec_StepChest v12 v13).1).Stack).length) (hl93 : (n87 : Int) ≤ 9223372036854775807) (hq94 : (((spec_StepChest v12 v13).1).Stack).length ≤ 10) (h138 : ¬ (((!(((impl_StepChest v12 v13).2) == ((spec_StepChest v12 v13).2))) = true) ∨ ((¬ (((impl_StepChest v12 v13).1) = ((spec_StepChest v12 v13).1))) ∨ ((((impl_StepChest v12 v13).2) = true) ∧ (¬ (ChestOK ((impl_StepChest v12 v13).1))))))) (hq140 : ¬ ((!(((impl_StepChest v12 v13).2) == ((spec_StepChest v12 v13).2))) = true)) (hq141 : ((impl_StepChest v12 v13).1) = ((spec_StepChest v12 v13).1)) (hq142 : ¬ ((((impl_StepChest v12 v13).2) = true) ∧ (¬ (ChestOK ((impl_StepChest v12 v13).1))))) (h155 : ¬ ((((impl_StepChest v12 v13).2) = true) ∧ ((¬ ((IntKind.i64.wrap ((((impl_StepChest v12 v13).1).Laid) - (((impl_StepChest v12 v13).1).Given))) = (n55 : Int))) ∨ (((v13.Kind = 5) ∧ ((¬ (v13.Kind = 6)) ∧ (¬ ((((impl_StepChest v12 v13).1).Given) = v12.Given)))) ∨ ((¬ (v13.Kind = 5)) ∧ ((¬ ((((impl_StepChest v12 v13).1).Laid) = v12.Laid)) ∨ ((¬ (v13.Kind = 6)) ∧ (¬ ((((impl_StepChest v12 v13).1).Given) = v12.Given))))))))) (v172 : Chest) (v173 : List ChestStep) (hq174 : (v172.Stack.length ≤ 11) ∧ 0 ≤ v172.Key ∧ v172.Key ≤ 9999) (hq175 : v173.length ≤ 60) (n164 : Nat) (hl178 : n164 = (v172.Stack).length) (hl179 : (n164 : Int) ≤ 9223372036854775807) (n168 : Nat) (hl180 : n168 = (v173).length) (hl181 : (n168 : Int) ≤ 9223372036854775807) (n207 : Nat) (hl212 : n207 = (((runF v172 v173).1).Stack).length) (hl213 : (n207 : Int) ≤ 9223372036854775807) (hq214 : (((runF v172 v173).1).Stack).length ≤ 10) (n243 : Nat) (hl248 : n243 = (((runF v172 v173).1).Stack).length) (hl249 : (n243 : Int) ≤ 9223372036854775807) (hq250 : (((runF v172 v173).1).Stack).length ≤ 10) (h283 : ((runF v172 v173).1) = ((runF v172 v173).1)) (h285 : ((runF v172 v173).2.2) = true) (k : Nat) (o : Chest) (m : Int) (n312 : Nat) (c312 : Nat) (hi324 : (k ≤ v173.length ∧ 0 ≤ m ∧ m ≤ (k : Int)) ∧ runTo v172 v173 k = (o, m) ∧ ChestOK o) (hl331 : n312 = (o.Stack).length) (hq333 : 0 ≤ m ∧ m ≤ (k : Int)) (hq334 : ChestOK o) (hq335 : o.Stack.length ≤ 10) (h336 : ¬ ((k : Int) < (n168 : Int))) (h456 : (¬ (m = ((runF v172 v173).2.1))) ∨ (¬ (o = ((runF v172 v173).1)))) : false = true := by
  first | (exfalso; first | exact ch_bad1 ‹ChLaw _ _› (by assumption) | exact ch_bad2 ‹ChLaw _ _› (by assumption) (by assumption) | exact run_bad ‹(runF _ _).2.2 = true› (by assumption) (by omega) (by assumption) | exact ab_bad1 ‹AbLaw _ _› (by assumption) | exact ab_bad2 ‹AbLaw _ _› (by assumption) | exact ‹¬ (runF _ _).1 = (runF _ _).1› rfl) | exact decide_eq_true (ab_fin ‹AbLaw _ _›)
theorem z_c_laws_FnChests_511 (L : List UInt8) (nL : Nat) (hbdL : (nL : Int) ≤ 9223372036854775807) (hleL : nL = L.length) (h5 : ¬ (65536 < (L.length : Int))) (v12 : Chest) (v13 : ChestStep) (hq14 : (v12.Stack.length ≤ 11) ∧ 0 ≤ v12.Key ∧ v12.Key ≤ 9999) (n9 : Nat) (hl17 : n9 = (v12.Stack).length) (hl18 : (n9 : Int) ≤ 9223372036854775807) (hq19 : ChLaw v12 v13) (n55 : Nat) (hl60 : n55 = (((impl_StepChest v12 v13).1).Stack).length) (hl61 : (n55 : Int) ≤ 9223372036854775807) (hq62 : (((impl_StepChest v12 v13).1).Stack).length ≤ 10) (n87 : Nat) (hl92 : n87 = (((spec_StepChest v12 v13).1).Stack).length) (hl93 : (n87 : Int) ≤ 9223372036854775807) (hq94 : (((spec_StepChest v12 v13).1).Stack).length ≤ 10) (h138 : ¬ (((!(((impl_StepChest v12 v13).2) == ((spec_StepChest v12 v13).2))) = true) ∨ ((¬ (((impl_StepChest v12 v13).1) = ((spec_StepChest v12 v13).1))) ∨ ((((impl_StepChest v12 v13).2) = true) ∧ (¬ (ChestOK ((impl_StepChest v12 v13).1))))))) (hq140 : ¬ ((!(((impl_StepChest v12 v13).2) == ((spec_StepChest v12 v13).2))) = true)) (hq141 : ((impl_StepChest v12 v13).1) = ((spec_StepChest v12 v13).1)) (hq142 : ¬ ((((impl_StepChest v12 v13).2) = true) ∧ (¬ (ChestOK ((impl_StepChest v12 v13).1))))) (h155 : ¬ ((((impl_StepChest v12 v13).2) = true) ∧ ((¬ ((IntKind.i64.wrap ((((impl_StepChest v12 v13).1).Laid) - (((impl_StepChest v12 v13).1).Given))) = (n55 : Int))) ∨ (((v13.Kind = 5) ∧ ((¬ (v13.Kind = 6)) ∧ (¬ ((((impl_StepChest v12 v13).1).Given) = v12.Given)))) ∨ ((¬ (v13.Kind = 5)) ∧ ((¬ ((((impl_StepChest v12 v13).1).Laid) = v12.Laid)) ∨ ((¬ (v13.Kind = 6)) ∧ (¬ ((((impl_StepChest v12 v13).1).Given) = v12.Given))))))))) (v172 : Chest) (v173 : List ChestStep) (hq174 : (v172.Stack.length ≤ 11) ∧ 0 ≤ v172.Key ∧ v172.Key ≤ 9999) (hq175 : v173.length ≤ 60) (n164 : Nat) (hl178 : n164 = (v172.Stack).length) (hl179 : (n164 : Int) ≤ 9223372036854775807) (n168 : Nat) (hl180 : n168 = (v173).length) (hl181 : (n168 : Int) ≤ 9223372036854775807) (n207 : Nat) (hl212 : n207 = (((runF v172 v173).1).Stack).length) (hl213 : (n207 : Int) ≤ 9223372036854775807) (hq214 : (((runF v172 v173).1).Stack).length ≤ 10) (n243 : Nat) (hl248 : n243 = (((runF v172 v173).1).Stack).length) (hl249 : (n243 : Int) ≤ 9223372036854775807) (hq250 : (((runF v172 v173).1).Stack).length ≤ 10) (h283 : ((runF v172 v173).1) = ((runF v172 v173).1)) (h285 : ((runF v172 v173).2.2) = true) (k : Nat) (o : Chest) (m : Int) (n312 : Nat) (c312 : Nat) (hi324 : (k ≤ v173.length ∧ 0 ≤ m ∧ m ≤ (k : Int)) ∧ runTo v172 v173 k = (o, m) ∧ ChestOK o) (hl331 : n312 = (o.Stack).length) (hq333 : 0 ≤ m ∧ m ≤ (k : Int)) (hq334 : ChestOK o) (hq335 : o.Stack.length ≤ 10) (h336 : ¬ ((k : Int) < (n168 : Int))) (h456 : ¬ ((¬ (m = ((runF v172 v173).2.1))) ∨ (¬ (o = ((runF v172 v173).1))))) (hq458 : m = ((runF v172 v173).2.1)) (hq459 : o = ((runF v172 v173).1)) (v466 : Chest) (v467 : Int) (hq468 : (v466.Stack.length ≤ 11) ∧ 0 ≤ v466.Key ∧ v466.Key ≤ 9999) (n463 : Nat) (hl471 : n463 = (v466.Stack).length) (hl472 : (n463 : Int) ≤ 9223372036854775807) (hq473 : AbLaw v466 v467) (h510 : (¬ (((impl_MapsAbove v466 v467).1) = ((spec_MapsAbove v466 v467).1))) ∨ ((!(((impl_MapsAbove v466 v467).2) == ((spec_MapsAbove v466 v467).2))) = true)) : false = true := by
  first | (exfalso; first | exact ch_bad1 ‹ChLaw _ _› (by assumption) | exact ch_bad2 ‹ChLaw _ _› (by assumption) (by assumption) | exact run_bad ‹(runF _ _).2.2 = true› (by assumption) (by omega) (by assumption) | exact ab_bad1 ‹AbLaw _ _› (by assumption) | exact ab_bad2 ‹AbLaw _ _› (by assumption) | exact ‹¬ (runF _ _).1 = (runF _ _).1› rfl) | exact decide_eq_true (ab_fin ‹AbLaw _ _›)
theorem z_c_laws_FnChests_532 (L : List UInt8) (nL : Nat) (hbdL : (nL : Int) ≤ 9223372036854775807) (hleL : nL = L.length) (h5 : ¬ (65536 < (L.length : Int))) (v12 : Chest) (v13 : ChestStep) (hq14 : (v12.Stack.length ≤ 11) ∧ 0 ≤ v12.Key ∧ v12.Key ≤ 9999) (n9 : Nat) (hl17 : n9 = (v12.Stack).length) (hl18 : (n9 : Int) ≤ 9223372036854775807) (hq19 : ChLaw v12 v13) (n55 : Nat) (hl60 : n55 = (((impl_StepChest v12 v13).1).Stack).length) (hl61 : (n55 : Int) ≤ 9223372036854775807) (hq62 : (((impl_StepChest v12 v13).1).Stack).length ≤ 10) (n87 : Nat) (hl92 : n87 = (((spec_StepChest v12 v13).1).Stack).length) (hl93 : (n87 : Int) ≤ 9223372036854775807) (hq94 : (((spec_StepChest v12 v13).1).Stack).length ≤ 10) (h138 : ¬ (((!(((impl_StepChest v12 v13).2) == ((spec_StepChest v12 v13).2))) = true) ∨ ((¬ (((impl_StepChest v12 v13).1) = ((spec_StepChest v12 v13).1))) ∨ ((((impl_StepChest v12 v13).2) = true) ∧ (¬ (ChestOK ((impl_StepChest v12 v13).1))))))) (hq140 : ¬ ((!(((impl_StepChest v12 v13).2) == ((spec_StepChest v12 v13).2))) = true)) (hq141 : ((impl_StepChest v12 v13).1) = ((spec_StepChest v12 v13).1)) (hq142 : ¬ ((((impl_StepChest v12 v13).2) = true) ∧ (¬ (ChestOK ((impl_StepChest v12 v13).1))))) (h155 : ¬ ((((impl_StepChest v12 v13).2) = true) ∧ ((¬ ((IntKind.i64.wrap ((((impl_StepChest v12 v13).1).Laid) - (((impl_StepChest v12 v13).1).Given))) = (n55 : Int))) ∨ (((v13.Kind = 5) ∧ ((¬ (v13.Kind = 6)) ∧ (¬ ((((impl_StepChest v12 v13).1).Given) = v12.Given)))) ∨ ((¬ (v13.Kind = 5)) ∧ ((¬ ((((impl_StepChest v12 v13).1).Laid) = v12.Laid)) ∨ ((¬ (v13.Kind = 6)) ∧ (¬ ((((impl_StepChest v12 v13).1).Given) = v12.Given))))))))) (v172 : Chest) (v173 : List ChestStep) (hq174 : (v172.Stack.length ≤ 11) ∧ 0 ≤ v172.Key ∧ v172.Key ≤ 9999) (hq175 : v173.length ≤ 60) (n164 : Nat) (hl178 : n164 = (v172.Stack).length) (hl179 : (n164 : Int) ≤ 9223372036854775807) (n168 : Nat) (hl180 : n168 = (v173).length) (hl181 : (n168 : Int) ≤ 9223372036854775807) (n207 : Nat) (hl212 : n207 = (((runF v172 v173).1).Stack).length) (hl213 : (n207 : Int) ≤ 9223372036854775807) (hq214 : (((runF v172 v173).1).Stack).length ≤ 10) (n243 : Nat) (hl248 : n243 = (((runF v172 v173).1).Stack).length) (hl249 : (n243 : Int) ≤ 9223372036854775807) (hq250 : (((runF v172 v173).1).Stack).length ≤ 10) (h283 : ((runF v172 v173).1) = ((runF v172 v173).1)) (h285 : ((runF v172 v173).2.2) = true) (k : Nat) (o : Chest) (m : Int) (n312 : Nat) (c312 : Nat) (hi324 : (k ≤ v173.length ∧ 0 ≤ m ∧ m ≤ (k : Int)) ∧ runTo v172 v173 k = (o, m) ∧ ChestOK o) (hl331 : n312 = (o.Stack).length) (hq333 : 0 ≤ m ∧ m ≤ (k : Int)) (hq334 : ChestOK o) (hq335 : o.Stack.length ≤ 10) (h336 : ¬ ((k : Int) < (n168 : Int))) (h456 : ¬ ((¬ (m = ((runF v172 v173).2.1))) ∨ (¬ (o = ((runF v172 v173).1))))) (hq458 : m = ((runF v172 v173).2.1)) (hq459 : o = ((runF v172 v173).1)) (v466 : Chest) (v467 : Int) (hq468 : (v466.Stack.length ≤ 11) ∧ 0 ≤ v466.Key ∧ v466.Key ≤ 9999) (n463 : Nat) (hl471 : n463 = (v466.Stack).length) (hl472 : (n463 : Int) ≤ 9223372036854775807) (hq473 : AbLaw v466 v467) (h510 : ¬ ((¬ (((impl_MapsAbove v466 v467).1) = ((spec_MapsAbove v466 v467).1))) ∨ ((!(((impl_MapsAbove v466 v467).2) == ((spec_MapsAbove v466 v467).2))) = true))) (hq512 : ((impl_MapsAbove v466 v467).1) = ((spec_MapsAbove v466 v467).1)) (hq513 : ¬ ((!(((impl_MapsAbove v466 v467).2) == ((spec_MapsAbove v466 v467).2))) = true)) (h531 : (¬ (((impl_TopMap v466).1) = ((spec_TopMap v466).1))) ∨ ((!(((impl_TopMap v466).2) == ((spec_TopMap v466).2))) = true)) : false = true := by
  first | (exfalso; first | exact ch_bad1 ‹ChLaw _ _› (by assumption) | exact ch_bad2 ‹ChLaw _ _› (by assumption) (by assumption) | exact run_bad ‹(runF _ _).2.2 = true› (by assumption) (by omega) (by assumption) | exact ab_bad1 ‹AbLaw _ _› (by assumption) | exact ab_bad2 ‹AbLaw _ _› (by assumption) | exact ‹¬ (runF _ _).1 = (runF _ _).1› rfl) | exact decide_eq_true (ab_fin ‹AbLaw _ _›)
theorem z_c_laws_FnChests_545 (L : List UInt8) (nL : Nat) (hbdL : (nL : Int) ≤ 9223372036854775807) (hleL : nL = L.length) (h5 : ¬ (65536 < (L.length : Int))) (v12 : Chest) (v13 : ChestStep) (hq14 : (v12.Stack.length ≤ 11) ∧ 0 ≤ v12.Key ∧ v12.Key ≤ 9999) (n9 : Nat) (hl17 : n9 = (v12.Stack).length) (hl18 : (n9 : Int) ≤ 9223372036854775807) (hq19 : ChLaw v12 v13) (n55 : Nat) (hl60 : n55 = (((impl_StepChest v12 v13).1).Stack).length) (hl61 : (n55 : Int) ≤ 9223372036854775807) (hq62 : (((impl_StepChest v12 v13).1).Stack).length ≤ 10) (n87 : Nat) (hl92 : n87 = (((spec_StepChest v12 v13).1).Stack).length) (hl93 : (n87 : Int) ≤ 9223372036854775807) (hq94 : (((spec_StepChest v12 v13).1).Stack).length ≤ 10) (h138 : ¬ (((!(((impl_StepChest v12 v13).2) == ((spec_StepChest v12 v13).2))) = true) ∨ ((¬ (((impl_StepChest v12 v13).1) = ((spec_StepChest v12 v13).1))) ∨ ((((impl_StepChest v12 v13).2) = true) ∧ (¬ (ChestOK ((impl_StepChest v12 v13).1))))))) (hq140 : ¬ ((!(((impl_StepChest v12 v13).2) == ((spec_StepChest v12 v13).2))) = true)) (hq141 : ((impl_StepChest v12 v13).1) = ((spec_StepChest v12 v13).1)) (hq142 : ¬ ((((impl_StepChest v12 v13).2) = true) ∧ (¬ (ChestOK ((impl_StepChest v12 v13).1))))) (h155 : ¬ ((((impl_StepChest v12 v13).2) = true) ∧ ((¬ ((IntKind.i64.wrap ((((impl_StepChest v12 v13).1).Laid) - (((impl_StepChest v12 v13).1).Given))) = (n55 : Int))) ∨ (((v13.Kind = 5) ∧ ((¬ (v13.Kind = 6)) ∧ (¬ ((((impl_StepChest v12 v13).1).Given) = v12.Given)))) ∨ ((¬ (v13.Kind = 5)) ∧ ((¬ ((((impl_StepChest v12 v13).1).Laid) = v12.Laid)) ∨ ((¬ (v13.Kind = 6)) ∧ (¬ ((((impl_StepChest v12 v13).1).Given) = v12.Given))))))))) (v172 : Chest) (v173 : List ChestStep) (hq174 : (v172.Stack.length ≤ 11) ∧ 0 ≤ v172.Key ∧ v172.Key ≤ 9999) (hq175 : v173.length ≤ 60) (n164 : Nat) (hl178 : n164 = (v172.Stack).length) (hl179 : (n164 : Int) ≤ 9223372036854775807) (n168 : Nat) (hl180 : n168 = (v173).length) (hl181 : (n168 : Int) ≤ 9223372036854775807) (n207 : Nat) (hl212 : n207 = (((runF v172 v173).1).Stack).length) (hl213 : (n207 : Int) ≤ 9223372036854775807) (hq214 : (((runF v172 v173).1).Stack).length ≤ 10) (n243 : Nat) (hl248 : n243 = (((runF v172 v173).1).Stack).length) (hl249 : (n243 : Int) ≤ 9223372036854775807) (hq250 : (((runF v172 v173).1).Stack).length ≤ 10) (h283 : ((runF v172 v173).1) = ((runF v172 v173).1)) (h285 : ((runF v172 v173).2.2) = true) (k : Nat) (o : Chest) (m : Int) (n312 : Nat) (c312 : Nat) (hi324 : (k ≤ v173.length ∧ 0 ≤ m ∧ m ≤ (k : Int)) ∧ runTo v172 v173 k = (o, m) ∧ ChestOK o) (hl331 : n312 = (o.Stack).length) (hq333 : 0 ≤ m ∧ m ≤ (k : Int)) (hq334 : ChestOK o) (hq335 : o.Stack.length ≤ 10) (h336 : ¬ ((k : Int) < (n168 : Int))) (h456 : ¬ ((¬ (m = ((runF v172 v173).2.1))) ∨ (¬ (o = ((runF v172 v173).1))))) (hq458 : m = ((runF v172 v173).2.1)) (hq459 : o = ((runF v172 v173).1)) (v466 : Chest) (v467 : Int) (hq468 : (v466.Stack.length ≤ 11) ∧ 0 ≤ v466.Key ∧ v466.Key ≤ 9999) (n463 : Nat) (hl471 : n463 = (v466.Stack).length) (hl472 : (n463 : Int) ≤ 9223372036854775807) (hq473 : AbLaw v466 v467) (h510 : ¬ ((¬ (((impl_MapsAbove v466 v467).1) = ((spec_MapsAbove v466 v467).1))) ∨ ((!(((impl_MapsAbove v466 v467).2) == ((spec_MapsAbove v466 v467).2))) = true))) (hq512 : ((impl_MapsAbove v466 v467).1) = ((spec_MapsAbove v466 v467).1)) (hq513 : ¬ ((!(((impl_MapsAbove v466 v467).2) == ((spec_MapsAbove v466 v467).2))) = true)) (h531 : ¬ ((¬ (((impl_TopMap v466).1) = ((spec_TopMap v466).1))) ∨ ((!(((impl_TopMap v466).2) == ((spec_TopMap v466).2))) = true))) (hq533 : ((impl_TopMap v466).1) = ((spec_TopMap v466).1)) (hq534 : ¬ ((!(((impl_TopMap v466).2) == ((spec_TopMap v466).2))) = true)) : decide (((!((impl_MapsAbove v466 v467).2)) = true) ∨ ((((impl_TopMap v466).2) = true) ∧ (((decide (((impl_MapsAbove v466 v467).1) = 0)) == (decide (((impl_TopMap v466).1) = v467))) = true))) = true := by
  first | (exfalso; first | exact ch_bad1 ‹ChLaw _ _› (by assumption) | exact ch_bad2 ‹ChLaw _ _› (by assumption) (by assumption) | exact run_bad ‹(runF _ _).2.2 = true› (by assumption) (by omega) (by assumption) | exact ab_bad1 ‹AbLaw _ _› (by assumption) | exact ab_bad2 ‹AbLaw _ _› (by assumption) | exact ‹¬ (runF _ _).1 = (runF _ _).1› rfl) | exact decide_eq_true (ab_fin ‹AbLaw _ _›)
theorem z_c_laws_FnChests_601 (L : List UInt8) (nL : Nat) (hbdL : (nL : Int) ≤ 9223372036854775807) (hleL : nL = L.length) (h5 : ¬ (65536 < (L.length : Int))) (v12 : Chest) (v13 : ChestStep) (hq14 : (v12.Stack.length ≤ 11) ∧ 0 ≤ v12.Key ∧ v12.Key ≤ 9999) (n9 : Nat) (hl17 : n9 = (v12.Stack).length) (hl18 : (n9 : Int) ≤ 9223372036854775807) (hq19 : ChLaw v12 v13) (n55 : Nat) (hl60 : n55 = (((impl_StepChest v12 v13).1).Stack).length) (hl61 : (n55 : Int) ≤ 9223372036854775807) (hq62 : (((impl_StepChest v12 v13).1).Stack).length ≤ 10) (n87 : Nat) (hl92 : n87 = (((spec_StepChest v12 v13).1).Stack).length) (hl93 : (n87 : Int) ≤ 9223372036854775807) (hq94 : (((spec_StepChest v12 v13).1).Stack).length ≤ 10) (h138 : ¬ (((!(((impl_StepChest v12 v13).2) == ((spec_StepChest v12 v13).2))) = true) ∨ ((¬ (((impl_StepChest v12 v13).1) = ((spec_StepChest v12 v13).1))) ∨ ((((impl_StepChest v12 v13).2) = true) ∧ (¬ (ChestOK ((impl_StepChest v12 v13).1))))))) (hq140 : ¬ ((!(((impl_StepChest v12 v13).2) == ((spec_StepChest v12 v13).2))) = true)) (hq141 : ((impl_StepChest v12 v13).1) = ((spec_StepChest v12 v13).1)) (hq142 : ¬ ((((impl_StepChest v12 v13).2) = true) ∧ (¬ (ChestOK ((impl_StepChest v12 v13).1))))) (h155 : ¬ ((((impl_StepChest v12 v13).2) = true) ∧ ((¬ ((IntKind.i64.wrap ((((impl_StepChest v12 v13).1).Laid) - (((impl_StepChest v12 v13).1).Given))) = (n55 : Int))) ∨ (((v13.Kind = 5) ∧ ((¬ (v13.Kind = 6)) ∧ (¬ ((((impl_StepChest v12 v13).1).Given) = v12.Given)))) ∨ ((¬ (v13.Kind = 5)) ∧ ((¬ ((((impl_StepChest v12 v13).1).Laid) = v12.Laid)) ∨ ((¬ (v13.Kind = 6)) ∧ (¬ ((((impl_StepChest v12 v13).1).Given) = v12.Given))))))))) (v172 : Chest) (v173 : List ChestStep) (hq174 : (v172.Stack.length ≤ 11) ∧ 0 ≤ v172.Key ∧ v172.Key ≤ 9999) (hq175 : v173.length ≤ 60) (n164 : Nat) (hl178 : n164 = (v172.Stack).length) (hl179 : (n164 : Int) ≤ 9223372036854775807) (n168 : Nat) (hl180 : n168 = (v173).length) (hl181 : (n168 : Int) ≤ 9223372036854775807) (n207 : Nat) (hl212 : n207 = (((runF v172 v173).1).Stack).length) (hl213 : (n207 : Int) ≤ 9223372036854775807) (hq214 : (((runF v172 v173).1).Stack).length ≤ 10) (n243 : Nat) (hl248 : n243 = (((runF v172 v173).1).Stack).length) (hl249 : (n243 : Int) ≤ 9223372036854775807) (hq250 : (((runF v172 v173).1).Stack).length ≤ 10) (h283 : ((runF v172 v173).1) = ((runF v172 v173).1)) (h285 : ((runF v172 v173).2.2) = false) (v552 : Chest) (v553 : Int) (hq554 : (v552.Stack.length ≤ 11) ∧ 0 ≤ v552.Key ∧ v552.Key ≤ 9999) (n549 : Nat) (hl557 : n549 = (v552.Stack).length) (hl558 : (n549 : Int) ≤ 9223372036854775807) (hq559 : AbLaw v552 v553) (h600 : (¬ (((impl_MapsAbove v552 v553).1) = ((spec_MapsAbove v552 v553).1))) ∨ ((!(((impl_MapsAbove v552 v553).2) == ((spec_MapsAbove v552 v553).2))) = true)) : false = true := by
  first | (exfalso; first | exact ch_bad1 ‹ChLaw _ _› (by assumption) | exact ch_bad2 ‹ChLaw _ _› (by assumption) (by assumption) | exact run_bad ‹(runF _ _).2.2 = true› (by assumption) (by omega) (by assumption) | exact ab_bad1 ‹AbLaw _ _› (by assumption) | exact ab_bad2 ‹AbLaw _ _› (by assumption) | exact ‹¬ (runF _ _).1 = (runF _ _).1› rfl) | exact decide_eq_true (ab_fin ‹AbLaw _ _›)
theorem z_c_laws_FnChests_622 (L : List UInt8) (nL : Nat) (hbdL : (nL : Int) ≤ 9223372036854775807) (hleL : nL = L.length) (h5 : ¬ (65536 < (L.length : Int))) (v12 : Chest) (v13 : ChestStep) (hq14 : (v12.Stack.length ≤ 11) ∧ 0 ≤ v12.Key ∧ v12.Key ≤ 9999) (n9 : Nat) (hl17 : n9 = (v12.Stack).length) (hl18 : (n9 : Int) ≤ 9223372036854775807) (hq19 : ChLaw v12 v13) (n55 : Nat) (hl60 : n55 = (((impl_StepChest v12 v13).1).Stack).length) (hl61 : (n55 : Int) ≤ 9223372036854775807) (hq62 : (((impl_StepChest v12 v13).1).Stack).length ≤ 10) (n87 : Nat) (hl92 : n87 = (((spec_StepChest v12 v13).1).Stack).length) (hl93 : (n87 : Int) ≤ 9223372036854775807) (hq94 : (((spec_StepChest v12 v13).1).Stack).length ≤ 10) (h138 : ¬ (((!(((impl_StepChest v12 v13).2) == ((spec_StepChest v12 v13).2))) = true) ∨ ((¬ (((impl_StepChest v12 v13).1) = ((spec_StepChest v12 v13).1))) ∨ ((((impl_StepChest v12 v13).2) = true) ∧ (¬ (ChestOK ((impl_StepChest v12 v13).1))))))) (hq140 : ¬ ((!(((impl_StepChest v12 v13).2) == ((spec_StepChest v12 v13).2))) = true)) (hq141 : ((impl_StepChest v12 v13).1) = ((spec_StepChest v12 v13).1)) (hq142 : ¬ ((((impl_StepChest v12 v13).2) = true) ∧ (¬ (ChestOK ((impl_StepChest v12 v13).1))))) (h155 : ¬ ((((impl_StepChest v12 v13).2) = true) ∧ ((¬ ((IntKind.i64.wrap ((((impl_StepChest v12 v13).1).Laid) - (((impl_StepChest v12 v13).1).Given))) = (n55 : Int))) ∨ (((v13.Kind = 5) ∧ ((¬ (v13.Kind = 6)) ∧ (¬ ((((impl_StepChest v12 v13).1).Given) = v12.Given)))) ∨ ((¬ (v13.Kind = 5)) ∧ ((¬ ((((impl_StepChest v12 v13).1).Laid) = v12.Laid)) ∨ ((¬ (v13.Kind = 6)) ∧ (¬ ((((impl_StepChest v12 v13).1).Given) = v12.Given))))))))) (v172 : Chest) (v173 : List ChestStep) (hq174 : (v172.Stack.length ≤ 11) ∧ 0 ≤ v172.Key ∧ v172.Key ≤ 9999) (hq175 : v173.length ≤ 60) (n164 : Nat) (hl178 : n164 = (v172.Stack).length) (hl179 : (n164 : Int) ≤ 9223372036854775807) (n168 : Nat) (hl180 : n168 = (v173).length) (hl181 : (n168 : Int) ≤ 9223372036854775807) (n207 : Nat) (hl212 : n207 = (((runF v172 v173).1).Stack).length) (hl213 : (n207 : Int) ≤ 9223372036854775807) (hq214 : (((runF v172 v173).1).Stack).length ≤ 10) (n243 : Nat) (hl248 : n243 = (((runF v172 v173).1).Stack).length) (hl249 : (n243 : Int) ≤ 9223372036854775807) (hq250 : (((runF v172 v173).1).Stack).length ≤ 10) (h283 : ((runF v172 v173).1) = ((runF v172 v173).1)) (h285 : ((runF v172 v173).2.2) = false) (v552 : Chest) (v553 : Int) (hq554 : (v552.Stack.length ≤ 11) ∧ 0 ≤ v552.Key ∧ v552.Key ≤ 9999) (n549 : Nat) (hl557 : n549 = (v552.Stack).length) (hl558 : (n549 : Int) ≤ 9223372036854775807) (hq559 : AbLaw v552 v553) (h600 : ¬ ((¬ (((impl_MapsAbove v552 v553).1) = ((spec_MapsAbove v552 v553).1))) ∨ ((!(((impl_MapsAbove v552 v553).2) == ((spec_MapsAbove v552 v553).2))) = true))) (hq602 : ((impl_MapsAbove v552 v553).1) = ((spec_MapsAbove v552 v553).1)) (hq603 : ¬ ((!(((impl_MapsAbove v552 v553).2) == ((spec_MapsAbove v552 v553).2))) = true)) (h621 : (¬ (((impl_TopMap v552).1) = ((spec_TopMap v552).1))) ∨ ((!(((impl_TopMap v552).2) == ((spec_TopMap v552).2))) = true)) : false = true := by
  first | (exfalso; first | exact ch_bad1 ‹ChLaw _ _› (by assumption) | exact ch_bad2 ‹ChLaw _ _› (by assumption) (by assumption) | exact run_bad ‹(runF _ _).2.2 = true› (by assumption) (by omega) (by assumption) | exact ab_bad1 ‹AbLaw _ _› (by assumption) | exact ab_bad2 ‹AbLaw _ _› (by assumption) | exact ‹¬ (runF _ _).1 = (runF _ _).1› rfl) | exact decide_eq_true (ab_fin ‹AbLaw _ _›)
theorem z_c_laws_FnChests_635 (L : List UInt8) (nL : Nat) (hbdL : (nL : Int) ≤ 9223372036854775807) (hleL : nL = L.length) (h5 : ¬ (65536 < (L.length : Int))) (v12 : Chest) (v13 : ChestStep) (hq14 : (v12.Stack.length ≤ 11) ∧ 0 ≤ v12.Key ∧ v12.Key ≤ 9999) (n9 : Nat) (hl17 : n9 = (v12.Stack).length) (hl18 : (n9 : Int) ≤ 9223372036854775807) (hq19 : ChLaw v12 v13) (n55 : Nat) (hl60 : n55 = (((impl_StepChest v12 v13).1).Stack).length) (hl61 : (n55 : Int) ≤ 9223372036854775807) (hq62 : (((impl_StepChest v12 v13).1).Stack).length ≤ 10) (n87 : Nat) (hl92 : n87 = (((spec_StepChest v12 v13).1).Stack).length) (hl93 : (n87 : Int) ≤ 9223372036854775807) (hq94 : (((spec_StepChest v12 v13).1).Stack).length ≤ 10) (h138 : ¬ (((!(((impl_StepChest v12 v13).2) == ((spec_StepChest v12 v13).2))) = true) ∨ ((¬ (((impl_StepChest v12 v13).1) = ((spec_StepChest v12 v13).1))) ∨ ((((impl_StepChest v12 v13).2) = true) ∧ (¬ (ChestOK ((impl_StepChest v12 v13).1))))))) (hq140 : ¬ ((!(((impl_StepChest v12 v13).2) == ((spec_StepChest v12 v13).2))) = true)) (hq141 : ((impl_StepChest v12 v13).1) = ((spec_StepChest v12 v13).1)) (hq142 : ¬ ((((impl_StepChest v12 v13).2) = true) ∧ (¬ (ChestOK ((impl_StepChest v12 v13).1))))) (h155 : ¬ ((((impl_StepChest v12 v13).2) = true) ∧ ((¬ ((IntKind.i64.wrap ((((impl_StepChest v12 v13).1).Laid) - (((impl_StepChest v12 v13).1).Given))) = (n55 : Int))) ∨ (((v13.Kind = 5) ∧ ((¬ (v13.Kind = 6)) ∧ (¬ ((((impl_StepChest v12 v13).1).Given) = v12.Given)))) ∨ ((¬ (v13.Kind = 5)) ∧ ((¬ ((((impl_StepChest v12 v13).1).Laid) = v12.Laid)) ∨ ((¬ (v13.Kind = 6)) ∧ (¬ ((((impl_StepChest v12 v13).1).Given) = v12.Given))))))))) (v172 : Chest) (v173 : List ChestStep) (hq174 : (v172.Stack.length ≤ 11) ∧ 0 ≤ v172.Key ∧ v172.Key ≤ 9999) (hq175 : v173.length ≤ 60) (n164 : Nat) (hl178 : n164 = (v172.Stack).length) (hl179 : (n164 : Int) ≤ 9223372036854775807) (n168 : Nat) (hl180 : n168 = (v173).length) (hl181 : (n168 : Int) ≤ 9223372036854775807) (n207 : Nat) (hl212 : n207 = (((runF v172 v173).1).Stack).length) (hl213 : (n207 : Int) ≤ 9223372036854775807) (hq214 : (((runF v172 v173).1).Stack).length ≤ 10) (n243 : Nat) (hl248 : n243 = (((runF v172 v173).1).Stack).length) (hl249 : (n243 : Int) ≤ 9223372036854775807) (hq250 : (((runF v172 v173).1).Stack).length ≤ 10) (h283 : ((runF v172 v173).1) = ((runF v172 v173).1)) (h285 : ((runF v172 v173).2.2) = false) (v552 : Chest) (v553 : Int) (hq554 : (v552.Stack.length ≤ 11) ∧ 0 ≤ v552.Key ∧ v552.Key ≤ 9999) (n549 : Nat) (hl557 : n549 = (v552.Stack).length) (hl558 : (n549 : Int) ≤ 9223372036854775807) (hq559 : AbLaw v552 v553) (h600 : ¬ ((¬ (((impl_MapsAbove v552 v553).1) = ((spec_MapsAbove v552 v553).1))) ∨ ((!(((impl_MapsAbove v552 v553).2) == ((spec_MapsAbove v552 v553).2))) = true))) (hq602 : ((impl_MapsAbove v552 v553).1) = ((spec_MapsAbove v552 v553).1)) (hq603 : ¬ ((!(((impl_MapsAbove v552 v553).2) == ((spec_MapsAbove v552 v553).2))) = true)) (h621 : ¬ ((¬ (((impl_TopMap v552).1) = ((spec_TopMap v552).1))) ∨ ((!(((impl_TopMap v552).2) == ((spec_TopMap v552).2))) = true))) (hq623 : ((impl_TopMap v552).1) = ((spec_TopMap v552).1)) (hq624 : ¬ ((!(((impl_TopMap v552).2) == ((spec_TopMap v552).2))) = true)) : decide (((!((impl_MapsAbove v552 v553).2)) = true) ∨ ((((impl_TopMap v552).2) = true) ∧ (((decide (((impl_MapsAbove v552 v553).1) = 0)) == (decide (((impl_TopMap v552).1) = v553))) = true))) = true := by
  first | (exfalso; first | exact ch_bad1 ‹ChLaw _ _› (by assumption) | exact ch_bad2 ‹ChLaw _ _› (by assumption) (by assumption) | exact run_bad ‹(runF _ _).2.2 = true› (by assumption) (by omega) (by assumption) | exact ab_bad1 ‹AbLaw _ _› (by assumption) | exact ab_bad2 ‹AbLaw _ _› (by assumption) | exact ‹¬ (runF _ _).1 = (runF _ _).1› rfl) | exact decide_eq_true (ab_fin ‹AbLaw _ _›)
theorem c_laws_FnChests (w : World) {AL : Option Addr} {nL cL BL : Nat}  (L : List UInt8) (hL : SlR w BL encB 1 AL nL cL L) : Calls Try.prog 8 #[.slice AL nL cL] w fun e w' => e = .returned (.bool true) ∧ Lo w w' := by
  refine calls_W 230 Try.func8 rfl rfl rfl ?_
  have hbdL := hL.bound
  have hleL := hL.len
  have hBbL := hL.bd
  refine W.seq ?_
  refine W.regS (SR.q' (r_as (v := .bool false) rfl) <| SR.nil ?_)
  refine W.seq ?_
  refine W.seq ?_
  refine W.regS (SR.q' (r_mv (v := .slice _ _ _) rfl) <| SR.call ent37 (c_laws_vBig w L ((hL))) rfl ?_)
  rintro e w1 ⟨rfl, hk2⟩
  refine ⟨_, rfl, ?_⟩
  have hz3 := hk2.size
  have hB4 := (Lo.refl w).lo hk2
  refine SR.nil ?_
  refine W.cond_d rfl (fun h5 => ?_) (fun h5 => ?_)
  · refine W.seq ?_
    refine W.regS (SR.q' (r_as (v := .bool true) rfl) <| SR.nil ?_)
    refine W.ret ?_
    refine ret1 rfl (v := .bool _) rfl ?_
    exact ⟨eR rfl, hB4⟩
  · refine W.skip ?_
    refine W.seq ?_
    refine W.regS (SR.q' (r_mv (v := .slice _ _ _) rfl) <| SR.call ent47 (c_spec_DrawStepChest w1 L (((hL).lo hk2)) (by omega)) rfl ?_)
    rintro e w6 ⟨A8, n9, c10, v12, v13, rfl, hO11, hq14, hk7⟩
    refine ⟨_, rfl, ?_⟩
    have hz15 := hk7.size
    have hB16 := hB4.lo hk7
    have hl17 := hO11.len
    have hl18 := hO11.rd.bound
    have hq19 : ChLaw v12 v13 := ch_law v12 v13
    refine SR.q' (r_mv (v := .tuple (List.toArray _)) rfl) <| SR.q' (r_ext (v := .agg (List.toArray _)) rfl rfl) <| SR.q' (r_ext (v := .agg (List.toArray _)) rfl rfl) <| SR.alloc (l := [.int .i64 0, .int .i64 0, .slice none 0 0, .int .i64 0, .int .i64 0, .int .i64 0]) tz28 rfl ?_
    intro g20 w21 hg22 hk23 hs24 hb25
    have hz26 := hk23.size
    have hB27 := hB16.lo hk23
    have hd28 : ¬ A8 = some ⟨g20, 0, none⟩ := fun e' => by have := (hO11).base_le e'; omega
    refine SR.alloc (l := [.int .i64 0, .int .i64 0]) tz32 rfl ?_
    intro g29 w30 hg31 hk32 hs33 hb34
    have hz35 := hk32.size
    have hB36 := hB27.lo hk32
    have hd37 : ¬ A8 = some ⟨g29, 0, none⟩ := fun e' => by have := ((hO11).lo hk23).base_le e'; omega
    refine SR.store (o := 0) (vs := [.int .i64 v12.State, .int .i64 v12.Key, .slice A8 n9 c10, .int .i64 v12.Dust, .int .i64 v12.Laid, .int .i64 v12.Given]) agg28.2 rfl rfl rfl rfl ((hb25).lo hk32) (Nat.le_of_ble_eq_true rfl) rfl ?_
    intro w38 hk39 hs40 hb41
    have hz42 := hk39.size
    have hB43 := hB36.new hk39 (by omega)
    refine SR.store (o := 0) (vs := [.int .i64 v13.Kind, .int .i64 v13.Value]) agg32.2 rfl rfl rfl rfl ((hb34).kp hk39 (fun e' => by have e'' : g29 = g20 := e'; omega)) (Nat.le_of_ble_eq_true rfl) rfl ?_
    intro w44 hk45 hs46 hb47
    have hz48 := hk45.size
    have hB49 := hB43.new hk45 (by omega)
    refine SR.nil ?_
    refine W.seq ?_
    have hm50 := ((((((hL).lo hk2).lo hk7).lo hk23).lo hk32).kp hk39 (fun b_ hb e' => by have e'' : b_ = g20 := e'; omega)).kp hk45 (fun b_ hb e' => by have e'' : b_ = g29 := e'; omega)
    have hm51 := ((((hO11).lo hk23).lo hk32).kp hk39 (fun b_ hb e' => hd28 (by have e'' : b_ = g20 := e'; rw [← e'']; exact hb))).kp hk45 (fun b_ hb e' => hd37 (by have e'' : b_ = g29 := e'; rw [← e'']; exact hb))
    refine W.regS (SR.q' (r_lda (l := [.int .i64 v12.State, .int .i64 v12.Key, .slice A8 n9 c10, .int .i64 v12.Dust, .int .i64 v12.Laid, .int .i64 v12.Given]) agg28 rfl (fun _ _ hu => ((hb41).kp hk45 (fun e' => by have e'' : g20 = g29 := e'; omega)).cell hu) rfl) <| SR.q' (r_lda (l := [.int .i64 v13.Kind, .int .i64 v13.Value]) agg32 rfl (fun _ _ hu => (hb47).cell hu) rfl) <| SR.call ent13 (c_impl_StepChest w44 v12 (((hm51).rd)) v13) rfl ?_)
    rintro e w52 ⟨A54, n55, c56, rfl, hO57, hk53⟩
    refine ⟨_, rfl, ?_⟩
    have hz58 := hk53.size
    have hB59 := hB49.lo hk53
    have hl60 := hO57.len
    have hl61 := hO57.rd.bound
    have hq62 := step_len_i v12 v13
    refine SR.q' (r_mv (v := .tuple (List.toArray _)) rfl) <| SR.q' (r_ext (v := .agg (List.toArray _)) rfl rfl) <| SR.q' (r_ext (v := .bool _) rfl rfl) <| SR.alloc (l := [.int .i64 0, .int .i64 0, .slice none 0 0, .int .i64 0, .int .i64 0, .int .i64 0]) tz28 rfl ?_
    intro g63 w64 hg65 hk66 hs67 hb68
    have hz69 := hk66.size
    have hB70 := hB59.lo hk66
    have hd71 : ¬ A8 = some ⟨g63, 0, none⟩ := fun e' => by have := ((hm51).lo hk53).base_le e'; omega
    have hd72 : ¬ A54 = some ⟨g63, 0, none⟩ := fun e' => by have := (hO57).base_le e'; omega
    refine SR.store (o := 0) (vs := [.int .i64 (((impl_StepChest v12 v13).1).State), .int .i64 (((impl_StepChest v12 v13).1).Key), .slice A54 n55 c56, .int .i64 (((impl_StepChest v12 v13).1).Dust), .int .i64 (((impl_StepChest v12 v13).1).Laid), .int .i64 (((impl_StepChest v12 v13).1).Given)]) agg28.2 rfl rfl rfl rfl (hb68) (Nat.le_of_ble_eq_true rfl) rfl ?_
    intro w73 hk74 hs75 hb76
    have hz77 := hk74.size
    have hB78 := hB70.new hk74 (by omega)
    refine SR.q' (r_as (v := .bool _) rfl) <| SR.nil ?_
    refine W.seq ?_
    refine W.seq ?_
    have hm79 := (((hm50).lo hk53).lo hk66).kp hk74 (fun b_ hb e' => by have e'' : b_ = g63 := e'; omega)
    have hm80 := ((((hb41).kp hk45 (fun e' => by have e'' : g20 = g29 := e'; omega)).lo hk53).lo hk66).kp hk74 (fun e' => by have e'' : g20 = g63 := e'; omega)
    have hm81 := (((hm51).lo hk53).lo hk66).kp hk74 (fun b_ hb e' => hd71 (by have e'' : b_ = g63 := e'; rw [← e'']; exact hb))
    have hm82 := (((hb47).lo hk53).lo hk66).kp hk74 (fun e' => by have e'' : g29 = g63 := e'; omega)
    have hm83 := ((hO57).lo hk66).kp hk74 (fun b_ hb e' => hd72 (by have e'' : b_ = g63 := e'; rw [← e'']; exact hb))
    refine W.regS (SR.q' (r_lda (l := [.int .i64 v12.State, .int .i64 v12.Key, .slice A8 n9 c10, .int .i64 v12.Dust, .int .i64 v12.Laid, .int .i64 v12.Given]) agg28 rfl (fun _ _ hu => (hm80).cell hu) rfl) <| SR.q' (r_lda (l := [.int .i64 v13.Kind, .int .i64 v13.Value]) agg32 rfl (fun _ _ hu => (hm82).cell hu) rfl) <| SR.call ent10 (c_spec_StepChest w73 v12 (((hm81).rd)) v13) rfl ?_)
    rintro e w84 ⟨A86, n87, c88, rfl, hO89, hk85⟩
    refine ⟨_, rfl, ?_⟩
    have hz90 := hk85.size
    have hB91 := hB78.lo hk85
    have hl92 := hO89.len
    have hl93 := hO89.rd.bound
    have hq94 := step_len v12 v13
    refine SR.q' (r_mv (v := .tuple (List.toArray _)) rfl) <| SR.q' (r_ext (v := .agg (List.toArray _)) rfl rfl) <| SR.q' (r_ext (v := .bool _) rfl rfl) <| SR.alloc (l := [.int .i64 0, .int .i64 0, .slice none 0 0, .int .i64 0, .int .i64 0, .int .i64 0]) tz28 rfl ?_
    intro g95 w96 hg97 hk98 hs99 hb100
    have hz101 := hk98.size
    have hB102 := hB91.lo hk98
    have hd103 : ¬ A8 = some ⟨g95, 0, none⟩ := fun e' => by have := ((hm81).lo hk85).base_le e'; omega
    have hd104 : ¬ A54 = some ⟨g95, 0, none⟩ := fun e' => by have := ((hm83).lo hk85).base_le e'; omega
    have hd105 : ¬ A86 = some ⟨g95, 0, none⟩ := fun e' => by have := (hO89).base_le e'; omega
    refine SR.store (o := 0) (vs := [.int .i64 (((spec_StepChest v12 v13).1).State), .int .i64 (((spec_StepChest v12 v13).1).Key), .slice A86 n87 c88, .int .i64 (((spec_StepChest v12 v13).1).Dust), .int .i64 (((spec_StepChest v12 v13).1).Laid), .int .i64 (((spec_StepChest v12 v13).1).Given)]) agg28.2 rfl rfl rfl rfl (hb100) (Nat.le_of_ble_eq_true rfl) rfl ?_
    intro w106 hk107 hs108 hb109
    have hz110 := hk107.size
    have hB111 := hB102.new hk107 (by omega)
    refine SR.q' (r_as (v := .bool _) rfl) <| SR.nil ?_
    refine W.seq ?_
    have hm112 := (((hm79).lo hk85).lo hk98).kp hk107 (fun b_ hb e' => by have e'' : b_ = g95 := e'; omega)
    have hm113 := (((hm80).lo hk85).lo hk98).kp hk107 (fun e' => by have e'' : g20 = g95 := e'; omega)
    have hm114 := (((hm81).lo hk85).lo hk98).kp hk107 (fun b_ hb e' => hd103 (by have e'' : b_ = g95 := e'; rw [← e'']; exact hb))
    have hm115 := (((hm82).lo hk85).lo hk98).kp hk107 (fun e' => by have e'' : g29 = g95 := e'; omega)
    have hm116 := (((hb76).lo hk85).lo hk98).kp hk107 (fun e' => by have e'' : g63 = g95 := e'; omega)
    have hm117 := (((hm83).lo hk85).lo hk98).kp hk107 (fun b_ hb e' => hd104 (by have e'' : b_ = g95 := e'; rw [← e'']; exact hb))
    have hm118 := ((hO89).lo hk98).kp hk107 (fun b_ hb e' => hd105 (by have e'' : b_ = g95 := e'; rw [← e'']; exact hb))
    refine W.regJD mo (by kernel_rfl) (fun f' w' => At f' [(0, .slice AL nL cL), (2, .bool false), (3, .pointer (some ((⟨g20, 0, none⟩ : Addr)))), (4, .pointer (some ((⟨g29, 0, none⟩ : Addr)))), (5, .pointer (some ((⟨g63, 0, none⟩ : Addr)))), (6, .bool ((impl_StepChest v12 v13).2)), (74, .bool (decide (((!(((impl_StepChest v12 v13).2) == ((spec_StepChest v12 v13).2))) = true) ∨ ((¬ (((impl_StepChest v12 v13).1) = ((spec_StepChest v12 v13).1))) ∨ ((((impl_StepChest v12 v13).2) = true) ∧ (¬ (ChestOK ((impl_StepChest v12 v13).1))))))))] ∧ Lo w106 w') ?_ ?_
    · refine QR.q' (fun w' hw' => r_mv (v := .bool _) rfl) <| QR.q' (fun w' hw' => r_mv (v := .bool _) rfl) <| QR.q' (fun w' hw' => r_neb und4 rfl rfl) <| QR.q' (fun w' hw' => r_mv (v := .bool _) rfl) <| QR.split (fun h119 => ?_) (fun h119 => ?_)
      · have hq120 := bnot_t h119
        refine QR.s' rfl <| QR.s' rfl <| QR.s' rfl <| QR.s' rfl <| QR.q' (fun w' hw' => r_pick true rfl (v := .bool true) rfl) <| QR.q' (fun w' hw' => r_mv (v := .bool _) rfl) <| QR.s' rfl <| QR.s' rfl <| QR.s' rfl <| QR.s' rfl <| QR.s' rfl <| QR.q' (fun w' hw' => r_pick true rfl (v := .bool true) rfl) <| QR.q' (fun w' hw' => r_mv (v := .bool _) rfl) <| QR.s' rfl <| QR.s' rfl <| QR.u' rfl <| QR.u' rfl <| QR.u' rfl <| QR.s' rfl <| QR.q' (fun w' hw' => r_pick true rfl (v := .bool true) rfl) <| QR.nil ?_
        intro w121 hk122
        exact ⟨⟨rfl, rfl, rfl, rfl, rfl, rfl, (eDT ((jot h119).1 trivial)), trivial⟩, hk122⟩
      · have hq123 := bnot_f h119
        refine QR.g' rfl (fun w' hw' => r_lda (l := [.int .i64 (((impl_StepChest v12 v13).1).State), .int .i64 (((impl_StepChest v12 v13).1).Key), .slice A54 n55 c56, .int .i64 (((impl_StepChest v12 v13).1).Dust), .int .i64 (((impl_StepChest v12 v13).1).Laid), .int .i64 (((impl_StepChest v12 v13).1).Given)]) agg28 rfl (fun _ _ hu => ((hm116).lo hw').cell hu) rfl) <| QR.g' rfl (fun w' hw' => r_lda (l := [.int .i64 (((spec_StepChest v12 v13).1).State), .int .i64 (((spec_StepChest v12 v13).1).Key), .slice A86 n87 c88, .int .i64 (((spec_StepChest v12 v13).1).Dust), .int .i64 (((spec_StepChest v12 v13).1).Laid), .int .i64 (((spec_StepChest v12 v13).1).Given)]) agg28 rfl (fun _ _ hu => ((hb109).lo hw').cell hu) rfl) <| QR.gcall rfl ent48 (fun w' hw' => (c_laws_vChest w' ((impl_StepChest v12 v13).1) ((((hm117).lo hw').rd)) ((spec_StepChest v12 v13).1) ((((hm118).lo hw').rd))).mono fun _ _ h => ⟨h.1, hw'.trans h.2⟩) rfl <| QR.g' rfl (fun w' hw' => r_not rfl) <| QR.q' (fun w' hw' => r_pick false rfl (v := .bool _) rfl) <| QR.q' (fun w' hw' => r_mv (v := .bool _) rfl) <| QR.splitN (fun h124 => ?_) (fun h124 => ?_)
        · refine QR.s' rfl <| QR.s' rfl <| QR.s' rfl <| QR.s' rfl <| QR.s' rfl <| QR.q' (fun w' hw' => r_pick true rfl (v := .bool true) rfl) <| QR.q' (fun w' hw' => r_mv (v := .bool _) rfl) <| QR.s' rfl <| QR.s' rfl <| QR.u' rfl <| QR.u' rfl <| QR.u' rfl <| QR.s' rfl <| QR.q' (fun w' hw' => r_pick true rfl (v := .bool true) rfl) <| QR.nil ?_
          intro w125 hk126
          exact ⟨⟨rfl, rfl, rfl, rfl, rfl, rfl, (eDT (((jmf h124).trans (jof (ne_true_of_eq_false h119))).1 trivial)), trivial⟩, hk126⟩
        · refine QR.g' rfl (fun w' hw' => r_lda (l := [.int .i64 v12.State, .int .i64 v12.Key, .slice A8 n9 c10, .int .i64 v12.Dust, .int .i64 v12.Laid, .int .i64 v12.Given]) agg28 rfl (fun _ _ hu => ((hm113).lo hw').cell hu) rfl) <| QR.gcall rfl ent49 (fun w' hw' => (c_impl_IsChest w' v12 ((((hm114).lo hw').rd))).mono fun _ _ h => ⟨h.1, hw'.trans h.2⟩) rfl <| QR.g' rfl (fun w' hw' => r_lda (l := [.int .i64 v12.State, .int .i64 v12.Key, .slice A8 n9 c10, .int .i64 v12.Dust, .int .i64 v12.Laid, .int .i64 v12.Given]) agg28 rfl (fun _ _ hu => ((hm113).lo hw').cell hu) rfl) <| QR.gcall rfl ent50 (fun w' hw' => (c_spec_IsChest w' v12 ((((hm114).lo hw').rd))).mono fun _ _ h => ⟨h.1, hw'.trans h.2⟩) rfl <| QR.g' rfl (fun w' hw' => r_neb_s und4 rfl rfl) <| QR.q' (fun w' hw' => r_pick false rfl (v := .bool _) rfl) <| QR.q' (fun w' hw' => r_mv (v := .bool _) rfl) <| QR.g' rfl (fun w' hw' => r_mv (v := .bool _) rfl) <| QR.g' rfl (fun w' hw' => r_mv (v := .bool _) rfl) <| QR.split (fun h127 => ?_) (fun h127 => ?_)
          · refine QR.g' rfl (fun w' hw' => r_lda (l := [.int .i64 (((impl_StepChest v12 v13).1).State), .int .i64 (((impl_StepChest v12 v13).1).Key), .slice A54 n55 c56, .int .i64 (((impl_StepChest v12 v13).1).Dust), .int .i64 (((impl_StepChest v12 v13).1).Laid), .int .i64 (((impl_StepChest v12 v13).1).Given)]) agg28 rfl (fun _ _ hu => ((hm116).lo hw').cell hu) rfl) <| QR.gcall rfl ent49 (fun w' hw' => (c_impl_IsChest w' ((impl_StepChest v12 v13).1) ((((hm117).lo hw').rd))).mono fun _ _ h => ⟨h.1, hw'.trans h.2⟩) rfl <| QR.g' rfl (fun w' hw' => r_not rfl) <| QR.g' rfl (fun w' hw' => r_pick true rfl (v := .bool _) rfl) <| QR.q' (fun w' hw' => r_pick false rfl (v := .bool _) rfl) <| QR.nil ?_
            intro w128 hk129
            exact ⟨⟨rfl, rfl, rfl, rfl, rfl, rfl, (eND (((jat h127).trans (jmt h124)).trans (jof (ne_true_of_eq_false h119)))), trivial⟩, hk129⟩
          · refine QR.s' rfl <| QR.s' rfl <| QR.s' rfl <| QR.g' rfl (fun w' hw' => r_pick false rfl (v := .bool false) rfl) <| QR.q' (fun w' hw' => r_pick false rfl (v := .bool _) rfl) <| QR.nil ?_
            intro w130 hk131
            exact ⟨⟨rfl, rfl, rfl, rfl, rfl, rfl, (eDF (((jaf (ne_true_of_eq_false h127)).trans (jmt h124)).trans (jof (ne_true_of_eq_false h119))).2), trivial⟩, hk131⟩
    rintro f132 w133 ⟨hat134, hk135⟩
    rw [← sets_of_at hat134]
    have hz136 := hk135.size
    have hB137 := hB111.lo hk135
    refine W.cond_d rfl (fun h138 => ?_) (fun h138 => ?_)
    · refine W.seq ?_
      refine W.regS (SR.q' (r_as (v := .bool false) rfl) <| SR.nil ?_)
      refine W.ret ?_
      refine ret1 rfl (v := .bool _) rfl ?_
      exact ⟨eR (eB (z_c_laws_FnChests_139 L nL hbdL hleL h5 v12 v13 hq14 n9 hl17 hl18 hq19 n55 hl60 hl61 hq62 n87 hl92 hl93 hq94 h138)), hB137⟩
    · have hq140 : ¬ ((!(((impl_StepChest v12 v13).2) == ((spec_StepChest v12 v13).2))) = true) := (not_or.1 h138).1
      have hq141 : ((impl_StepChest v12 v13).1) = ((spec_StepChest v12 v13).1) := (Classical.not_not.1 (not_or.1 (not_or.1 h138).2).1)
      have hq142 : ¬ ((((impl_StepChest v12 v13).2) = true) ∧ (¬ (ChestOK ((impl_StepChest v12 v13).1)))) := (not_or.1 (not_or.1 h138).2).2
      refine W.skip ?_
      refine W.seq ?_
      refine W.seq ?_
      refine W.regJS (fun f' w' => At f' [(0, .slice AL nL cL), (2, .bool false), (110, .bool (decide ((((impl_StepChest v12 v13).2) = true) ∧ ((¬ ((IntKind.i64.wrap ((((impl_StepChest v12 v13).1).Laid) - (((impl_StepChest v12 v13).1).Given))) = (n55 : Int))) ∨ (((v13.Kind = 5) ∧ ((¬ (v13.Kind = 6)) ∧ (¬ ((((impl_StepChest v12 v13).1).Given) = v12.Given)))) ∨ ((¬ (v13.Kind = 5)) ∧ ((¬ ((((impl_StepChest v12 v13).1).Laid) = v12.Laid)) ∨ ((¬ (v13.Kind = 6)) ∧ (¬ ((((impl_StepChest v12 v13).1).Given) = v12.Given))))))))))] ∧ Lo w133 w') ?_ ?_
      · refine SR.q' (r_mv (v := .bool _) rfl) <| SR.q' (r_mv (v := .bool _) rfl) <| SR.split (fun h143 => ?_) (fun h143 => ?_)
        · refine SR.g' rfl (r_fa fa28_4 rfl) <| SR.g' rfl (r_ld (v := .int .i64 (((impl_StepChest v12 v13).1).Laid)) sca3 rfl (((hm116).lo hk135).cell rfl)) <| SR.g' rfl (r_fa fa28_5 rfl) <| SR.g' rfl (r_ld (v := .int .i64 (((impl_StepChest v12 v13).1).Given)) sca3 rfl (((hm116).lo hk135).cell rfl)) <| SR.g' rfl (r_subW rfl rfl) <| SR.g' rfl (r_fa fa28_2 rfl) <| SR.g' rfl (r_ld (v := .slice A54 n55 c56) sca22 rfl (((hm116).lo hk135).cell rfl)) <| SR.g' rfl (r_len und22 rfl) <| SR.g' rfl (r_ne rfl rfl) <| SR.g' rfl (r_mv (v := .bool _) rfl) <| SR.splitN (fun h144 => ?_) (fun h144 => ?_)
          · refine SR.s' rfl <| SR.s' rfl <| SR.s' rfl <| SR.s' rfl <| SR.u' rfl <| SR.u' rfl <| SR.u' rfl <| SR.u' rfl <| SR.u' rfl <| SR.s' rfl <| SR.g' rfl (r_pick true rfl (v := .bool true) rfl) <| SR.g' rfl (r_mv (v := .bool _) rfl) <| SR.s' rfl <| SR.s' rfl <| SR.s' rfl <| SR.s' rfl <| SR.u' rfl <| SR.u' rfl <| SR.u' rfl <| SR.u' rfl <| SR.u' rfl <| SR.s' rfl <| SR.g' rfl (r_pick true rfl (v := .bool true) rfl) <| SR.q' (r_pick true rfl (v := .bool _) rfl) <| SR.nil ?_
            exact ⟨_, rfl, ⟨⟨rfl, rfl, (eDT (((jmf h144).trans (jat h143)).1 trivial)), trivial⟩, (Lo.refl _)⟩⟩
          · refine SR.g' rfl (r_fa fa32_0 rfl) <| SR.g' rfl (r_ld (v := .int .i64 v13.Kind) sca3 rfl (((hm115).lo hk135).cell rfl)) <| SR.g' rfl (r_ne rfl rfl) <| SR.g' rfl (r_mv (v := .bool _) rfl) <| SR.splitN (fun h145 => ?_) (fun h145 => ?_)
            · refine SR.g' rfl (r_fa fa28_4 rfl) <| SR.g' rfl (r_ld (v := .int .i64 (((impl_StepChest v12 v13).1).Laid)) sca3 rfl (((hm116).lo hk135).cell rfl)) <| SR.g' rfl (r_fa fa28_4 rfl) <| SR.g' rfl (r_ld (v := .int .i64 v12.Laid) sca3 rfl (((hm113).lo hk135).cell rfl)) <| SR.g' rfl (r_ne rfl rfl) <| SR.g' rfl (r_pick true rfl (v := .bool _) rfl) <| SR.g' rfl (r_pick false rfl (v := .bool _) rfl) <| SR.g' rfl (r_mv (v := .bool _) rfl) <| SR.splitN (fun h146 => ?_) (fun h146 => ?_)
              · refine SR.s' rfl <| SR.s' rfl <| SR.s' rfl <| SR.s' rfl <| SR.u' rfl <| SR.u' rfl <| SR.u' rfl <| SR.u' rfl <| SR.u' rfl <| SR.s' rfl <| SR.g' rfl (r_pick true rfl (v := .bool true) rfl) <| SR.q' (r_pick true rfl (v := .bool _) rfl) <| SR.nil ?_
                exact ⟨_, rfl, ⟨⟨rfl, rfl, (eDT (((((jmf h146).trans (jgf h145)).trans (jmt h144)).trans (jat h143)).1 trivial)), trivial⟩, (Lo.refl _)⟩⟩
              · refine SR.g' rfl (r_fa fa32_0 rfl) <| SR.g' rfl (r_ld (v := .int .i64 v13.Kind) sca3 rfl (((hm115).lo hk135).cell rfl)) <| SR.g' rfl (r_ne rfl rfl) <| SR.g' rfl (r_mv (v := .bool _) rfl) <| SR.splitN (fun h147 => ?_) (fun h147 => ?_)
                · refine SR.g' rfl (r_fa fa28_5 rfl) <| SR.g' rfl (r_ld (v := .int .i64 (((impl_StepChest v12 v13).1).Given)) sca3 rfl (((hm116).lo hk135).cell rfl)) <| SR.g' rfl (r_fa fa28_5 rfl) <| SR.g' rfl (r_ld (v := .int .i64 v12.Given) sca3 rfl (((hm113).lo hk135).cell rfl)) <| SR.g' rfl (r_ne rfl rfl) <| SR.g' rfl (r_pick true rfl (v := .bool _) rfl) <| SR.g' rfl (r_pick false rfl (v := .bool _) rfl) <| SR.q' (r_pick true rfl (v := .bool _) rfl) <| SR.nil ?_
                  exact ⟨_, rfl, ⟨⟨rfl, rfl, (eND (((((jnf h147).trans (jmt h146)).trans (jgf h145)).trans (jmt h144)).trans (jat h143))), trivial⟩, (Lo.refl _)⟩⟩
                · refine SR.s' rfl <| SR.s' rfl <| SR.s' rfl <| SR.s' rfl <| SR.s' rfl <| SR.g' rfl (r_pick false rfl (v := .bool false) rfl) <| SR.g' rfl (r_pick false rfl (v := .bool _) rfl) <| SR.q' (r_pick true rfl (v := .bool _) rfl) <| SR.nil ?_
                  exact ⟨_, rfl, ⟨⟨rfl, rfl, (eDF (((((jnt h147).trans (jmt h146)).trans (jgf h145)).trans (jmt h144)).trans (jat h143)).2), trivial⟩, (Lo.refl _)⟩⟩
            · refine SR.s' rfl <| SR.s' rfl <| SR.s' rfl <| SR.s' rfl <| SR.s' rfl <| SR.g' rfl (r_pick false rfl (v := .bool false) rfl) <| SR.g' rfl (r_pick false rfl (v := .bool _) rfl) <| SR.g' rfl (r_mv (v := .bool _) rfl) <| SR.g' rfl (r_fa fa32_0 rfl) <| SR.g' rfl (r_ld (v := .int .i64 v13.Kind) sca3 rfl (((hm115).lo hk135).cell rfl)) <| SR.g' rfl (r_ne rfl rfl) <| SR.g' rfl (r_mv (v := .bool _) rfl) <| SR.splitN (fun h148 => ?_) (fun h148 => ?_)
              · refine SR.g' rfl (r_fa fa28_5 rfl) <| SR.g' rfl (r_ld (v := .int .i64 (((impl_StepChest v12 v13).1).Given)) sca3 rfl (((hm116).lo hk135).cell rfl)) <| SR.g' rfl (r_fa fa28_5 rfl) <| SR.g' rfl (r_ld (v := .int .i64 v12.Given) sca3 rfl (((hm113).lo hk135).cell rfl)) <| SR.g' rfl (r_ne rfl rfl) <| SR.g' rfl (r_pick true rfl (v := .bool _) rfl) <| SR.g' rfl (r_pick false rfl (v := .bool _) rfl) <| SR.q' (r_pick true rfl (v := .bool _) rfl) <| SR.nil ?_
                exact ⟨_, rfl, ⟨⟨rfl, rfl, (eND ((((jnf h148).trans (jgt h145)).trans (jmt h144)).trans (jat h143))), trivial⟩, (Lo.refl _)⟩⟩
              · refine SR.s' rfl <| SR.s' rfl <| SR.s' rfl <| SR.s' rfl <| SR.s' rfl <| SR.g' rfl (r_pick false rfl (v := .bool false) rfl) <| SR.g' rfl (r_pick false rfl (v := .bool _) rfl) <| SR.q' (r_pick true rfl (v := .bool _) rfl) <| SR.nil ?_
                exact ⟨_, rfl, ⟨⟨rfl, rfl, (eDF ((((jnt h148).trans (jgt h145)).trans (jmt h144)).trans (jat h143)).2), trivial⟩, (Lo.refl _)⟩⟩
        · refine SR.s' rfl <| SR.s' rfl <| SR.s' rfl <| SR.s' rfl <| SR.s' rfl <| SR.s' rfl <| SR.s' rfl <| SR.s' rfl <| SR.s' rfl <| SR.s' rfl <| SR.u' rfl <| SR.u' rfl <| SR.u' rfl <| SR.u' rfl <| SR.u' rfl <| SR.u' rfl <| SR.u' rfl <| SR.u' rfl <| SR.u' rfl <| SR.u' rfl <| SR.s' rfl <| SR.s' rfl <| SR.u' rfl <| SR.u' rfl <| SR.u' rfl <| SR.u' rfl <| SR.u' rfl <| SR.u' rfl <| SR.u' rfl <| SR.u' rfl <| SR.u' rfl <| SR.u' rfl <| SR.s' rfl <| SR.q' (r_pick false rfl (v := .bool false) rfl) <| SR.nil ?_
          exact ⟨_, rfl, ⟨⟨rfl, rfl, (eDF (jaf (ne_true_of_eq_false h143)).2), trivial⟩, (Lo.refl _)⟩⟩
      rintro f149 w150 ⟨hat151, hk152⟩
      rw [← sets_of_at hat151]
      have hz153 := hk152.size
      have hB154 := hB137.lo hk152
      refine W.cond_d rfl (fun h155 => ?_) (fun h155 => ?_)
      · have hq156 : ((impl_StepChest v12 v13).2) = true := h155.1
        have hq157 : (¬ ((IntKind.i64.wrap ((((impl_StepChest v12 v13).1).Laid) - (((impl_StepChest v12 v13).1).Given))) = (n55 : Int))) ∨ (((v13.Kind = 5) ∧ ((¬ (v13.Kind = 6)) ∧ (¬ ((((impl_StepChest v12 v13).1).Given) = v12.Given)))) ∨ ((¬ (v13.Kind = 5)) ∧ ((¬ ((((impl_StepChest v12 v13).1).Laid) = v12.Laid)) ∨ ((¬ (v13.Kind = 6)) ∧ (¬ ((((impl_StepChest v12 v13).1).Given) = v12.Given)))))) := h155.2
        refine W.seq ?_
        have hm158 := ((hm112).lo hk135).lo hk152
        refine W.regS (SR.q' (r_as (v := .bool false) rfl) <| SR.nil ?_)
        refine W.ret ?_
        refine ret1 rfl (v := .bool _) rfl ?_
        exact ⟨eR (eB (z_c_laws_FnChests_159 L nL hbdL hleL h5 v12 v13 hq14 n9 hl17 hl18 hq19 n55 hl60 hl61 hq62 n87 hl92 hl93 hq94 h138 hq140 hq141 hq142 h155 hq156 hq157)), hB154⟩
      · refine W.skip ?_
        refine W.seq ?_
        have hm160 := ((hm112).lo hk135).lo hk152
        refine W.regS (SR.q' (r_mv (v := .slice _ _ _) rfl) <| SR.call ent51 (c_spec_DrawRunChest w150 L ((hm160)) (by omega)) rfl ?_)
        rintro e w161 ⟨A163, n164, c165, A167, n168, c169, v172, v173, rfl, hO166, hO170, hd171, hq174, hq175, hk162⟩
        refine ⟨_, rfl, ?_⟩
        have hz176 := hk162.size
        have hB177 := hB154.lo hk162
        have hl178 := hO166.len
        have hl179 := hO166.rd.bound
        have hl180 := hO170.len
        have hl181 := hO170.rd.bound
        refine SR.q' (r_mv (v := .tuple (List.toArray _)) rfl) <| SR.q' (r_ext (v := .agg (List.toArray _)) rfl rfl) <| SR.q' (r_ext (v := .slice _ _ _) rfl rfl) <| SR.alloc (l := [.int .i64 0, .int .i64 0, .slice none 0 0, .int .i64 0, .int .i64 0, .int .i64 0]) tz28 rfl ?_
        intro g182 w183 hg184 hk185 hs186 hb187
        have hz188 := hk185.size
        have hB189 := hB177.lo hk185
        have hd190 : ¬ A8 = some ⟨g182, 0, none⟩ := fun e' => by have := ((((hm114).lo hk135).lo hk152).lo hk162).base_le e'; omega
        have hd191 : ¬ A54 = some ⟨g182, 0, none⟩ := fun e' => by have := ((((hm117).lo hk135).lo hk152).lo hk162).base_le e'; omega
        have hd192 : ¬ A86 = some ⟨g182, 0, none⟩ := fun e' => by have := ((((hm118).lo hk135).lo hk152).lo hk162).base_le e'; omega
        have hd193 : ¬ A163 = some ⟨g182, 0, none⟩ := fun e' => by have := (hO166).base_le e'; omega
        have hd194 : ¬ A167 = some ⟨g182, 0, none⟩ := fun e' => by have := (hO170).base_le e'; omega
        refine SR.store (o := 0) (vs := [.int .i64 v172.State, .int .i64 v172.Key, .slice A163 n164 c165, .int .i64 v172.Dust, .int .i64 v172.Laid, .int .i64 v172.Given]) agg28.2 rfl rfl rfl rfl (hb187) (Nat.le_of_ble_eq_true rfl) rfl ?_
        intro w195 hk196 hs197 hb198
        have hz199 := hk196.size
        have hB200 := hB189.new hk196 (by omega)
        refine SR.q' (r_as (v := .slice _ _ _) rfl) <| SR.nil ?_
        refine W.seq ?_
        have hm201 := (((hm160).lo hk162).lo hk185).kp hk196 (fun b_ hb e' => by have e'' : b_ = g182 := e'; omega)
        have hm202 := ((hO166).lo hk185).kp hk196 (fun b_ hb e' => hd193 (by have e'' : b_ = g182 := e'; rw [← e'']; exact hb))
        have hm203 := ((hO170).lo hk185).kp hk196 (fun b_ hb e' => hd194 (by have e'' : b_ = g182 := e'; rw [← e'']; exact hb))
        refine W.regS (SR.q' (r_lda (l := [.int .i64 v172.State, .int .i64 v172.Key, .slice A163 n164 c165, .int .i64 v172.Dust, .int .i64 v172.Laid, .int .i64 v172.Given]) agg28 rfl (fun _ _ hu => (hb198).cell hu) rfl) <| SR.q' (r_mv (v := .slice _ _ _) rfl) <| SR.call ent28 (c_impl_RunChest w195 v172 (((hm202).rd)) v173 (((hm203).rd))) rfl ?_)
        rintro e w204 ⟨A206, n207, c208, rfl, hO209, hk205⟩
        refine ⟨_, rfl, ?_⟩
        have hz210 := hk205.size
        have hB211 := hB200.lo hk205
        have hl212 := hO209.len
        have hl213 := hO209.rd.bound
        have hq214 := runF_len v172 v173
        refine SR.q' (r_mv (v := .tuple (List.toArray _)) rfl) <| SR.q' (r_ext (v := .agg (List.toArray _)) rfl rfl) <| SR.q' (r_ext (v := .int .i64 _) rfl rfl) <| SR.q' (r_ext (v := .bool _) rfl rfl) <| SR.alloc (l := [.int .i64 0, .int .i64 0, .slice none 0 0, .int .i64 0, .int .i64 0, .int .i64 0]) tz28 rfl ?_
        intro g215 w216 hg217 hk218 hs219 hb220
        have hz221 := hk218.size
        have hB222 := hB211.lo hk218
        have hd223 : ¬ A8 = some ⟨g215, 0, none⟩ := fun e' => by have := (((((((hm114).lo hk135).lo hk152).lo hk162).lo hk185).kp hk196 (fun b_ hb e' => hd190 (by have e'' : b_ = g182 := e'; rw [← e'']; exact hb))).lo hk205).base_le e'; omega
        have hd224 : ¬ A54 = some ⟨g215, 0, none⟩ := fun e' => by have := (((((((hm117).lo hk135).lo hk152).lo hk162).lo hk185).kp hk196 (fun b_ hb e' => hd191 (by have e'' : b_ = g182 := e'; rw [← e'']; exact hb))).lo hk205).base_le e'; omega
        have hd225 : ¬ A86 = some ⟨g215, 0, none⟩ := fun e' => by have := (((((((hm118).lo hk135).lo hk152).lo hk162).lo hk185).kp hk196 (fun b_ hb e' => hd192 (by have e'' : b_ = g182 := e'; rw [← e'']; exact hb))).lo hk205).base_le e'; omega
        have hd226 : ¬ A163 = some ⟨g215, 0, none⟩ := fun e' => by have := ((hm202).lo hk205).base_le e'; omega
        have hd227 : ¬ A167 = some ⟨g215, 0, none⟩ := fun e' => by have := ((hm203).lo hk205).base_le e'; omega
        have hd228 : ¬ A206 = some ⟨g215, 0, none⟩ := fun e' => by have := (hO209).base_le e'; omega
        refine SR.store (o := 0) (vs := [.int .i64 (((runF v172 v173).1).State), .int .i64 (((runF v172 v173).1).Key), .slice A206 n207 c208, .int .i64 (((runF v172 v173).1).Dust), .int .i64 (((runF v172 v173).1).Laid), .int .i64 (((runF v172 v173).1).Given)]) agg28.2 rfl rfl rfl rfl (hb220) (Nat.le_of_ble_eq_true rfl) rfl ?_
        intro w229 hk230 hs231 hb232
        have hz233 := hk230.size
        have hB234 := hB222.new hk230 (by omega)
        refine SR.q' (r_as (v := .int .i64 _) rfl) <| SR.q' (r_as (v := .bool _) rfl) <| SR.nil ?_
        refine W.seq ?_
        refine W.seq ?_
        have hm235 := (((hm201).lo hk205).lo hk218).kp hk230 (fun b_ hb e' => by have e'' : b_ = g215 := e'; omega)
        have hm236 := (((hb198).lo hk205).lo hk218).kp hk230 (fun e' => by have e'' : g182 = g215 := e'; omega)
        have hm237 := (((hm202).lo hk205).lo hk218).kp hk230 (fun b_ hb e' => hd226 (by have e'' : b_ = g215 := e'; rw [← e'']; exact hb))
        have hm238 := (((hm203).lo hk205).lo hk218).kp hk230 (fun b_ hb e' => hd227 (by have e'' : b_ = g215 := e'; rw [← e'']; exact hb))
        have hm239 := ((hO209).lo hk218).kp hk230 (fun b_ hb e' => hd228 (by have e'' : b_ = g215 := e'; rw [← e'']; exact hb))
        refine W.regS (SR.q' (r_lda (l := [.int .i64 v172.State, .int .i64 v172.Key, .slice A163 n164 c165, .int .i64 v172.Dust, .int .i64 v172.Laid, .int .i64 v172.Given]) agg28 rfl (fun _ _ hu => (hm236).cell hu) rfl) <| SR.q' (r_mv (v := .slice _ _ _) rfl) <| SR.call ent26 (c_spec_RunChest w229 v172 (((hm237).rd)) v173 (((hm238).rd))) rfl ?_)
        rintro e w240 ⟨A242, n243, c244, rfl, hO245, hk241⟩
        refine ⟨_, rfl, ?_⟩
        have hz246 := hk241.size
        have hB247 := hB234.lo hk241
        have hl248 := hO245.len
        have hl249 := hO245.rd.bound
        have hq250 := runF_len v172 v173
        refine SR.q' (r_mv (v := .tuple (List.toArray _)) rfl) <| SR.q' (r_ext (v := .agg (List.toArray _)) rfl rfl) <| SR.q' (r_ext (v := .int .i64 _) rfl rfl) <| SR.q' (r_ext (v := .bool _) rfl rfl) <| SR.alloc (l := [.int .i64 0, .int .i64 0, .slice none 0 0, .int .i64 0, .int .i64 0, .int .i64 0]) tz28 rfl ?_
        intro g251 w252 hg253 hk254 hs255 hb256
        have hz257 := hk254.size
        have hB258 := hB247.lo hk254
        have hd259 : ¬ A8 = some ⟨g251, 0, none⟩ := fun e' => by have := ((((((((((hm114).lo hk135).lo hk152).lo hk162).lo hk185).kp hk196 (fun b_ hb e' => hd190 (by have e'' : b_ = g182 := e'; rw [← e'']; exact hb))).lo hk205).lo hk218).kp hk230 (fun b_ hb e' => hd223 (by have e'' : b_ = g215 := e'; rw [← e'']; exact hb))).lo hk241).base_le e'; omega
        have hd260 : ¬ A54 = some ⟨g251, 0, none⟩ := fun e' => by have := ((((((((((hm117).lo hk135).lo hk152).lo hk162).lo hk185).kp hk196 (fun b_ hb e' => hd191 (by have e'' : b_ = g182 := e'; rw [← e'']; exact hb))).lo hk205).lo hk218).kp hk230 (fun b_ hb e' => hd224 (by have e'' : b_ = g215 := e'; rw [← e'']; exact hb))).lo hk241).base_le e'; omega
        have hd261 : ¬ A86 = some ⟨g251, 0, none⟩ := fun e' => by have := ((((((((((hm118).lo hk135).lo hk152).lo hk162).lo hk185).kp hk196 (fun b_ hb e' => hd192 (by have e'' : b_ = g182 := e'; rw [← e'']; exact hb))).lo hk205).lo hk218).kp hk230 (fun b_ hb e' => hd225 (by have e'' : b_ = g215 := e'; rw [← e'']; exact hb))).lo hk241).base_le e'; omega
        have hd262 : ¬ A163 = some ⟨g251, 0, none⟩ := fun e' => by have := ((hm237).lo hk241).base_le e'; omega
        have hd263 : ¬ A167 = some ⟨g251, 0, none⟩ := fun e' => by have := ((hm238).lo hk241).base_le e'; omega
        have hd264 : ¬ A206 = some ⟨g251, 0, none⟩ := fun e' => by have := ((hm239).lo hk241).base_le e'; omega
        have hd265 : ¬ A242 = some ⟨g251, 0, none⟩ := fun e' => by have := (hO245).base_le e'; omega
        refine SR.store (o := 0) (vs := [.int .i64 (((runF v172 v173).1).State), .int .i64 (((runF v172 v173).1).Key), .slice A242 n243 c244, .int .i64 (((runF v172 v173).1).Dust), .int .i64 (((runF v172 v173).1).Laid), .int .i64 (((runF v172 v173).1).Given)]) agg28.2 rfl rfl rfl rfl (hb256) (Nat.le_of_ble_eq_true rfl) rfl ?_
        intro w266 hk267 hs268 hb269
        have hz270 := hk267.size
        have hB271 := hB258.new hk267 (by omega)
        refine SR.q' (r_as (v := .int .i64 _) rfl) <| SR.q' (r_as (v := .bool _) rfl) <| SR.nil ?_
        refine W.seq ?_
        have hm272 := (((hm235).lo hk241).lo hk254).kp hk267 (fun b_ hb e' => by have e'' : b_ = g251 := e'; omega)
        have hm273 := (((hm236).lo hk241).lo hk254).kp hk267 (fun e' => by have e'' : g182 = g251 := e'; omega)
        have hm274 := (((hm237).lo hk241).lo hk254).kp hk267 (fun b_ hb e' => hd262 (by have e'' : b_ = g251 := e'; rw [← e'']; exact hb))
        have hm275 := (((hm238).lo hk241).lo hk254).kp hk267 (fun b_ hb e' => hd263 (by have e'' : b_ = g251 := e'; rw [← e'']; exact hb))
        have hm276 := (((hb232).lo hk241).lo hk254).kp hk267 (fun e' => by have e'' : g215 = g251 := e'; omega)
        have hm277 := (((hm239).lo hk241).lo hk254).kp hk267 (fun b_ hb e' => hd264 (by have e'' : b_ = g251 := e'; rw [← e'']; exact hb))
        have hm278 := ((hO245).lo hk254).kp hk267 (fun b_ hb e' => hd265 (by have e'' : b_ = g251 := e'; rw [← e'']; exact hb))
        refine W.regS (SR.q' (r_mv (v := .bool _) rfl) <| SR.q' (r_mv (v := .bool _) rfl) <| SR.q' (r_neb_s und4 rfl rfl) <| SR.q' (r_mv (v := .bool _) rfl) <| SR.g' rfl (r_mv (v := .int .i64 _) rfl) <| SR.g' rfl (r_mv (v := .int .i64 _) rfl) <| SR.g' rfl (r_ne_s rfl rfl) <| SR.q' (r_pick false rfl (v := .bool _) rfl) <| SR.q' (r_mv (v := .bool _) rfl) <| SR.g' rfl (r_lda (l := [.int .i64 (((runF v172 v173).1).State), .int .i64 (((runF v172 v173).1).Key), .slice A206 n207 c208, .int .i64 (((runF v172 v173).1).Dust), .int .i64 (((runF v172 v173).1).Laid), .int .i64 (((runF v172 v173).1).Given)]) agg28 rfl (fun _ _ hu => (hm276).cell hu) rfl) <| SR.g' rfl (r_lda (l := [.int .i64 (((runF v172 v173).1).State), .int .i64 (((runF v172 v173).1).Key), .slice A242 n243 c244, .int .i64 (((runF v172 v173).1).Dust), .int .i64 (((runF v172 v173).1).Laid), .int .i64 (((runF v172 v173).1).Given)]) agg28 rfl (fun _ _ hu => (hb269).cell hu) rfl) <| SR.gcall rfl ent48 (c_laws_vChest w266 ((runF v172 v173).1) (((hm277).rd)) ((runF v172 v173).1) (((hm278).rd))) rfl ?_)
        rintro e w279 ⟨rfl, hk280⟩
        refine ⟨_, rfl, ?_⟩
        have hz281 := hk280.size
        have hB282 := hB271.lo hk280
        refine SR.g' rfl (r_not rfl) <| SR.q' (r_pick false rfl (v := .bool _) rfl) <| SR.nil ?_
        refine W.cond_n rfl (fun h283 => ?_) (fun h283 => ?_)
        · refine W.seq ?_
          refine W.regS (SR.q' (r_as (v := .bool false) rfl) <| SR.nil ?_)
          refine W.ret ?_
          refine ret1 rfl (v := .bool _) rfl ?_
          exact ⟨eR (eB (z_c_laws_FnChests_284 L nL hbdL hleL h5 v12 v13 hq14 n9 hl17 hl18 hq19 n55 hl60 hl61 hq62 n87 hl92 hl93 hq94 h138 hq140 hq141 hq142 h155 v172 v173 hq174 hq175 n164 hl178 hl179 n168 hl180 hl181 n207 hl212 hl213 hq214 n243 hl248 hl249 hq250 h283)), hB282⟩
        · refine W.skip ?_
          refine W.seq ?_
          refine W.seq ?_
          refine W.regS (SR.q' (r_mv (v := .bool _) rfl) <| SR.nil ?_)
          refine W.cond_b rfl (fun h285 => ?_) (fun h285 => ?_)
          · refine W.seq ?_
            refine W.regS (SR.q' (r_lda (l := [.int .i64 v172.State, .int .i64 v172.Key, .slice A163 n164 c165, .int .i64 v172.Dust, .int .i64 v172.Laid, .int .i64 v172.Given]) agg28 rfl (fun _ _ hu => ((hm273).lo hk280).cell hu) rfl) <| SR.alloc (l := [.int .i64 0, .int .i64 0, .slice none 0 0, .int .i64 0, .int .i64 0, .int .i64 0]) tz28 rfl ?_)
            intro g286 w287 hg288 hk289 hs290 hb291
            have hz292 := hk289.size
            have hB293 := hB282.lo hk289
            have hd294 : ¬ A8 = some ⟨g286, 0, none⟩ := fun e' => by have := (((((((((((((hm114).lo hk135).lo hk152).lo hk162).lo hk185).kp hk196 (fun b_ hb e' => hd190 (by have e'' : b_ = g182 := e'; rw [← e'']; exact hb))).lo hk205).lo hk218).kp hk230 (fun b_ hb e' => hd223 (by have e'' : b_ = g215 := e'; rw [← e'']; exact hb))).lo hk241).lo hk254).kp hk267 (fun b_ hb e' => hd259 (by have e'' : b_ = g251 := e'; rw [← e'']; exact hb))).lo hk280).base_le e'; omega
            have hd295 : ¬ A54 = some ⟨g286, 0, none⟩ := fun e' => by have := (((((((((((((hm117).lo hk135).lo hk152).lo hk162).lo hk185).kp hk196 (fun b_ hb e' => hd191 (by have e'' : b_ = g182 := e'; rw [← e'']; exact hb))).lo hk205).lo hk218).kp hk230 (fun b_ hb e' => hd224 (by have e'' : b_ = g215 := e'; rw [← e'']; exact hb))).lo hk241).lo hk254).kp hk267 (fun b_ hb e' => hd260 (by have e'' : b_ = g251 := e'; rw [← e'']; exact hb))).lo hk280).base_le e'; omega
            have hd296 : ¬ A86 = some ⟨g286, 0, none⟩ := fun e' => by have := (((((((((((((hm118).lo hk135).lo hk152).lo hk162).lo hk185).kp hk196 (fun b_ hb e' => hd192 (by have e'' : b_ = g182 := e'; rw [← e'']; exact hb))).lo hk205).lo hk218).kp hk230 (fun b_ hb e' => hd225 (by have e'' : b_ = g215 := e'; rw [← e'']; exact hb))).lo hk241).lo hk254).kp hk267 (fun b_ hb e' => hd261 (by have e'' : b_ = g251 := e'; rw [← e'']; exact hb))).lo hk280).base_le e'; omega
            have hd297 : ¬ A163 = some ⟨g286, 0, none⟩ := fun e' => by have := ((hm274).lo hk280).base_le e'; omega
            have hd298 : ¬ A167 = some ⟨g286, 0, none⟩ := fun e' => by have := ((hm275).lo hk280).base_le e'; omega
            have hd299 : ¬ A206 = some ⟨g286, 0, none⟩ := fun e' => by have := ((hm277).lo hk280).base_le e'; omega
            have hd300 : ¬ A242 = some ⟨g286, 0, none⟩ := fun e' => by have := ((hm278).lo hk280).base_le e'; omega
            refine SR.store (o := 0) (vs := [.int .i64 v172.State, .int .i64 v172.Key, .slice A163 n164 c165, .int .i64 v172.Dust, .int .i64 v172.Laid, .int .i64 v172.Given]) agg28.2 rfl rfl rfl rfl (hb291) (Nat.le_of_ble_eq_true rfl) rfl ?_
            intro w301 hk302 hs303 hb304
            have hz305 := hk302.size
            have hB306 := hB293.new hk302 (by omega)
            refine SR.q' (r_as (v := .int .i64 0) rfl) <| SR.nil ?_
            refine W.seq ?_
            refine W.seq ?_
            have hm307 := (((hm272).lo hk280).lo hk289).kp hk302 (fun b_ hb e' => by have e'' : b_ = g286 := e'; omega)
            have hm308 := (((hm275).lo hk280).lo hk289).kp hk302 (fun b_ hb e' => hd298 (by have e'' : b_ = g286 := e'; rw [← e'']; exact hb))
            have hm309 := (((hm276).lo hk280).lo hk289).kp hk302 (fun e' => by have e'' : g215 = g286 := e'; omega)
            have hm310 := (((hm277).lo hk280).lo hk289).kp hk302 (fun b_ hb e' => hd299 (by have e'' : b_ = g286 := e'; rw [← e'']; exact hb))
            have hm311 := (((hm274).lo hk280).lo hk289).kp hk302 (fun b_ hb e' => hd297 (by have e'' : b_ = g286 := e'; rw [← e'']; exact hb))
            refine W.regS (SR.q' (r_as (v := .int .i64 0) rfl) <| SR.nil ?_)
            refine W.block ?_
            refine W.loop (σ := Nat × Chest × Int × (Option Addr) × Nat × Nat) (fun g => [(0, .slice AL nL cL), (2, .bool false), (10, .slice A167 n168 c169), (11, .pointer (some ((⟨g215, 0, none⟩ : Addr)))), (12, .int .i64 ((runF v172 v173).2.1)), (17, .pointer (some ((⟨g286, 0, none⟩ : Addr)))), (18, .int .i64 g.2.2.1), (19, .int .i64 (g.1 : Int))]) (fun g w' => (Lo w w') ∧ (SlR w' BL encB 1 AL nL cL L) ∧ (SlO w' w150.heap.size encChestStep 2 32 A167 n168 c169 v173) ∧ (Blk w' g215 28 [.int .i64 (((runF v172 v173).1).State), .int .i64 (((runF v172 v173).1).Key), .slice A206 n207 c208, .int .i64 (((runF v172 v173).1).Dust), .int .i64 (((runF v172 v173).1).Laid), .int .i64 (((runF v172 v173).1).Given)]) ∧ (SlO w' w195.heap.size encI 1 3 A206 n207 c208 (((runF v172 v173).1).Stack)) ∧ (Blk w' g286 28 [.int .i64 g.2.1.State, .int .i64 g.2.1.Key, .slice g.2.2.2.1 g.2.2.2.2.1 g.2.2.2.2.2, .int .i64 g.2.1.Dust, .int .i64 g.2.1.Laid, .int .i64 g.2.1.Given]) ∧ (SlO w' w.heap.size encI 1 3 g.2.2.2.1 g.2.2.2.2.1 g.2.2.2.2.2 g.2.1.Stack) ∧ (∀ b_, g.2.2.2.1 = some ⟨b_, 0, none⟩ → ¬ A167 = some ⟨b_, 0, none⟩) ∧ (¬ g.2.2.2.1 = some ⟨g215, 0, none⟩) ∧ (∀ b_, g.2.2.2.1 = some ⟨b_, 0, none⟩ → ¬ A206 = some ⟨b_, 0, none⟩) ∧ (¬ g.2.2.2.1 = some ⟨g286, 0, none⟩) ∧ ((g.1 ≤ v173.length ∧ 0 ≤ g.2.2.1 ∧ g.2.2.1 ≤ (g.1 : Int)) ∧ runTo v172 v173 g.1 = (g.2.1, g.2.2.1) ∧ ChestOK g.2.1)) (fun g => 60 - g.1) (0, v172, (0 : Int), A163, n164, c165) ?_ ?_ ?_
            · exact ⟨rfl, rfl, rfl, rfl, rfl, rfl, (eI (by first | (first | omega | rfl) | (dsimp only; (first | omega | rfl)))), (eI (by first | (first | omega | rfl) | (dsimp only; (first | omega | rfl)))), trivial⟩
            · show (Lo w w301) ∧ (SlR w301 BL encB 1 AL nL cL L) ∧ (SlO w301 w150.heap.size encChestStep 2 32 A167 n168 c169 v173) ∧ (Blk w301 g215 28 [.int .i64 (((runF v172 v173).1).State), .int .i64 (((runF v172 v173).1).Key), .slice A206 n207 c208, .int .i64 (((runF v172 v173).1).Dust), .int .i64 (((runF v172 v173).1).Laid), .int .i64 (((runF v172 v173).1).Given)]) ∧ (SlO w301 w195.heap.size encI 1 3 A206 n207 c208 (((runF v172 v173).1).Stack)) ∧ (Blk w301 g286 28 [.int .i64 v172.State, .int .i64 v172.Key, .slice A163 n164 c165, .int .i64 v172.Dust, .int .i64 v172.Laid, .int .i64 v172.Given]) ∧ (SlO w301 w.heap.size encI 1 3 A163 n164 c165 v172.Stack) ∧ (∀ b_, A163 = some ⟨b_, 0, none⟩ → ¬ A167 = some ⟨b_, 0, none⟩) ∧ (¬ A163 = some ⟨g215, 0, none⟩) ∧ (∀ b_, A163 = some ⟨b_, 0, none⟩ → ¬ A206 = some ⟨b_, 0, none⟩) ∧ (¬ A163 = some ⟨g286, 0, none⟩) ∧ ((0 ≤ v173.length ∧ 0 ≤ (0 : Int) ∧ (0 : Int) ≤ (0 : Int)) ∧ runTo v172 v173 0 = (v172, (0 : Int)) ∧ ChestOK v172)
              exact ⟨hB306, hm307, hm308, hm309, hm310, (hb304), ((hm311).down (by omega)), hd171, hd226, (fun b_ h h' => by have h1 := (hm202).base_le h; have h2 := (hm310).base_le h'; omega), hd297, (z_c_laws_FnChests_313 L nL hbdL hleL h5 v12 v13 hq14 n9 hl17 hl18 hq19 n55 hl60 hl61 hq62 n87 hl92 hl93 hq94 h138 hq140 hq141 hq142 h155 v172 v173 hq174 hq175 n164 hl178 hl179 n168 hl180 hl181 n207 hl212 hl213 hq214 n243 hl248 hl249 hq250 h283 h285)⟩
            · rintro ⟨k, o, m, A312, n312, c312⟩ f314 w315 hP317
              obtain ⟨hB316, hm318, hm319, hm320, hm321, hm322, hO323, hd325, hd326, hd327, hd328, hi324⟩ : (Lo w w315) ∧ (SlR w315 BL encB 1 AL nL cL L) ∧ (SlO w315 w150.heap.size encChestStep 2 32 A167 n168 c169 v173) ∧ (Blk w315 g215 28 [.int .i64 (((runF v172 v173).1).State), .int .i64 (((runF v172 v173).1).Key), .slice A206 n207 c208, .int .i64 (((runF v172 v173).1).Dust), .int .i64 (((runF v172 v173).1).Laid), .int .i64 (((runF v172 v173).1).Given)]) ∧ (SlO w315 w195.heap.size encI 1 3 A206 n207 c208 (((runF v172 v173).1).Stack)) ∧ (Blk w315 g286 28 [.int .i64 o.State, .int .i64 o.Key, .slice A312 n312 c312, .int .i64 o.Dust, .int .i64 o.Laid, .int .i64 o.Given]) ∧ (SlO w315 w.heap.size encI 1 3 A312 n312 c312 o.Stack) ∧ (∀ b_, A312 = some ⟨b_, 0, none⟩ → ¬ A167 = some ⟨b_, 0, none⟩) ∧ (¬ A312 = some ⟨g215, 0, none⟩) ∧ (∀ b_, A312 = some ⟨b_, 0, none⟩ → ¬ A206 = some ⟨b_, 0, none⟩) ∧ (¬ A312 = some ⟨g286, 0, none⟩) ∧ ((k ≤ v173.length ∧ 0 ≤ m ∧ m ≤ (k : Int)) ∧ runTo v172 v173 k = (o, m) ∧ ChestOK o) := hP317
              refine (?_ : W _ _ _ _ _ (act _ (sets f314 [(0, .slice AL nL cL), (2, .bool false), (10, .slice A167 n168 c169), (11, .pointer (some ((⟨g215, 0, none⟩ : Addr)))), (12, .int .i64 ((runF v172 v173).2.1)), (17, .pointer (some ((⟨g286, 0, none⟩ : Addr)))), (18, .int .i64 m), (19, .int .i64 (k : Int))])) _)
              have hzw315 := hB316.size
              have hl329 := hm320.lt
              have hl330 := hm322.lt
              have hl331 := hO323.len
              have hl332 := hO323.rd.bound
              have hq333 : 0 ≤ m ∧ m ≤ (k : Int) := hi324.1.2
              have hq334 : ChestOK o := hi324.2.2
              have hq335 : o.Stack.length ≤ 10 := chest_len hi324.2.2
              refine W.seq ?_
              refine W.seq ?_
              refine W.regS (SR.q' (r_mv (v := .int .i64 _) rfl) <| SR.q' (r_mv (v := .slice _ _ _) rfl) <| SR.q' (r_len und54 rfl) <| SR.q' (r_lt rfl rfl) <| SR.nil ?_)
              refine W.cond_d rfl (fun h336 => ?_) (fun h336 => ?_)
              · refine W.skip ?_
                refine W.seq ?_
                refine W.block ?_
                refine W.seq ?_
                refine W.regA (Lo w315) (fun f' w' => ∃ (A345 : Option Addr), ∃ (n346 : Nat), ∃ (c347 : Nat), ∃ (g355 : Nat), At f' [(0, .slice AL nL cL), (2, .bool false), (10, .slice A167 n168 c169), (11, .pointer (some ((⟨g215, 0, none⟩ : Addr)))), (12, .int .i64 ((runF v172 v173).2.1)), (17, .pointer (some ((⟨g286, 0, none⟩ : Addr)))), (18, .int .i64 m), (19, .int .i64 (k : Int)), (20, .pointer (some ((⟨g355, 0, none⟩ : Addr)))), (21, .bool ((impl_StepChest o (gt v173 k)).2))] ∧ (Lo w315 w') ∧ (SlO w' w315.heap.size encI 1 3 A345 n346 c347 (((impl_StepChest o (gt v173 k)).1).Stack)) ∧ (Blk w' g355 28 [.int .i64 (((impl_StepChest o (gt v173 k)).1).State), .int .i64 (((impl_StepChest o (gt v173 k)).1).Key), .slice A345 n346 c347, .int .i64 (((impl_StepChest o (gt v173 k)).1).Dust), .int .i64 (((impl_StepChest o (gt v173 k)).1).Laid), .int .i64 (((impl_StepChest o (gt v173 k)).1).Given)]) ∧ (w315.heap.size ≤ g355 ∧ g355 < w'.heap.size) ∧ (¬ A167 = some ⟨g355, 0, none⟩) ∧ (¬ A206 = some ⟨g355, 0, none⟩) ∧ (¬ A312 = some ⟨g355, 0, none⟩) ∧ (¬ A345 = some ⟨g355, 0, none⟩) ∧ (∀ b_, A345 = some ⟨b_, 0, none⟩ → ¬ A167 = some ⟨b_, 0, none⟩) ∧ (∀ b_, A345 = some ⟨b_, 0, none⟩ → ¬ A206 = some ⟨b_, 0, none⟩) ∧ (∀ b_, A345 = some ⟨b_, 0, none⟩ → ¬ A312 = some ⟨b_, 0, none⟩) ∧ (v173[k]? = some (gt v173 k)) ∧ (n346 = (((impl_StepChest o (gt v173 k)).1).Stack).length) ∧ ((n346 : Int) ≤ 9223372036854775807) ∧ ((((impl_StepChest o (gt v173 k)).1).Stack).length ≤ 10)) mo ?_ ?_
                · intro w337 hk338
                  have hz339 := hk338.size
                  have hB340 := hB316.lo hk338
                  refine AH.take 0 rfl (by kernel_rfl) trivial (hk338) (fun w' hw' => r_lda (l := [.int .i64 o.State, .int .i64 o.Key, .slice A312 n312 c312, .int .i64 o.Dust, .int .i64 o.Laid, .int .i64 o.Given]) agg28 rfl (fun _ _ hu => ((hm322).lo hw').cell hu) rfl) <| AH.take 1 rfl (by kernel_rfl) trivial (hk338) (fun w' hw' => r_mv (v := .slice _ _ _) rfl) <| AH.take 2 rfl (by kernel_rfl) trivial (hk338) (fun w' hw' => r_mv (v := .int .i64 _) rfl) <| ?_
                  have hx342 := (((hm319).lo hk338).rd).elem (i := k) (by omega)
                  refine AH.take 3 rfl (by kernel_rfl) trivial (hk338) (fun w' hw' => r_ixR tsl54 (((hm319).lo hw').rd) rfl rfl (by omega)) <| AH.take 4 rfl (by kernel_rfl) trivial (hk338) (fun w' hw' => r_lda (l := encChestStep (gt v173 k)) agg32 rfl (fun _ _ hu => (((hm319).lo hw').rd).cell hx342 hu) ((((hm319).lo hw').rd).esz _)) <| AH.br [5, 9] (by kernel_rfl) rfl ⟨Br.mk' rfl trivial ?_, Br.mk' rfl trivial ?_, trivial⟩
                  · refine SR.call ent13 (c_impl_StepChest w337 o ((((hO323).lo hk338).rd)) (gt v173 k)) rfl ?_
                    rintro e w343 ⟨A345, n346, c347, rfl, hO348, hk344⟩
                    refine ⟨_, rfl, ?_⟩
                    have hz349 := hk344.size
                    have hB350 := hB340.lo hk344
                    have hS351 := (hk338).lo hk344
                    have hl352 := hO348.len
                    have hl353 := hO348.rd.bound
                    have hq354 := step_len_i o (gt v173 k)
                    refine SR.nil ⟨hS351, _, rfl, ?_⟩
                    refine AH.take 6 rfl (by kernel_rfl) trivial (hS351) (fun w' hw' => r_mv (v := .tuple (List.toArray _)) rfl) <| AH.take 7 rfl (by kernel_rfl) trivial (hS351) (fun w' hw' => r_ext (v := .agg (List.toArray _)) rfl rfl) <| AH.take 8 rfl (by kernel_rfl) trivial (hS351) (fun w' hw' => r_ext (v := .bool _) rfl rfl) <| AH.br [9] (by kernel_rfl) rfl ⟨Br.mk' rfl trivial ?_, trivial⟩
                    refine SR.alloc (l := [.int .i64 0, .int .i64 0, .slice none 0 0, .int .i64 0, .int .i64 0, .int .i64 0]) tz28 rfl ?_
                    intro g355 w356 hg357 hk358 hs359 hb360
                    have hz361 := hk358.size
                    have hB362 := hB350.lo hk358
                    have hS363 := (hS351).lo hk358
                    have hd364 : ¬ A167 = some ⟨g355, 0, none⟩ := fun e' => by have := (((hm319).lo hk338).lo hk344).base_le e'; omega
                    have hd365 : ¬ A206 = some ⟨g355, 0, none⟩ := fun e' => by have := (((hm321).lo hk338).lo hk344).base_le e'; omega
                    have hd366 : ¬ A312 = some ⟨g355, 0, none⟩ := fun e' => by have := (((hO323).lo hk338).lo hk344).base_le e'; omega
                    have hd367 : ¬ A345 = some ⟨g355, 0, none⟩ := fun e' => by have := (hO348).base_le e'; omega
                    refine SR.nil ⟨hS363, _, rfl, ?_⟩
                    refine AH.br [10] (by kernel_rfl) rfl ⟨Br.mk' rfl trivial ?_, trivial⟩
                    refine SR.store (o := 0) (vs := [.int .i64 (((impl_StepChest o (gt v173 k)).1).State), .int .i64 (((impl_StepChest o (gt v173 k)).1).Key), .slice A345 n346 c347, .int .i64 (((impl_StepChest o (gt v173 k)).1).Dust), .int .i64 (((impl_StepChest o (gt v173 k)).1).Laid), .int .i64 (((impl_StepChest o (gt v173 k)).1).Given)]) agg28.2 rfl rfl rfl rfl (hb360) (Nat.le_of_ble_eq_true rfl) rfl ?_
                    intro w368 hk369 hs370 hb371
                    have hz372 := hk369.size
                    have hB373 := hB362.new hk369 (by omega)
                    have hS374 := (hS363).new hk369 (by omega)
                    refine SR.nil ⟨hS374, _, rfl, ?_⟩
                    refine AH.take 11 rfl (by kernel_rfl) trivial (hS374) (fun w' hw' => r_as (v := .bool _) rfl) <| AH.done (by kernel_rfl) ?_
                    exact ⟨A345, n346, c347, g355, ⟨rfl, rfl, rfl, rfl, rfl, rfl, rfl, rfl, rfl, rfl, trivial⟩, hS374, ((((hO348).lo hk358).kp hk369 (fun b_ hb e' => hd367 (by have e'' : b_ = g355 := e'; rw [← e'']; exact hb))).down (by omega)), (hb371), ⟨by omega, (hb371).lt⟩, hd364, hd365, hd366, hd367, (fun b_ h h' => by have h1 := (((hO348).lo hk358).kp hk369 (fun b_ hb e' => hd367 (by have e'' : b_ = g355 := e'; rw [← e'']; exact hb))).base_le h; have h2 := ((hm319).lo hk338).base_le h'; omega), (fun b_ h h' => by have h1 := (((hO348).lo hk358).kp hk369 (fun b_ hb e' => hd367 (by have e'' : b_ = g355 := e'; rw [← e'']; exact hb))).base_le h; have h2 := ((hm321).lo hk338).base_le h'; omega), (fun b_ h h' => by have h1 := (((hO348).lo hk358).kp hk369 (fun b_ hb e' => hd367 (by have e'' : b_ = g355 := e'; rw [← e'']; exact hb))).base_le h; have h2 := ((hO323).lo hk338).base_le h'; omega), hx342, hl352, hl353, hq354⟩
                  · refine SR.alloc (l := [.int .i64 0, .int .i64 0, .slice none 0 0, .int .i64 0, .int .i64 0, .int .i64 0]) tz28 rfl ?_
                    intro g385 w386 hg387 hk388 hs389 hb390
                    have hz391 := hk388.size
                    have hB392 := hB340.lo hk388
                    have hS393 := (hk338).lo hk388
                    have hd394 : ¬ A167 = some ⟨g385, 0, none⟩ := fun e' => by have := ((hm319).lo hk338).base_le e'; omega
                    have hd395 : ¬ A206 = some ⟨g385, 0, none⟩ := fun e' => by have := ((hm321).lo hk338).base_le e'; omega
                    have hd396 : ¬ A312 = some ⟨g385, 0, none⟩ := fun e' => by have := ((hO323).lo hk338).base_le e'; omega
                    refine SR.nil ⟨hS393, _, rfl, ?_⟩
                    refine AH.br [5] (by kernel_rfl) rfl ⟨Br.mk' rfl trivial ?_, trivial⟩
                    refine SR.call ent13 (c_impl_StepChest w386 o (((((hO323).lo hk338).lo hk388).rd)) (gt v173 k)) rfl ?_
                    rintro e w397 ⟨A399, n400, c401, rfl, hO402, hk398⟩
                    refine ⟨_, rfl, ?_⟩
                    have hz403 := hk398.size
                    have hB404 := hB392.lo hk398
                    have hS405 := (hS393).lo hk398
                    have hl406 := hO402.len
                    have hl407 := hO402.rd.bound
                    have hq408 := step_len_i o (gt v173 k)
                    refine SR.nil ⟨hS405, _, rfl, ?_⟩
                    refine AH.take 6 rfl (by kernel_rfl) trivial (hS405) (fun w' hw' => r_mv (v := .tuple (List.toArray _)) rfl) <| AH.take 7 rfl (by kernel_rfl) trivial (hS405) (fun w' hw' => r_ext (v := .agg (List.toArray _)) rfl rfl) <| AH.take 8 rfl (by kernel_rfl) trivial (hS405) (fun w' hw' => r_ext (v := .bool _) rfl rfl) <| AH.br [10] (by kernel_rfl) rfl ⟨Br.mk' rfl trivial ?_, trivial⟩
                    refine SR.store (o := 0) (vs := [.int .i64 (((impl_StepChest o (gt v173 k)).1).State), .int .i64 (((impl_StepChest o (gt v173 k)).1).Key), .slice A399 n400 c401, .int .i64 (((impl_StepChest o (gt v173 k)).1).Dust), .int .i64 (((impl_StepChest o (gt v173 k)).1).Laid), .int .i64 (((impl_StepChest o (gt v173 k)).1).Given)]) agg28.2 rfl rfl rfl rfl ((hb390).lo hk398) (Nat.le_of_ble_eq_true rfl) rfl ?_
                    intro w409 hk410 hs411 hb412
                    have hz413 := hk410.size
                    have hB414 := hB404.new hk410 (by omega)
                    have hS415 := (hS405).new hk410 (by omega)
                    refine SR.nil ⟨hS415, _, rfl, ?_⟩
                    refine AH.take 11 rfl (by kernel_rfl) trivial (hS415) (fun w' hw' => r_as (v := .bool _) rfl) <| AH.done (by kernel_rfl) ?_
                    exact ⟨A399, n400, c401, g385, ⟨rfl, rfl, rfl, rfl, rfl, rfl, rfl, rfl, rfl, rfl, trivial⟩, hS415, (((hO402).kp hk410 (fun b_ hb e' => by have e'' : b_ = g385 := e'; have := (hO402).base_le hb; omega)).down (by omega)), (hb412), ⟨by omega, (hb412).lt⟩, hd394, hd395, hd396, (fun e' => by have := ((hO402).kp hk410 (fun b_ hb e' => by have e'' : b_ = g385 := e'; have := (hO402).base_le hb; omega)).base_le e'; omega), (fun b_ h h' => by have h1 := ((hO402).kp hk410 (fun b_ hb e' => by have e'' : b_ = g385 := e'; have := (hO402).base_le hb; omega)).base_le h; have h2 := (((hm319).lo hk338).lo hk388).base_le h'; omega), (fun b_ h h' => by have h1 := ((hO402).kp hk410 (fun b_ hb e' => by have e'' : b_ = g385 := e'; have := (hO402).base_le hb; omega)).base_le h; have h2 := (((hm321).lo hk338).lo hk388).base_le h'; omega), (fun b_ h h' => by have h1 := ((hO402).kp hk410 (fun b_ hb e' => by have e'' : b_ = g385 := e'; have := (hO402).base_le hb; omega)).base_le h; have h2 := (((hO323).lo hk338).lo hk388).base_le h'; omega), hx342, hl406, hl407, hq408⟩
                rintro f424 w425 ⟨A345, n346, c347, g355, hat427, hR426, hm375, hm376, hg377, hd378, hd379, hd380, hd381, hd382, hd383, hd384, hx342, hl352, hl353, hq354⟩
                rw [← sets_of_at hat427]
                have hz428 := hR426.size
                have hB429 := hB316.lo hR426
                refine W.seq ?_
                refine W.regS (SR.q' (r_mv (v := .bool _) rfl) <| SR.nil ?_)
                refine W.cond_b rfl (fun h430 => ?_) (fun h430 => ?_)
                · refine W.seq ?_
                  refine W.regS (SR.q' (r_lda (l := [.int .i64 (((impl_StepChest o (gt v173 k)).1).State), .int .i64 (((impl_StepChest o (gt v173 k)).1).Key), .slice A345 n346 c347, .int .i64 (((impl_StepChest o (gt v173 k)).1).Dust), .int .i64 (((impl_StepChest o (gt v173 k)).1).Laid), .int .i64 (((impl_StepChest o (gt v173 k)).1).Given)]) agg28 rfl (fun _ _ hu => (hm376).cell hu) rfl) <| SR.store (o := 0) (vs := [.int .i64 (((impl_StepChest o (gt v173 k)).1).State), .int .i64 (((impl_StepChest o (gt v173 k)).1).Key), .slice A345 n346 c347, .int .i64 (((impl_StepChest o (gt v173 k)).1).Dust), .int .i64 (((impl_StepChest o (gt v173 k)).1).Laid), .int .i64 (((impl_StepChest o (gt v173 k)).1).Given)]) agg28.2 rfl rfl rfl rfl ((hm322).lo hR426) (Nat.le_of_ble_eq_true rfl) rfl ?_)
                  intro w431 hk432 hs433 hb434
                  have hz435 := hk432.size
                  have hB436 := hB429.new hk432 (by omega)
                  refine SR.nil ?_
                  have hm437 := ((hm318).lo hR426).kp hk432 (fun b_ hb e' => by have e'' : b_ = g286 := e'; omega)
                  have hm438 := ((hm319).lo hR426).kp hk432 (fun b_ hb e' => hd298 (by have e'' : b_ = g286 := e'; rw [← e'']; exact hb))
                  have hm439 := ((hm320).lo hR426).kp hk432 (fun e' => by have e'' : g215 = g286 := e'; omega)
                  have hm440 := ((hm321).lo hR426).kp hk432 (fun b_ hb e' => hd299 (by have e'' : b_ = g286 := e'; rw [← e'']; exact hb))
                  refine W.regS (SR.q' (r_mv (v := .int .i64 _) rfl) <| SR.q' (r_add rfl rfl (by omega)) <| SR.q' (r_as (v := .int .i64 _) rfl) <| SR.nil ?_)
                  refine W.regS (SR.q' (r_mv (v := .int .i64 _) rfl) <| SR.q' (r_add rfl rfl (by omega)) <| SR.q' (r_as (v := .int .i64 _) rfl) <| SR.nil ?_)
                  refine ⟨(k + 1, ((impl_StepChest o (gt v173 k)).1), m + 1, A345, n346, c347), _, rfl, ⟨rfl, rfl, rfl, rfl, rfl, rfl, rfl, (eI (by first | (first | omega | rfl) | (dsimp only; (first | omega | rfl)))), trivial⟩, (show (Lo w w431) ∧ (SlR w431 BL encB 1 AL nL cL L) ∧ (SlO w431 w150.heap.size encChestStep 2 32 A167 n168 c169 v173) ∧ (Blk w431 g215 28 [.int .i64 (((runF v172 v173).1).State), .int .i64 (((runF v172 v173).1).Key), .slice A206 n207 c208, .int .i64 (((runF v172 v173).1).Dust), .int .i64 (((runF v172 v173).1).Laid), .int .i64 (((runF v172 v173).1).Given)]) ∧ (SlO w431 w195.heap.size encI 1 3 A206 n207 c208 (((runF v172 v173).1).Stack)) ∧ (Blk w431 g286 28 [.int .i64 (((impl_StepChest o (gt v173 k)).1).State), .int .i64 (((impl_StepChest o (gt v173 k)).1).Key), .slice A345 n346 c347, .int .i64 (((impl_StepChest o (gt v173 k)).1).Dust), .int .i64 (((impl_StepChest o (gt v173 k)).1).Laid), .int .i64 (((impl_StepChest o (gt v173 k)).1).Given)]) ∧ (SlO w431 w.heap.size encI 1 3 A345 n346 c347 (((impl_StepChest o (gt v173 k)).1).Stack)) ∧ (∀ b_, A345 = some ⟨b_, 0, none⟩ → ¬ A167 = some ⟨b_, 0, none⟩) ∧ (¬ A345 = some ⟨g215, 0, none⟩) ∧ (∀ b_, A345 = some ⟨b_, 0, none⟩ → ¬ A206 = some ⟨b_, 0, none⟩) ∧ (¬ A345 = some ⟨g286, 0, none⟩) ∧ ((k + 1 ≤ v173.length ∧ 0 ≤ m + 1 ∧ m + 1 ≤ (k + 1 : Int)) ∧ runTo v172 v173 (k + 1) = (((impl_StepChest o (gt v173 k)).1), m + 1) ∧ ChestOK ((impl_StepChest o (gt v173 k)).1)) from ⟨hB436, hm437, hm438, hm439, hm440, (hb434), (((hm375).kp hk432 (fun b_ hb e' => by have e'' : b_ = g286 := e'; have := (hm375).base_le hb; omega)).down (by omega)), hd382, (fun e' => by have := ((hm375).kp hk432 (fun b_ hb e' => by have e'' : b_ = g286 := e'; have := (hm375).base_le hb; omega)).base_le e'; omega), hd383, (fun e' => by have := ((hm375).kp hk432 (fun b_ hb e' => by have e'' : b_ = g286 := e'; have := (hm375).base_le hb; omega)).base_le e'; omega), ?_⟩), ?_⟩
                  · exact (z_c_laws_FnChests_441 L nL hbdL hleL h5 v12 v13 hq14 n9 hl17 hl18 hq19 n55 hl60 hl61 hq62 n87 hl92 hl93 hq94 h138 hq140 hq141 hq142 h155 v172 v173 hq174 hq175 n164 hl178 hl179 n168 hl180 hl181 n207 hl212 hl213 hq214 n243 hl248 hl249 hq250 h283 h285 k o m n312 c312 hi324 hl331 hq333 hq334 hq335 h336 n346 hx342 hl352 hl353 hq354 h430)
                  · exact (z_c_laws_FnChests_442 L nL hbdL hleL h5 v12 v13 hq14 n9 hl17 hl18 hq19 n55 hl60 hl61 hq62 n87 hl92 hl93 hq94 h138 hq140 hq141 hq142 h155 v172 v173 hq174 hq175 n164 hl178 hl179 n168 hl180 hl181 n207 hl212 hl213 hq214 n243 hl248 hl249 hq250 h283 h285 k o m n312 c312 hi324 hl331 hq333 hq334 hq335 h336 n346 hx342 hl352 hl353 hq354 h430)
                · refine W.skip ?_
                  refine W.regS (SR.q' (r_mv (v := .int .i64 _) rfl) <| SR.q' (r_add rfl rfl (by omega)) <| SR.q' (r_as (v := .int .i64 _) rfl) <| SR.nil ?_)
                  refine ⟨(k + 1, o, m, A312, n312, c312), _, rfl, ⟨rfl, rfl, rfl, rfl, rfl, rfl, rfl, (eI (by first | (first | omega | rfl) | (dsimp only; (first | omega | rfl)))), trivial⟩, (show (Lo w w425) ∧ (SlR w425 BL encB 1 AL nL cL L) ∧ (SlO w425 w150.heap.size encChestStep 2 32 A167 n168 c169 v173) ∧ (Blk w425 g215 28 [.int .i64 (((runF v172 v173).1).State), .int .i64 (((runF v172 v173).1).Key), .slice A206 n207 c208, .int .i64 (((runF v172 v173).1).Dust), .int .i64 (((runF v172 v173).1).Laid), .int .i64 (((runF v172 v173).1).Given)]) ∧ (SlO w425 w195.heap.size encI 1 3 A206 n207 c208 (((runF v172 v173).1).Stack)) ∧ (Blk w425 g286 28 [.int .i64 o.State, .int .i64 o.Key, .slice A312 n312 c312, .int .i64 o.Dust, .int .i64 o.Laid, .int .i64 o.Given]) ∧ (SlO w425 w.heap.size encI 1 3 A312 n312 c312 o.Stack) ∧ (∀ b_, A312 = some ⟨b_, 0, none⟩ → ¬ A167 = some ⟨b_, 0, none⟩) ∧ (¬ A312 = some ⟨g215, 0, none⟩) ∧ (∀ b_, A312 = some ⟨b_, 0, none⟩ → ¬ A206 = some ⟨b_, 0, none⟩) ∧ (¬ A312 = some ⟨g286, 0, none⟩) ∧ ((k + 1 ≤ v173.length ∧ 0 ≤ m ∧ m ≤ (k + 1 : Int)) ∧ runTo v172 v173 (k + 1) = (o, m) ∧ ChestOK o) from ⟨hB429, (hm318).lo hR426, (hm319).lo hR426, (hm320).lo hR426, (hm321).lo hR426, ((hm322).lo hR426), ((hO323).lo hR426), hd325, hd326, hd327, hd328, ?_⟩), ?_⟩
                  · exact (z_c_laws_FnChests_443 L nL hbdL hleL h5 v12 v13 hq14 n9 hl17 hl18 hq19 n55 hl60 hl61 hq62 n87 hl92 hl93 hq94 h138 hq140 hq141 hq142 h155 v172 v173 hq174 hq175 n164 hl178 hl179 n168 hl180 hl181 n207 hl212 hl213 hq214 n243 hl248 hl249 hq250 h283 h285 k o m n312 c312 hi324 hl331 hq333 hq334 hq335 h336 n346 hx342 hl352 hl353 hq354 h430)
                  · exact (z_c_laws_FnChests_444 L nL hbdL hleL h5 v12 v13 hq14 n9 hl17 hl18 hq19 n55 hl60 hl61 hq62 n87 hl92 hl93 hq94 h138 hq140 hq141 hq142 h155 v172 v173 hq174 hq175 n164 hl178 hl179 n168 hl180 hl181 n207 hl212 hl213 hq214 n243 hl248 hl249 hq250 h283 h285 k o m n312 c312 hi324 hl331 hq333 hq334 hq335 h336 n346 hx342 hl352 hl353 hq354 h430)
              · refine W.exit (xin_here ?_)
                refine W.seq ?_
                refine W.regJS (fun f' w' => At f' [(0, .slice AL nL cL), (2, .bool false), (173, .bool (decide ((¬ (m = ((runF v172 v173).2.1))) ∨ (¬ (o = ((runF v172 v173).1))))))] ∧ Lo w315 w') ?_ ?_
                · refine SR.q' (r_mv (v := .int .i64 _) rfl) <| SR.q' (r_mv (v := .int .i64 _) rfl) <| SR.q' (r_ne rfl rfl) <| SR.q' (r_mv (v := .bool _) rfl) <| SR.splitN (fun h445 => ?_) (fun h445 => ?_)
                  · refine SR.s' rfl <| SR.s' rfl <| SR.s' rfl <| SR.s' rfl <| SR.q' (r_pick true rfl (v := .bool true) rfl) <| SR.nil ?_
                    exact ⟨_, rfl, ⟨⟨rfl, rfl, (eDT ((jmf h445).1 trivial)), trivial⟩, (Lo.refl _)⟩⟩
                  · refine SR.g' rfl (r_lda (l := [.int .i64 o.State, .int .i64 o.Key, .slice A312 n312 c312, .int .i64 o.Dust, .int .i64 o.Laid, .int .i64 o.Given]) agg28 rfl (fun _ _ hu => (hm322).cell hu) rfl) <| SR.g' rfl (r_lda (l := [.int .i64 (((runF v172 v173).1).State), .int .i64 (((runF v172 v173).1).Key), .slice A206 n207 c208, .int .i64 (((runF v172 v173).1).Dust), .int .i64 (((runF v172 v173).1).Laid), .int .i64 (((runF v172 v173).1).Given)]) agg28 rfl (fun _ _ hu => (hm320).cell hu) rfl) <| SR.gcall rfl ent48 (c_laws_vChest w315 o (((hO323).rd)) ((runF v172 v173).1) (((hm321).rd))) rfl ?_
                    rintro e w446 ⟨rfl, hk447⟩
                    refine ⟨_, rfl, ?_⟩
                    have hz448 := hk447.size
                    have hB449 := hB316.lo hk447
                    refine SR.g' rfl (r_not rfl) <| SR.q' (r_pick false rfl (v := .bool _) rfl) <| SR.nil ?_
                    exact ⟨_, rfl, ⟨⟨rfl, rfl, (eND (jmt h445)), trivial⟩, (hk447)⟩⟩
                rintro f450 w451 ⟨hat452, hk453⟩
                rw [← sets_of_at hat452]
                have hz454 := hk453.size
                have hB455 := hB316.lo hk453
                refine W.cond_d rfl (fun h456 => ?_) (fun h456 => ?_)
                · refine W.seq ?_
                  refine W.regS (SR.q' (r_as (v := .bool false) rfl) <| SR.nil ?_)
                  refine W.ret ?_
                  refine ret1 rfl (v := .bool _) rfl ?_
                  exact ⟨eR (eB (z_c_laws_FnChests_457 L nL hbdL hleL h5 v12 v13 hq14 n9 hl17 hl18 hq19 n55 hl60 hl61 hq62 n87 hl92 hl93 hq94 h138 hq140 hq141 hq142 h155 v172 v173 hq174 hq175 n164 hl178 hl179 n168 hl180 hl181 n207 hl212 hl213 hq214 n243 hl248 hl249 hq250 h283 h285 k o m n312 c312 hi324 hl331 hq333 hq334 hq335 h336 h456)), hB455⟩
                · have hq458 : m = ((runF v172 v173).2.1) := (Classical.not_not.1 (not_or.1 h456).1)
                  have hq459 : o = ((runF v172 v173).1) := (Classical.not_not.1 (not_or.1 h456).2)
                  refine W.skip ?_
                  refine W.seq ?_
                  refine W.regS (SR.q' (r_mv (v := .slice _ _ _) rfl) <| SR.call ent52 (c_spec_DrawMapsAbove w451 L (((hm318).lo hk453)) (by omega)) rfl ?_)
                  rintro e w460 ⟨A462, n463, c464, v466, v467, rfl, hO465, hq468, hk461⟩
                  refine ⟨_, rfl, ?_⟩
                  have hz469 := hk461.size
                  have hB470 := hB455.lo hk461
                  have hl471 := hO465.len
                  have hl472 := hO465.rd.bound
                  have hq473 : AbLaw v466 v467 := ab_law v466 v467
                  refine SR.q' (r_mv (v := .tuple (List.toArray _)) rfl) <| SR.q' (r_ext (v := .agg (List.toArray _)) rfl rfl) <| SR.q' (r_ext (v := .int .i64 _) rfl rfl) <| SR.alloc (l := [.int .i64 0, .int .i64 0, .slice none 0 0, .int .i64 0, .int .i64 0, .int .i64 0]) tz28 rfl ?_
                  intro g474 w475 hg476 hk477 hs478 hb479
                  have hz480 := hk477.size
                  have hB481 := hB470.lo hk477
                  have hd482 : ¬ A167 = some ⟨g474, 0, none⟩ := fun e' => by have := (((hm319).lo hk453).lo hk461).base_le e'; omega
                  have hd483 : ¬ A206 = some ⟨g474, 0, none⟩ := fun e' => by have := (((hm321).lo hk453).lo hk461).base_le e'; omega
                  have hd484 : ¬ A312 = some ⟨g474, 0, none⟩ := fun e' => by have := (((hO323).lo hk453).lo hk461).base_le e'; omega
                  have hd485 : ¬ A462 = some ⟨g474, 0, none⟩ := fun e' => by have := (hO465).base_le e'; omega
                  refine SR.store (o := 0) (vs := [.int .i64 v466.State, .int .i64 v466.Key, .slice A462 n463 c464, .int .i64 v466.Dust, .int .i64 v466.Laid, .int .i64 v466.Given]) agg28.2 rfl rfl rfl rfl (hb479) (Nat.le_of_ble_eq_true rfl) rfl ?_
                  intro w486 hk487 hs488 hb489
                  have hz490 := hk487.size
                  have hB491 := hB481.new hk487 (by omega)
                  refine SR.q' (r_as (v := .int .i64 _) rfl) <| SR.nil ?_
                  refine W.seq ?_
                  have hm492 := ((hO465).lo hk477).kp hk487 (fun b_ hb e' => hd485 (by have e'' : b_ = g474 := e'; rw [← e'']; exact hb))
                  refine W.regS (SR.q' (r_lda (l := [.int .i64 v466.State, .int .i64 v466.Key, .slice A462 n463 c464, .int .i64 v466.Dust, .int .i64 v466.Laid, .int .i64 v466.Given]) agg28 rfl (fun _ _ hu => (hb489).cell hu) rfl) <| SR.q' (r_mv (v := .int .i64 _) rfl) <| SR.call ent53 (c_impl_MapsAbove w486 v466 (((hm492).rd)) v467) rfl ?_)
                  rintro e w493 ⟨rfl, hk494⟩
                  refine ⟨_, rfl, ?_⟩
                  have hz495 := hk494.size
                  have hB496 := hB491.lo hk494
                  refine SR.q' (r_mv (v := .tuple (List.toArray _)) rfl) <| SR.q' (r_ext (v := .int .i64 _) rfl rfl) <| SR.q' (r_ext (v := .bool _) rfl rfl) <| SR.q' (r_as (v := .int .i64 _) rfl) <| SR.q' (r_as (v := .bool _) rfl) <| SR.nil ?_
                  refine W.seq ?_
                  refine W.seq ?_
                  refine W.regS (SR.q' (r_lda (l := [.int .i64 v466.State, .int .i64 v466.Key, .slice A462 n463 c464, .int .i64 v466.Dust, .int .i64 v466.Laid, .int .i64 v466.Given]) agg28 rfl (fun _ _ hu => ((hb489).lo hk494).cell hu) rfl) <| SR.q' (r_mv (v := .int .i64 _) rfl) <| SR.call ent54 (c_spec_MapsAbove w493 v466 ((((hm492).lo hk494).rd)) v467) rfl ?_)
                  rintro e w497 ⟨rfl, hk498⟩
                  refine ⟨_, rfl, ?_⟩
                  have hz499 := hk498.size
                  have hB500 := hB496.lo hk498
                  refine SR.q' (r_mv (v := .tuple (List.toArray _)) rfl) <| SR.q' (r_ext (v := .int .i64 _) rfl rfl) <| SR.q' (r_ext (v := .bool _) rfl rfl) <| SR.q' (r_as (v := .int .i64 _) rfl) <| SR.q' (r_as (v := .bool _) rfl) <| SR.nil ?_
                  refine W.seq ?_
                  have hm501 := ((hb489).lo hk494).lo hk498
                  have hm502 := ((hm492).lo hk494).lo hk498
                  refine W.regJS (fun f' w' => At f' [(2, .bool false), (22, .pointer (some ((⟨g474, 0, none⟩ : Addr)))), (23, .int .i64 v467), (24, .int .i64 ((impl_MapsAbove v466 v467).1)), (25, .bool ((impl_MapsAbove v466 v467).2)), (198, .bool (decide ((¬ (((impl_MapsAbove v466 v467).1) = ((spec_MapsAbove v466 v467).1))) ∨ ((!(((impl_MapsAbove v466 v467).2) == ((spec_MapsAbove v466 v467).2))) = true))))] ∧ Lo w497 w') ?_ ?_
                  · refine SR.q' (r_mv (v := .int .i64 _) rfl) <| SR.q' (r_mv (v := .int .i64 _) rfl) <| SR.q' (r_ne rfl rfl) <| SR.q' (r_mv (v := .bool _) rfl) <| SR.splitN (fun h503 => ?_) (fun h503 => ?_)
                    · refine SR.s' rfl <| SR.s' rfl <| SR.s' rfl <| SR.q' (r_pick true rfl (v := .bool true) rfl) <| SR.nil ?_
                      exact ⟨_, rfl, ⟨⟨rfl, rfl, rfl, rfl, rfl, (eDT ((jmf h503).1 trivial)), trivial⟩, (Lo.refl _)⟩⟩
                    · refine SR.g' rfl (r_mv (v := .bool _) rfl) <| SR.g' rfl (r_mv (v := .bool _) rfl) <| SR.g' rfl (r_neb und4 rfl rfl) <| SR.q' (r_pick false rfl (v := .bool _) rfl) <| SR.nil ?_
                      exact ⟨_, rfl, ⟨⟨rfl, rfl, rfl, rfl, rfl, (eBD (jmt h503)), trivial⟩, (Lo.refl _)⟩⟩
                  rintro f504 w505 ⟨hat506, hk507⟩
                  rw [← sets_of_at hat506]
                  have hz508 := hk507.size
                  have hB509 := hB500.lo hk507
                  refine W.cond_d rfl (fun h510 => ?_) (fun h510 => ?_)
                  · refine W.seq ?_
                    refine W.regS (SR.q' (r_as (v := .bool false) rfl) <| SR.nil ?_)
                    refine W.ret ?_
                    refine ret1 rfl (v := .bool _) rfl ?_
                    exact ⟨eR (eB (z_c_laws_FnChests_511 L nL hbdL hleL h5 v12 v13 hq14 n9 hl17 hl18 hq19 n55 hl60 hl61 hq62 n87 hl92 hl93 hq94 h138 hq140 hq141 hq142 h155 v172 v173 hq174 hq175 n164 hl178 hl179 n168 hl180 hl181 n207 hl212 hl213 hq214 n243 hl248 hl249 hq250 h283 h285 k o m n312 c312 hi324 hl331 hq333 hq334 hq335 h336 h456 hq458 hq459 v466 v467 hq468 n463 hl471 hl472 hq473 h510)), hB509⟩
                  · have hq512 : ((impl_MapsAbove v466 v467).1) = ((spec_MapsAbove v466 v467).1) := (Classical.not_not.1 (not_or.1 h510).1)
                    have hq513 : ¬ ((!(((impl_MapsAbove v466 v467).2) == ((spec_MapsAbove v466 v467).2))) = true) := (not_or.1 h510).2
                    refine W.skip ?_
                    refine W.seq ?_
                    refine W.regS (SR.q' (r_lda (l := [.int .i64 v466.State, .int .i64 v466.Key, .slice A462 n463 c464, .int .i64 v466.Dust, .int .i64 v466.Laid, .int .i64 v466.Given]) agg28 rfl (fun _ _ hu => ((hm501).lo hk507).cell hu) rfl) <| SR.call ent55 (c_impl_TopMap w505 v466 ((((hm502).lo hk507).rd))) rfl ?_)
                    rintro e w514 ⟨rfl, hk515⟩
                    refine ⟨_, rfl, ?_⟩
                    have hz516 := hk515.size
                    have hB517 := hB509.lo hk515
                    refine SR.q' (r_mv (v := .tuple (List.toArray _)) rfl) <| SR.q' (r_ext (v := .int .i64 _) rfl rfl) <| SR.q' (r_ext (v := .bool _) rfl rfl) <| SR.q' (r_as (v := .int .i64 _) rfl) <| SR.q' (r_as (v := .bool _) rfl) <| SR.nil ?_
                    refine W.seq ?_
                    refine W.seq ?_
                    have hm518 := ((hm501).lo hk507).lo hk515
                    have hm519 := ((hm502).lo hk507).lo hk515
                    refine W.regS (SR.q' (r_lda (l := [.int .i64 v466.State, .int .i64 v466.Key, .slice A462 n463 c464, .int .i64 v466.Dust, .int .i64 v466.Laid, .int .i64 v466.Given]) agg28 rfl (fun _ _ hu => (hm518).cell hu) rfl) <| SR.call ent56 (c_spec_TopMap w514 v466 (((hm519).rd))) rfl ?_)
                    rintro e w520 ⟨rfl, hk521⟩
                    refine ⟨_, rfl, ?_⟩
                    have hz522 := hk521.size
                    have hB523 := hB517.lo hk521
                    refine SR.q' (r_mv (v := .tuple (List.toArray _)) rfl) <| SR.q' (r_ext (v := .int .i64 _) rfl rfl) <| SR.q' (r_ext (v := .bool _) rfl rfl) <| SR.q' (r_as (v := .int .i64 _) rfl) <| SR.q' (r_as (v := .bool _) rfl) <| SR.nil ?_
                    refine W.seq ?_
                    refine W.regJS (fun f' w' => At f' [(2, .bool false), (23, .int .i64 v467), (24, .int .i64 ((impl_MapsAbove v466 v467).1)), (25, .bool ((impl_MapsAbove v466 v467).2)), (28, .int .i64 ((impl_TopMap v466).1)), (29, .bool ((impl_TopMap v466).2)), (216, .bool (decide ((¬ (((impl_TopMap v466).1) = ((spec_TopMap v466).1))) ∨ ((!(((impl_TopMap v466).2) == ((spec_TopMap v466).2))) = true))))] ∧ Lo w520 w') ?_ ?_
                    · refine SR.q' (r_mv (v := .int .i64 _) rfl) <| SR.q' (r_mv (v := .int .i64 _) rfl) <| SR.q' (r_ne rfl rfl) <| SR.q' (r_mv (v := .bool _) rfl) <| SR.splitN (fun h524 => ?_) (fun h524 => ?_)
                      · refine SR.s' rfl <| SR.s' rfl <| SR.s' rfl <| SR.q' (r_pick true rfl (v := .bool true) rfl) <| SR.nil ?_
                        exact ⟨_, rfl, ⟨⟨rfl, rfl, rfl, rfl, rfl, rfl, (eDT ((jmf h524).1 trivial)), trivial⟩, (Lo.refl _)⟩⟩
                      · refine SR.g' rfl (r_mv (v := .bool _) rfl) <| SR.g' rfl (r_mv (v := .bool _) rfl) <| SR.g' rfl (r_neb und4 rfl rfl) <| SR.q' (r_pick false rfl (v := .bool _) rfl) <| SR.nil ?_
                        exact ⟨_, rfl, ⟨⟨rfl, rfl, rfl, rfl, rfl, rfl, (eBD (jmt h524)), trivial⟩, (Lo.refl _)⟩⟩
                    rintro f525 w526 ⟨hat527, hk528⟩
                    rw [← sets_of_at hat527]
                    have hz529 := hk528.size
                    have hB530 := hB523.lo hk528
                    refine W.cond_d rfl (fun h531 => ?_) (fun h531 => ?_)
                    · refine W.seq ?_
                      refine W.regS (SR.q' (r_as (v := .bool false) rfl) <| SR.nil ?_)
                      refine W.ret ?_
                      refine ret1 rfl (v := .bool _) rfl ?_
                      exact ⟨eR (eB (z_c_laws_FnChests_532 L nL hbdL hleL h5 v12 v13 hq14 n9 hl17 hl18 hq19 n55 hl60 hl61 hq62 n87 hl92 hl93 hq94 h138 hq140 hq141 hq142 h155 v172 v173 hq174 hq175 n164 hl178 hl179 n168 hl180 hl181 n207 hl212 hl213 hq214 n243 hl248 hl249 hq250 h283 h285 k o m n312 c312 hi324 hl331 hq333 hq334 hq335 h336 h456 hq458 hq459 v466 v467 hq468 n463 hl471 hl472 hq473 h510 hq512 hq513 h531)), hB530⟩
                    · have hq533 : ((impl_TopMap v466).1) = ((spec_TopMap v466).1) := (Classical.not_not.1 (not_or.1 h531).1)
                      have hq534 : ¬ ((!(((impl_TopMap v466).2) == ((spec_TopMap v466).2))) = true) := (not_or.1 h531).2
                      refine W.skip ?_
                      refine W.seq ?_
                      refine W.regJS (fun f' w' => At f' [(2, .bool (decide (((!((impl_MapsAbove v466 v467).2)) = true) ∨ ((((impl_TopMap v466).2) = true) ∧ (((decide (((impl_MapsAbove v466 v467).1) = 0)) == (decide (((impl_TopMap v466).1) = v467))) = true)))))] ∧ Lo w526 w') ?_ ?_
                      · refine SR.q' (r_mv (v := .bool _) rfl) <| SR.q' (r_not rfl) <| SR.q' (r_mv (v := .bool _) rfl) <| SR.split (fun h535 => ?_) (fun h535 => ?_)
                        · have hq536 := bnot_t h535
                          refine SR.s' rfl <| SR.s' rfl <| SR.u' rfl <| SR.u' rfl <| SR.u' rfl <| SR.u' rfl <| SR.u' rfl <| SR.u' rfl <| SR.s' rfl <| SR.q' (r_pick true rfl (v := .bool true) rfl) <| SR.q' (r_as (v := .bool _) rfl) <| SR.nil ?_
                          exact ⟨_, rfl, ⟨⟨(eDT ((jot h535).1 trivial)), trivial⟩, (Lo.refl _)⟩⟩
                        · have hq537 := bnot_f h535
                          refine SR.g' rfl (r_mv (v := .bool _) rfl) <| SR.g' rfl (r_mv (v := .bool _) rfl) <| SR.split (fun h538 => ?_) (fun h538 => ?_)
                          · refine SR.g' rfl (r_mv (v := .int .i64 _) rfl) <| SR.g' rfl (r_eq rfl rfl) <| SR.g' rfl (r_mv (v := .int .i64 _) rfl) <| SR.g' rfl (r_mv (v := .int .i64 _) rfl) <| SR.g' rfl (r_eq rfl rfl) <| SR.g' rfl (r_eqb und4 rfl rfl) <| SR.g' rfl (r_pick true rfl (v := .bool _) rfl) <| SR.q' (r_pick false rfl (v := .bool _) rfl) <| SR.q' (r_as (v := .bool _) rfl) <| SR.nil ?_
                            exact ⟨_, rfl, ⟨⟨(eBD ((jat h538).trans (jof (ne_true_of_eq_false h535)))), trivial⟩, (Lo.refl _)⟩⟩
                          · refine SR.s' rfl <| SR.s' rfl <| SR.s' rfl <| SR.s' rfl <| SR.s' rfl <| SR.s' rfl <| SR.g' rfl (r_pick false rfl (v := .bool false) rfl) <| SR.q' (r_pick false rfl (v := .bool _) rfl) <| SR.q' (r_as (v := .bool _) rfl) <| SR.nil ?_
                            exact ⟨_, rfl, ⟨⟨(eDF ((jaf (ne_true_of_eq_false h538)).trans (jof (ne_true_of_eq_false h535))).2), trivial⟩, (Lo.refl _)⟩⟩
                      rintro f539 w540 ⟨hat541, hk542⟩
                      rw [← sets_of_at hat541]
                      have hz543 := hk542.size
                      have hB544 := hB530.lo hk542
                      refine W.ret ?_
                      refine ret1 rfl (v := .bool _) rfl ?_
                      exact ⟨eR (eB (z_c_laws_FnChests_545 L nL hbdL hleL h5 v12 v13 hq14 n9 hl17 hl18 hq19 n55 hl60 hl61 hq62 n87 hl92 hl93 hq94 h138 hq140 hq141 hq142 h155 v172 v173 hq174 hq175 n164 hl178 hl179 n168 hl180 hl181 n207 hl212 hl213 hq214 n243 hl248 hl249 hq250 h283 h285 k o m n312 c312 hi324 hl331 hq333 hq334 hq335 h336 h456 hq458 hq459 v466 v467 hq468 n463 hl471 hl472 hq473 h510 hq512 hq513 h531 hq533 hq534)), hB544⟩
          · refine W.skip ?_
            refine W.seq ?_
            refine W.regS (SR.q' (r_mv (v := .slice _ _ _) rfl) <| SR.call ent52 (c_spec_DrawMapsAbove w279 L (((hm272).lo hk280)) (by omega)) rfl ?_)
            rintro e w546 ⟨A548, n549, c550, v552, v553, rfl, hO551, hq554, hk547⟩
            refine ⟨_, rfl, ?_⟩
            have hz555 := hk547.size
            have hB556 := hB282.lo hk547
            have hl557 := hO551.len
            have hl558 := hO551.rd.bound
            have hq559 : AbLaw v552 v553 := ab_law v552 v553
            refine SR.q' (r_mv (v := .tuple (List.toArray _)) rfl) <| SR.q' (r_ext (v := .agg (List.toArray _)) rfl rfl) <| SR.q' (r_ext (v := .int .i64 _) rfl rfl) <| SR.alloc (l := [.int .i64 0, .int .i64 0, .slice none 0 0, .int .i64 0, .int .i64 0, .int .i64 0]) tz28 rfl ?_
            intro g560 w561 hg562 hk563 hs564 hb565
            have hz566 := hk563.size
            have hB567 := hB556.lo hk563
            have hd568 : ¬ A8 = some ⟨g560, 0, none⟩ := fun e' => by have := ((((((((((((((hm114).lo hk135).lo hk152).lo hk162).lo hk185).kp hk196 (fun b_ hb e' => hd190 (by have e'' : b_ = g182 := e'; rw [← e'']; exact hb))).lo hk205).lo hk218).kp hk230 (fun b_ hb e' => hd223 (by have e'' : b_ = g215 := e'; rw [← e'']; exact hb))).lo hk241).lo hk254).kp hk267 (fun b_ hb e' => hd259 (by have e'' : b_ = g251 := e'; rw [← e'']; exact hb))).lo hk280).lo hk547).base_le e'; omega
            have hd569 : ¬ A54 = some ⟨g560, 0, none⟩ := fun e' => by have := ((((((((((((((hm117).lo hk135).lo hk152).lo hk162).lo hk185).kp hk196 (fun b_ hb e' => hd191 (by have e'' : b_ = g182 := e'; rw [← e'']; exact hb))).lo hk205).lo hk218).kp hk230 (fun b_ hb e' => hd224 (by have e'' : b_ = g215 := e'; rw [← e'']; exact hb))).lo hk241).lo hk254).kp hk267 (fun b_ hb e' => hd260 (by have e'' : b_ = g251 := e'; rw [← e'']; exact hb))).lo hk280).lo hk547).base_le e'; omega
            have hd570 : ¬ A86 = some ⟨g560, 0, none⟩ := fun e' => by have := ((((((((((((((hm118).lo hk135).lo hk152).lo hk162).lo hk185).kp hk196 (fun b_ hb e' => hd192 (by have e'' : b_ = g182 := e'; rw [← e'']; exact hb))).lo hk205).lo hk218).kp hk230 (fun b_ hb e' => hd225 (by have e'' : b_ = g215 := e'; rw [← e'']; exact hb))).lo hk241).lo hk254).kp hk267 (fun b_ hb e' => hd261 (by have e'' : b_ = g251 := e'; rw [← e'']; exact hb))).lo hk280).lo hk547).base_le e'; omega
            have hd571 : ¬ A163 = some ⟨g560, 0, none⟩ := fun e' => by have := (((hm274).lo hk280).lo hk547).base_le e'; omega
            have hd572 : ¬ A167 = some ⟨g560, 0, none⟩ := fun e' => by have := (((hm275).lo hk280).lo hk547).base_le e'; omega
            have hd573 : ¬ A206 = some ⟨g560, 0, none⟩ := fun e' => by have := (((hm277).lo hk280).lo hk547).base_le e'; omega
            have hd574 : ¬ A242 = some ⟨g560, 0, none⟩ := fun e' => by have := (((hm278).lo hk280).lo hk547).base_le e'; omega
            have hd575 : ¬ A548 = some ⟨g560, 0, none⟩ := fun e' => by have := (hO551).base_le e'; omega
            refine SR.store (o := 0) (vs := [.int .i64 v552.State, .int .i64 v552.Key, .slice A548 n549 c550, .int .i64 v552.Dust, .int .i64 v552.Laid, .int .i64 v552.Given]) agg28.2 rfl rfl rfl rfl (hb565) (Nat.le_of_ble_eq_true rfl) rfl ?_
            intro w576 hk577 hs578 hb579
            have hz580 := hk577.size
            have hB581 := hB567.new hk577 (by omega)
            refine SR.q' (r_as (v := .int .i64 _) rfl) <| SR.nil ?_
            refine W.seq ?_
            have hm582 := ((hO551).lo hk563).kp hk577 (fun b_ hb e' => hd575 (by have e'' : b_ = g560 := e'; rw [← e'']; exact hb))
            refine W.regS (SR.q' (r_lda (l := [.int .i64 v552.State, .int .i64 v552.Key, .slice A548 n549 c550, .int .i64 v552.Dust, .int .i64 v552.Laid, .int .i64 v552.Given]) agg28 rfl (fun _ _ hu => (hb579).cell hu) rfl) <| SR.q' (r_mv (v := .int .i64 _) rfl) <| SR.call ent53 (c_impl_MapsAbove w576 v552 (((hm582).rd)) v553) rfl ?_)
            rintro e w583 ⟨rfl, hk584⟩
            refine ⟨_, rfl, ?_⟩
            have hz585 := hk584.size
            have hB586 := hB581.lo hk584
            refine SR.q' (r_mv (v := .tuple (List.toArray _)) rfl) <| SR.q' (r_ext (v := .int .i64 _) rfl rfl) <| SR.q' (r_ext (v := .bool _) rfl rfl) <| SR.q' (r_as (v := .int .i64 _) rfl) <| SR.q' (r_as (v := .bool _) rfl) <| SR.nil ?_
            refine W.seq ?_
            refine W.seq ?_
            refine W.regS (SR.q' (r_lda (l := [.int .i64 v552.State, .int .i64 v552.Key, .slice A548 n549 c550, .int .i64 v552.Dust, .int .i64 v552.Laid, .int .i64 v552.Given]) agg28 rfl (fun _ _ hu => ((hb579).lo hk584).cell hu) rfl) <| SR.q' (r_mv (v := .int .i64 _) rfl) <| SR.call ent54 (c_spec_MapsAbove w583 v552 ((((hm582).lo hk584).rd)) v553) rfl ?_)
            rintro e w587 ⟨rfl, hk588⟩
            refine ⟨_, rfl, ?_⟩
            have hz589 := hk588.size
            have hB590 := hB586.lo hk588
            refine SR.q' (r_mv (v := .tuple (List.toArray _)) rfl) <| SR.q' (r_ext (v := .int .i64 _) rfl rfl) <| SR.q' (r_ext (v := .bool _) rfl rfl) <| SR.q' (r_as (v := .int .i64 _) rfl) <| SR.q' (r_as (v := .bool _) rfl) <| SR.nil ?_
            refine W.seq ?_
            have hm591 := ((hb579).lo hk584).lo hk588
            have hm592 := ((hm582).lo hk584).lo hk588
            refine W.regJS (fun f' w' => At f' [(2, .bool false), (22, .pointer (some ((⟨g560, 0, none⟩ : Addr)))), (23, .int .i64 v553), (24, .int .i64 ((impl_MapsAbove v552 v553).1)), (25, .bool ((impl_MapsAbove v552 v553).2)), (198, .bool (decide ((¬ (((impl_MapsAbove v552 v553).1) = ((spec_MapsAbove v552 v553).1))) ∨ ((!(((impl_MapsAbove v552 v553).2) == ((spec_MapsAbove v552 v553).2))) = true))))] ∧ Lo w587 w') ?_ ?_
            · refine SR.q' (r_mv (v := .int .i64 _) rfl) <| SR.q' (r_mv (v := .int .i64 _) rfl) <| SR.q' (r_ne rfl rfl) <| SR.q' (r_mv (v := .bool _) rfl) <| SR.splitN (fun h593 => ?_) (fun h593 => ?_)
              · refine SR.s' rfl <| SR.s' rfl <| SR.s' rfl <| SR.q' (r_pick true rfl (v := .bool true) rfl) <| SR.nil ?_
                exact ⟨_, rfl, ⟨⟨rfl, rfl, rfl, rfl, rfl, (eDT ((jmf h593).1 trivial)), trivial⟩, (Lo.refl _)⟩⟩
              · refine SR.g' rfl (r_mv (v := .bool _) rfl) <| SR.g' rfl (r_mv (v := .bool _) rfl) <| SR.g' rfl (r_neb und4 rfl rfl) <| SR.q' (r_pick false rfl (v := .bool _) rfl) <| SR.nil ?_
                exact ⟨_, rfl, ⟨⟨rfl, rfl, rfl, rfl, rfl, (eBD (jmt h593)), trivial⟩, (Lo.refl _)⟩⟩
            rintro f594 w595 ⟨hat596, hk597⟩
            rw [← sets_of_at hat596]
            have hz598 := hk597.size
            have hB599 := hB590.lo hk597
            refine W.cond_d rfl (fun h600 => ?_) (fun h600 => ?_)
            · refine W.seq ?_
              refine W.regS (SR.q' (r_as (v := .bool false) rfl) <| SR.nil ?_)
              refine W.ret ?_
              refine ret1 rfl (v := .bool _) rfl ?_
              exact ⟨eR (eB (z_c_laws_FnChests_601 L nL hbdL hleL h5 v12 v13 hq14 n9 hl17 hl18 hq19 n55 hl60 hl61 hq62 n87 hl92 hl93 hq94 h138 hq140 hq141 hq142 h155 v172 v173 hq174 hq175 n164 hl178 hl179 n168 hl180 hl181 n207 hl212 hl213 hq214 n243 hl248 hl249 hq250 h283 h285 v552 v553 hq554 n549 hl557 hl558 hq559 h600)), hB599⟩
            · have hq602 : ((impl_MapsAbove v552 v553).1) = ((spec_MapsAbove v552 v553).1) := (Classical.not_not.1 (not_or.1 h600).1)
              have hq603 : ¬ ((!(((impl_MapsAbove v552 v553).2) == ((spec_MapsAbove v552 v553).2))) = true) := (not_or.1 h600).2
              refine W.skip ?_
              refine W.seq ?_
              refine W.regS (SR.q' (r_lda (l := [.int .i64 v552.State, .int .i64 v552.Key, .slice A548 n549 c550, .int .i64 v552.Dust, .int .i64 v552.Laid, .int .i64 v552.Given]) agg28 rfl (fun _ _ hu => ((hm591).lo hk597).cell hu) rfl) <| SR.call ent55 (c_impl_TopMap w595 v552 ((((hm592).lo hk597).rd))) rfl ?_)
              rintro e w604 ⟨rfl, hk605⟩
              refine ⟨_, rfl, ?_⟩
              have hz606 := hk605.size
              have hB607 := hB599.lo hk605
              refine SR.q' (r_mv (v := .tuple (List.toArray _)) rfl) <| SR.q' (r_ext (v := .int .i64 _) rfl rfl) <| SR.q' (r_ext (v := .bool _) rfl rfl) <| SR.q' (r_as (v := .int .i64 _) rfl) <| SR.q' (r_as (v := .bool _) rfl) <| SR.nil ?_
              refine W.seq ?_
              refine W.seq ?_
              have hm608 := ((hm591).lo hk597).lo hk605
              have hm609 := ((hm592).lo hk597).lo hk605
              refine W.regS (SR.q' (r_lda (l := [.int .i64 v552.State, .int .i64 v552.Key, .slice A548 n549 c550, .int .i64 v552.Dust, .int .i64 v552.Laid, .int .i64 v552.Given]) agg28 rfl (fun _ _ hu => (hm608).cell hu) rfl) <| SR.call ent56 (c_spec_TopMap w604 v552 (((hm609).rd))) rfl ?_)
              rintro e w610 ⟨rfl, hk611⟩
              refine ⟨_, rfl, ?_⟩
              have hz612 := hk611.size
              have hB613 := hB607.lo hk611
              refine SR.q' (r_mv (v := .tuple (List.toArray _)) rfl) <| SR.q' (r_ext (v := .int .i64 _) rfl rfl) <| SR.q' (r_ext (v := .bool _) rfl rfl) <| SR.q' (r_as (v := .int .i64 _) rfl) <| SR.q' (r_as (v := .bool _) rfl) <| SR.nil ?_
              refine W.seq ?_
              refine W.regJS (fun f' w' => At f' [(2, .bool false), (23, .int .i64 v553), (24, .int .i64 ((impl_MapsAbove v552 v553).1)), (25, .bool ((impl_MapsAbove v552 v553).2)), (28, .int .i64 ((impl_TopMap v552).1)), (29, .bool ((impl_TopMap v552).2)), (216, .bool (decide ((¬ (((impl_TopMap v552).1) = ((spec_TopMap v552).1))) ∨ ((!(((impl_TopMap v552).2) == ((spec_TopMap v552).2))) = true))))] ∧ Lo w610 w') ?_ ?_
              · refine SR.q' (r_mv (v := .int .i64 _) rfl) <| SR.q' (r_mv (v := .int .i64 _) rfl) <| SR.q' (r_ne rfl rfl) <| SR.q' (r_mv (v := .bool _) rfl) <| SR.splitN (fun h614 => ?_) (fun h614 => ?_)
                · refine SR.s' rfl <| SR.s' rfl <| SR.s' rfl <| SR.q' (r_pick true rfl (v := .bool true) rfl) <| SR.nil ?_
                  exact ⟨_, rfl, ⟨⟨rfl, rfl, rfl, rfl, rfl, rfl, (eDT ((jmf h614).1 trivial)), trivial⟩, (Lo.refl _)⟩⟩
                · refine SR.g' rfl (r_mv (v := .bool _) rfl) <| SR.g' rfl (r_mv (v := .bool _) rfl) <| SR.g' rfl (r_neb und4 rfl rfl) <| SR.q' (r_pick false rfl (v := .bool _) rfl) <| SR.nil ?_
                  exact ⟨_, rfl, ⟨⟨rfl, rfl, rfl, rfl, rfl, rfl, (eBD (jmt h614)), trivial⟩, (Lo.refl _)⟩⟩
              rintro f615 w616 ⟨hat617, hk618⟩
              rw [← sets_of_at hat617]
              have hz619 := hk618.size
              have hB620 := hB613.lo hk618
              refine W.cond_d rfl (fun h621 => ?_) (fun h621 => ?_)
              · refine W.seq ?_
                refine W.regS (SR.q' (r_as (v := .bool false) rfl) <| SR.nil ?_)
                refine W.ret ?_
                refine ret1 rfl (v := .bool _) rfl ?_
                exact ⟨eR (eB (z_c_laws_FnChests_622 L nL hbdL hleL h5 v12 v13 hq14 n9 hl17 hl18 hq19 n55 hl60 hl61 hq62 n87 hl92 hl93 hq94 h138 hq140 hq141 hq142 h155 v172 v173 hq174 hq175 n164 hl178 hl179 n168 hl180 hl181 n207 hl212 hl213 hq214 n243 hl248 hl249 hq250 h283 h285 v552 v553 hq554 n549 hl557 hl558 hq559 h600 hq602 hq603 h621)), hB620⟩
              · have hq623 : ((impl_TopMap v552).1) = ((spec_TopMap v552).1) := (Classical.not_not.1 (not_or.1 h621).1)
                have hq624 : ¬ ((!(((impl_TopMap v552).2) == ((spec_TopMap v552).2))) = true) := (not_or.1 h621).2
                refine W.skip ?_
                refine W.seq ?_
                refine W.regJS (fun f' w' => At f' [(2, .bool (decide (((!((impl_MapsAbove v552 v553).2)) = true) ∨ ((((impl_TopMap v552).2) = true) ∧ (((decide (((impl_MapsAbove v552 v553).1) = 0)) == (decide (((impl_TopMap v552).1) = v553))) = true)))))] ∧ Lo w616 w') ?_ ?_
                · refine SR.q' (r_mv (v := .bool _) rfl) <| SR.q' (r_not rfl) <| SR.q' (r_mv (v := .bool _) rfl) <| SR.split (fun h625 => ?_) (fun h625 => ?_)
                  · have hq626 := bnot_t h625
                    refine SR.s' rfl <| SR.s' rfl <| SR.u' rfl <| SR.u' rfl <| SR.u' rfl <| SR.u' rfl <| SR.u' rfl <| SR.u' rfl <| SR.s' rfl <| SR.q' (r_pick true rfl (v := .bool true) rfl) <| SR.q' (r_as (v := .bool _) rfl) <| SR.nil ?_
                    exact ⟨_, rfl, ⟨⟨(eDT ((jot h625).1 trivial)), trivial⟩, (Lo.refl _)⟩⟩
                  · have hq627 := bnot_f h625
                    refine SR.g' rfl (r_mv (v := .bool _) rfl) <| SR.g' rfl (r_mv (v := .bool _) rfl) <| SR.split (fun h628 => ?_) (fun h628 => ?_)
                    · refine SR.g' rfl (r_mv (v := .int .i64 _) rfl) <| SR.g' rfl (r_eq rfl rfl) <| SR.g' rfl (r_mv (v := .int .i64 _) rfl) <| SR.g' rfl (r_mv (v := .int .i64 _) rfl) <| SR.g' rfl (r_eq rfl rfl) <| SR.g' rfl (r_eqb und4 rfl rfl) <| SR.g' rfl (r_pick true rfl (v := .bool _) rfl) <| SR.q' (r_pick false rfl (v := .bool _) rfl) <| SR.q' (r_as (v := .bool _) rfl) <| SR.nil ?_
                      exact ⟨_, rfl, ⟨⟨(eBD ((jat h628).trans (jof (ne_true_of_eq_false h625)))), trivial⟩, (Lo.refl _)⟩⟩
                    · refine SR.s' rfl <| SR.s' rfl <| SR.s' rfl <| SR.s' rfl <| SR.s' rfl <| SR.s' rfl <| SR.g' rfl (r_pick false rfl (v := .bool false) rfl) <| SR.q' (r_pick false rfl (v := .bool _) rfl) <| SR.q' (r_as (v := .bool _) rfl) <| SR.nil ?_
                      exact ⟨_, rfl, ⟨⟨(eDF ((jaf (ne_true_of_eq_false h628)).trans (jof (ne_true_of_eq_false h625))).2), trivial⟩, (Lo.refl _)⟩⟩
                rintro f629 w630 ⟨hat631, hk632⟩
                rw [← sets_of_at hat631]
                have hz633 := hk632.size
                have hB634 := hB620.lo hk632
                refine W.ret ?_
                refine ret1 rfl (v := .bool _) rfl ?_
                exact ⟨eR (eB (z_c_laws_FnChests_635 L nL hbdL hleL h5 v12 v13 hq14 n9 hl17 hl18 hq19 n55 hl60 hl61 hq62 n87 hl92 hl93 hq94 h138 hq140 hq141 hq142 h155 v172 v173 hq174 hq175 n164 hl178 hl179 n168 hl180 hl181 n207 hl212 hl213 hq214 n243 hl248 hl249 hq250 h283 h285 v552 v553 hq554 n549 hl557 hl558 hq559 h600 hq602 hq603 h621 hq623 hq624)), hB634⟩
end Go.Proofs.Ytlpapeeaghmjpaa
