/- Walks, printed by a program of this claim's author. -/
import Derived.Test.YtlpapeeaghmjpaaChecked
import Derived.Test.YtlpapeeaghmjpaaSd
import Derived.Test.YtlpapeeaghmjpaaFu
import Derived.Test.YtlpapeeaghmjpaaFs
import Derived.Test.YtlpapeeaghmjpaaFq
import Derived.Test.YtlpapeeaghmjpaaFo
import Derived.Test.YtlpapeeaghmjpaaG29u
namespace Go.Proofs.Ytlpapeeaghmjpaa
open Go Go.RowKit Fw
set_option maxRecDepth 10000
set_option linter.unusedVariables false
theorem ent21 : Ent Try.prog 21 := ent_of Try.func21 (by decide +kernel) rfl
theorem ent32 : Ent Try.prog 32 := ent_of Try.func32 (by decide +kernel) rfl
theorem ent34 : Ent Try.prog 34 := ent_of Try.func34 (by decide +kernel) rfl
theorem ent37 : Ent Try.prog 37 := ent_of Try.func37 (by decide +kernel) rfl
theorem ent38 : Ent Try.prog 38 := ent_of Try.func38 (by decide +kernel) rfl
theorem ent39 : Ent Try.prog 39 := ent_of Try.func39 (by decide +kernel) rfl
theorem ent41 : Ent Try.prog 41 := ent_of Try.func41 (by decide +kernel) rfl
theorem ent42 : Ent Try.prog 42 := ent_of Try.func42 (by decide +kernel) rfl
theorem ent43 : Ent Try.prog 43 := ent_of Try.func43 (by decide +kernel) rfl
theorem ent44 : Ent Try.prog 44 := ent_of Try.func44 (by decide +kernel) rfl
theorem ent45 : Ent Try.prog 45 := ent_of Try.func45 (by decide +kernel) rfl
theorem und4 : Try.prog.underlying 4 = some (.bool) := by kernel_rfl

theorem z_c_laws_FnScanJobs_138 (L : List UInt8) (nL : Nat) (hbdL : (nL : Int) ≤ 9223372036854775807) (hleL : nL = L.length) (h5 : ¬ (65536 < (L.length : Int))) (v12 : ScanJob) (v13 : ScanStep) (hq14 : v12.Tiles.length ≤ 9) (n9 : Nat) (hl17 : n9 = (v12.Tiles).length) (hl18 : (n9 : Int) ≤ 9223372036854775807) (hq19 : ScLaw v12 v13) (n55 : Nat) (hl60 : n55 = (((impl_StepScan v12 v13).1).Tiles).length) (hl61 : (n55 : Int) ≤ 9223372036854775807) (hq62 : (((impl_StepScan v12 v13).1).Tiles).length ≤ 8) (n87 : Nat) (hl92 : n87 = (((spec_StepScan v12 v13).1).Tiles).length) (hl93 : (n87 : Int) ≤ 9223372036854775807) (hq94 : (((spec_StepScan v12 v13).1).Tiles).length ≤ 8) (h137 : ((!(((impl_StepScan v12 v13).2) == ((spec_StepScan v12 v13).2))) = true) ∨ ((¬ (((impl_StepScan v12 v13).1) = ((spec_StepScan v12 v13).1))) ∨ ((((impl_StepScan v12 v13).2) = true) ∧ (¬ (JobOK ((impl_StepScan v12 v13).1)))))) : false = true := by
  first | exact decide_eq_true rfl | (exfalso; have hl := ‹ScLaw _ _›; unfold ScLaw at hl; first | (rcases ‹(!_ == _) = true ∨ _› with h | h | h; (rw [hl.1] at h; simp at h); exact h (by rw [hl.1]); exact h.2 (hl.2 h.1).1) | (rcases ‹¬ _ = IntKind.i64.wrap _ ∨ _› with h | h; exact h (hl.2 ‹_ = true›).2.1; have := (hl.2 ‹_ = true›).2.2; omega) | exact ‹¬ (runFJ _ _).1 = (runFJ _ _).1› rfl | (have hr := runFJ_end ‹(runFJ _ _).2.2 = true› (And.left (And.right ‹_ ∧ runToJ _ _ _ = _ ∧ _›)) (by omega); rcases ‹¬ _ = (runFJ _ _).2.1 ∨ _› with h | h; exact h hr.2.symm; exact h hr.1.symm))
theorem z_c_laws_FnScanJobs_160 (L : List UInt8) (nL : Nat) (hbdL : (nL : Int) ≤ 9223372036854775807) (hleL : nL = L.length) (h5 : ¬ (65536 < (L.length : Int))) (v12 : ScanJob) (v13 : ScanStep) (hq14 : v12.Tiles.length ≤ 9) (n9 : Nat) (hl17 : n9 = (v12.Tiles).length) (hl18 : (n9 : Int) ≤ 9223372036854775807) (hq19 : ScLaw v12 v13) (n55 : Nat) (hl60 : n55 = (((impl_StepScan v12 v13).1).Tiles).length) (hl61 : (n55 : Int) ≤ 9223372036854775807) (hq62 : (((impl_StepScan v12 v13).1).Tiles).length ≤ 8) (n87 : Nat) (hl92 : n87 = (((spec_StepScan v12 v13).1).Tiles).length) (hl93 : (n87 : Int) ≤ 9223372036854775807) (hq94 : (((spec_StepScan v12 v13).1).Tiles).length ≤ 8) (h137 : ¬ (((!(((impl_StepScan v12 v13).2) == ((spec_StepScan v12 v13).2))) = true) ∨ ((¬ (((impl_StepScan v12 v13).1) = ((spec_StepScan v12 v13).1))) ∨ ((((impl_StepScan v12 v13).2) = true) ∧ (¬ (JobOK ((impl_StepScan v12 v13).1))))))) (hq139 : ¬ ((!(((impl_StepScan v12 v13).2) == ((spec_StepScan v12 v13).2))) = true)) (hq140 : ((impl_StepScan v12 v13).1) = ((spec_StepScan v12 v13).1)) (hq141 : ¬ ((((impl_StepScan v12 v13).2) = true) ∧ (¬ (JobOK ((impl_StepScan v12 v13).1))))) (h156 : (((impl_StepScan v12 v13).2) = true) ∧ ((¬ ((((impl_StepScan v12 v13).1).Size) = (IntKind.i64.wrap (10 * (wsum (((impl_StepScan v12 v13).1).Tiles)))))) ∨ (¬ ((n55 : Int) = (n9 : Int))))) (hq157 : ((impl_StepScan v12 v13).2) = true) (hq158 : (¬ ((((impl_StepScan v12 v13).1).Size) = (IntKind.i64.wrap (10 * (wsum (((impl_StepScan v12 v13).1).Tiles)))))) ∨ (¬ ((n55 : Int) = (n9 : Int)))) : false = true := by
  first | exact decide_eq_true rfl | (exfalso; have hl := ‹ScLaw _ _›; unfold ScLaw at hl; first | (rcases ‹(!_ == _) = true ∨ _› with h | h | h; (rw [hl.1] at h; simp at h); exact h (by rw [hl.1]); exact h.2 (hl.2 h.1).1) | (rcases ‹¬ _ = IntKind.i64.wrap _ ∨ _› with h | h; exact h (hl.2 ‹_ = true›).2.1; have := (hl.2 ‹_ = true›).2.2; omega) | exact ‹¬ (runFJ _ _).1 = (runFJ _ _).1› rfl | (have hr := runFJ_end ‹(runFJ _ _).2.2 = true› (And.left (And.right ‹_ ∧ runToJ _ _ _ = _ ∧ _›)) (by omega); rcases ‹¬ _ = (runFJ _ _).2.1 ∨ _› with h | h; exact h hr.2.symm; exact h hr.1.symm))
theorem z_c_laws_FnScanJobs_285 (L : List UInt8) (nL : Nat) (hbdL : (nL : Int) ≤ 9223372036854775807) (hleL : nL = L.length) (h5 : ¬ (65536 < (L.length : Int))) (v12 : ScanJob) (v13 : ScanStep) (hq14 : v12.Tiles.length ≤ 9) (n9 : Nat) (hl17 : n9 = (v12.Tiles).length) (hl18 : (n9 : Int) ≤ 9223372036854775807) (hq19 : ScLaw v12 v13) (n55 : Nat) (hl60 : n55 = (((impl_StepScan v12 v13).1).Tiles).length) (hl61 : (n55 : Int) ≤ 9223372036854775807) (hq62 : (((impl_StepScan v12 v13).1).Tiles).length ≤ 8) (n87 : Nat) (hl92 : n87 = (((spec_StepScan v12 v13).1).Tiles).length) (hl93 : (n87 : Int) ≤ 9223372036854775807) (hq94 : (((spec_StepScan v12 v13).1).Tiles).length ≤ 8) (h137 : ¬ (((!(((impl_StepScan v12 v13).2) == ((spec_StepScan v12 v13).2))) = true) ∨ ((¬ (((impl_StepScan v12 v13).1) = ((spec_StepScan v12 v13).1))) ∨ ((((impl_StepScan v12 v13).2) = true) ∧ (¬ (JobOK ((impl_StepScan v12 v13).1))))))) (hq139 : ¬ ((!(((impl_StepScan v12 v13).2) == ((spec_StepScan v12 v13).2))) = true)) (hq140 : ((impl_StepScan v12 v13).1) = ((spec_StepScan v12 v13).1)) (hq141 : ¬ ((((impl_StepScan v12 v13).2) = true) ∧ (¬ (JobOK ((impl_StepScan v12 v13).1))))) (h156 : ¬ ((((impl_StepScan v12 v13).2) = true) ∧ ((¬ ((((impl_StepScan v12 v13).1).Size) = (IntKind.i64.wrap (10 * (wsum (((impl_StepScan v12 v13).1).Tiles)))))) ∨ (¬ ((n55 : Int) = (n9 : Int)))))) (v173 : ScanJob) (v174 : List ScanStep) (hq175 : v173.Tiles.length ≤ 9) (hq176 : v174.length ≤ 60) (n165 : Nat) (hl179 : n165 = (v173.Tiles).length) (hl180 : (n165 : Int) ≤ 9223372036854775807) (n169 : Nat) (hl181 : n169 = (v174).length) (hl182 : (n169 : Int) ≤ 9223372036854775807) (n208 : Nat) (hl213 : n208 = (((runFJ v173 v174).1).Tiles).length) (hl214 : (n208 : Int) ≤ 9223372036854775807) (hq215 : (((runFJ v173 v174).1).Tiles).length ≤ 8) (n244 : Nat) (hl249 : n244 = (((runFJ v173 v174).1).Tiles).length) (hl250 : (n244 : Int) ≤ 9223372036854775807) (hq251 : (((runFJ v173 v174).1).Tiles).length ≤ 8) (h284 : ¬ (((runFJ v173 v174).1) = ((runFJ v173 v174).1))) : false = true := by
  first | exact decide_eq_true rfl | (exfalso; have hl := ‹ScLaw _ _›; unfold ScLaw at hl; first | (rcases ‹(!_ == _) = true ∨ _› with h | h | h; (rw [hl.1] at h; simp at h); exact h (by rw [hl.1]); exact h.2 (hl.2 h.1).1) | (rcases ‹¬ _ = IntKind.i64.wrap _ ∨ _› with h | h; exact h (hl.2 ‹_ = true›).2.1; have := (hl.2 ‹_ = true›).2.2; omega) | exact ‹¬ (runFJ _ _).1 = (runFJ _ _).1› rfl | (have hr := runFJ_end ‹(runFJ _ _).2.2 = true› (And.left (And.right ‹_ ∧ runToJ _ _ _ = _ ∧ _›)) (by omega); rcases ‹¬ _ = (runFJ _ _).2.1 ∨ _› with h | h; exact h hr.2.symm; exact h hr.1.symm))
theorem z_c_laws_FnScanJobs_314 (L : List UInt8) (nL : Nat) (hbdL : (nL : Int) ≤ 9223372036854775807) (hleL : nL = L.length) (h5 : ¬ (65536 < (L.length : Int))) (v12 : ScanJob) (v13 : ScanStep) (hq14 : v12.Tiles.length ≤ 9) (n9 : Nat) (hl17 : n9 = (v12.Tiles).length) (hl18 : (n9 : Int) ≤ 9223372036854775807) (hq19 : ScLaw v12 v13) (n55 : Nat) (hl60 : n55 = (((impl_StepScan v12 v13).1).Tiles).length) (hl61 : (n55 : Int) ≤ 9223372036854775807) (hq62 : (((impl_StepScan v12 v13).1).Tiles).length ≤ 8) (n87 : Nat) (hl92 : n87 = (((spec_StepScan v12 v13).1).Tiles).length) (hl93 : (n87 : Int) ≤ 9223372036854775807) (hq94 : (((spec_StepScan v12 v13).1).Tiles).length ≤ 8) (h137 : ¬ (((!(((impl_StepScan v12 v13).2) == ((spec_StepScan v12 v13).2))) = true) ∨ ((¬ (((impl_StepScan v12 v13).1) = ((spec_StepScan v12 v13).1))) ∨ ((((impl_StepScan v12 v13).2) = true) ∧ (¬ (JobOK ((impl_StepScan v12 v13).1))))))) (hq139 : ¬ ((!(((impl_StepScan v12 v13).2) == ((spec_StepScan v12 v13).2))) = true)) (hq140 : ((impl_StepScan v12 v13).1) = ((spec_StepScan v12 v13).1)) (hq141 : ¬ ((((impl_StepScan v12 v13).2) = true) ∧ (¬ (JobOK ((impl_StepScan v12 v13).1))))) (h156 : ¬ ((((impl_StepScan v12 v13).2) = true) ∧ ((¬ ((((impl_StepScan v12 v13).1).Size) = (IntKind.i64.wrap (10 * (wsum (((impl_StepScan v12 v13).1).Tiles)))))) ∨ (¬ ((n55 : Int) = (n9 : Int)))))) (v173 : ScanJob) (v174 : List ScanStep) (hq175 : v173.Tiles.length ≤ 9) (hq176 : v174.length ≤ 60) (n165 : Nat) (hl179 : n165 = (v173.Tiles).length) (hl180 : (n165 : Int) ≤ 9223372036854775807) (n169 : Nat) (hl181 : n169 = (v174).length) (hl182 : (n169 : Int) ≤ 9223372036854775807) (n208 : Nat) (hl213 : n208 = (((runFJ v173 v174).1).Tiles).length) (hl214 : (n208 : Int) ≤ 9223372036854775807) (hq215 : (((runFJ v173 v174).1).Tiles).length ≤ 8) (n244 : Nat) (hl249 : n244 = (((runFJ v173 v174).1).Tiles).length) (hl250 : (n244 : Int) ≤ 9223372036854775807) (hq251 : (((runFJ v173 v174).1).Tiles).length ≤ 8) (h284 : ((runFJ v173 v174).1) = ((runFJ v173 v174).1)) (h286 : ((runFJ v173 v174).2.2) = true) : (0 ≤ v174.length ∧ 0 ≤ (0 : Int) ∧ (0 : Int) ≤ (0 : Int)) ∧ runToJ v173 v174 0 = (v173, (0 : Int)) ∧ JobOK v173 := by
  exact ⟨by omega, rfl, (runFJ_told ‹(runFJ _ _).2.2 = true›).1⟩
theorem z_c_laws_FnScanJobs_442 (L : List UInt8) (nL : Nat) (hbdL : (nL : Int) ≤ 9223372036854775807) (hleL : nL = L.length) (h5 : ¬ (65536 < (L.length : Int))) (v12 : ScanJob) (v13 : ScanStep) (hq14 : v12.Tiles.length ≤ 9) (n9 : Nat) (hl17 : n9 = (v12.Tiles).length) (hl18 : (n9 : Int) ≤ 9223372036854775807) (hq19 : ScLaw v12 v13) (n55 : Nat) (hl60 : n55 = (((impl_StepScan v12 v13).1).Tiles).length) (hl61 : (n55 : Int) ≤ 9223372036854775807) (hq62 : (((impl_StepScan v12 v13).1).Tiles).length ≤ 8) (n87 : Nat) (hl92 : n87 = (((spec_StepScan v12 v13).1).Tiles).length) (hl93 : (n87 : Int) ≤ 9223372036854775807) (hq94 : (((spec_StepScan v12 v13).1).Tiles).length ≤ 8) (h137 : ¬ (((!(((impl_StepScan v12 v13).2) == ((spec_StepScan v12 v13).2))) = true) ∨ ((¬ (((impl_StepScan v12 v13).1) = ((spec_StepScan v12 v13).1))) ∨ ((((impl_StepScan v12 v13).2) = true) ∧ (¬ (JobOK ((impl_StepScan v12 v13).1))))))) (hq139 : ¬ ((!(((impl_StepScan v12 v13).2) == ((spec_StepScan v12 v13).2))) = true)) (hq140 : ((impl_StepScan v12 v13).1) = ((spec_StepScan v12 v13).1)) (hq141 : ¬ ((((impl_StepScan v12 v13).2) = true) ∧ (¬ (JobOK ((impl_StepScan v12 v13).1))))) (h156 : ¬ ((((impl_StepScan v12 v13).2) = true) ∧ ((¬ ((((impl_StepScan v12 v13).1).Size) = (IntKind.i64.wrap (10 * (wsum (((impl_StepScan v12 v13).1).Tiles)))))) ∨ (¬ ((n55 : Int) = (n9 : Int)))))) (v173 : ScanJob) (v174 : List ScanStep) (hq175 : v173.Tiles.length ≤ 9) (hq176 : v174.length ≤ 60) (n165 : Nat) (hl179 : n165 = (v173.Tiles).length) (hl180 : (n165 : Int) ≤ 9223372036854775807) (n169 : Nat) (hl181 : n169 = (v174).length) (hl182 : (n169 : Int) ≤ 9223372036854775807) (n208 : Nat) (hl213 : n208 = (((runFJ v173 v174).1).Tiles).length) (hl214 : (n208 : Int) ≤ 9223372036854775807) (hq215 : (((runFJ v173 v174).1).Tiles).length ≤ 8) (n244 : Nat) (hl249 : n244 = (((runFJ v173 v174).1).Tiles).length) (hl250 : (n244 : Int) ≤ 9223372036854775807) (hq251 : (((runFJ v173 v174).1).Tiles).length ≤ 8) (h284 : ((runFJ v173 v174).1) = ((runFJ v173 v174).1)) (h286 : ((runFJ v173 v174).2.2) = true) (k : Nat) (o : ScanJob) (m : Int) (n313 : Nat) (c313 : Nat) (hi325 : (k ≤ v174.length ∧ 0 ≤ m ∧ m ≤ (k : Int)) ∧ runToJ v173 v174 k = (o, m) ∧ JobOK o) (hl332 : n313 = (o.Tiles).length) (hq334 : 0 ≤ m ∧ m ≤ (k : Int)) (hq335 : JobOK o) (hq336 : o.Tiles.length ≤ 8) (h337 : (k : Int) < (n169 : Int)) (n347 : Nat) (hx343 : v174[k]? = some (gt v174 k)) (hl353 : n347 = (((impl_StepScan o (gt v174 k)).1).Tiles).length) (hl354 : (n347 : Int) ≤ 9223372036854775807) (hq355 : (((impl_StepScan o (gt v174 k)).1).Tiles).length ≤ 8) (h431 : ((impl_StepScan o (gt v174 k)).2) = true) : (k + 1 ≤ v174.length ∧ 0 ≤ m + 1 ∧ m + 1 ≤ (k + 1 : Int)) ∧ runToJ v173 v174 (k + 1) = (((impl_StepScan o (gt v174 k)).1), m + 1) ∧ JobOK ((impl_StepScan o (gt v174 k)).1) := by
  have hh := ‹_ ∧ runToJ _ _ _ = _ ∧ _›
  first | exact ⟨by omega, runJ_yesI hh.2.1 ‹_[k]? = some _› ‹_›⟩ | exact ⟨by omega, runJ_noI hh.2.1 hh.2.2 ‹_[k]? = some _› ‹_›, hh.2.2⟩
theorem z_c_laws_FnScanJobs_443 (L : List UInt8) (nL : Nat) (hbdL : (nL : Int) ≤ 9223372036854775807) (hleL : nL = L.length) (h5 : ¬ (65536 < (L.length : Int))) (v12 : ScanJob) (v13 : ScanStep) (hq14 : v12.Tiles.length ≤ 9) (n9 : Nat) (hl17 : n9 = (v12.Tiles).length) (hl18 : (n9 : Int) ≤ 9223372036854775807) (hq19 : ScLaw v12 v13) (n55 : Nat) (hl60 : n55 = (((impl_StepScan v12 v13).1).Tiles).length) (hl61 : (n55 : Int) ≤ 9223372036854775807) (hq62 : (((impl_StepScan v12 v13).1).Tiles).length ≤ 8) (n87 : Nat) (hl92 : n87 = (((spec_StepScan v12 v13).1).Tiles).length) (hl93 : (n87 : Int) ≤ 9223372036854775807) (hq94 : (((spec_StepScan v12 v13).1).Tiles).length ≤ 8) (h137 : ¬ (((!(((impl_StepScan v12 v13).2) == ((spec_StepScan v12 v13).2))) = true) ∨ ((¬ (((impl_StepScan v12 v13).1) = ((spec_StepScan v12 v13).1))) ∨ ((((impl_StepScan v12 v13).2) = true) ∧ (¬ (JobOK ((impl_StepScan v12 v13).1))))))) (hq139 : ¬ ((!(((impl_StepScan v12 v13).2) == ((spec_StepScan v12 v13).2))) = true)) (hq140 : ((impl_StepScan v12 v13).1) = ((spec_StepScan v12 v13).1)) (hq141 : ¬ ((((impl_StepScan v12 v13).2) = true) ∧ (¬ (JobOK ((impl_StepScan v12 v13).1))))) (h156 : ¬ ((((impl_StepScan v12 v13).2) = true) ∧ ((¬ ((((impl_StepScan v12 v13).1).Size) = (IntKind.i64.wrap (10 * (wsum (((impl_StepScan v12 v13).1).Tiles)))))) ∨ (¬ ((n55 : Int) = (n9 : Int)))))) (v173 : ScanJob) (v174 : List ScanStep) (hq175 : v173.Tiles.length ≤ 9) (hq176 : v174.length ≤ 60) (n165 : Nat) (hl179 : n165 = (v173.Tiles).length) (hl180 : (n165 : Int) ≤ 9223372036854775807) (n169 : Nat) (hl181 : n169 = (v174).length) (hl182 : (n169 : Int) ≤ 9223372036854775807) (n208 : Nat) (hl213 : n208 = (((runFJ v173 v174).1).Tiles).length) (hl214 : (n208 : Int) ≤ 9223372036854775807) (hq215 : (((runFJ v173 v174).1).Tiles).length ≤ 8) (n244 : Nat) (hl249 : n244 = (((runFJ v173 v174).1).Tiles).length) (hl250 : (n244 : Int) ≤ 9223372036854775807) (hq251 : (((runFJ v173 v174).1).Tiles).length ≤ 8) (h284 : ((runFJ v173 v174).1) = ((runFJ v173 v174).1)) (h286 : ((runFJ v173 v174).2.2) = true) (k : Nat) (o : ScanJob) (m : Int) (n313 : Nat) (c313 : Nat) (hi325 : (k ≤ v174.length ∧ 0 ≤ m ∧ m ≤ (k : Int)) ∧ runToJ v173 v174 k = (o, m) ∧ JobOK o) (hl332 : n313 = (o.Tiles).length) (hq334 : 0 ≤ m ∧ m ≤ (k : Int)) (hq335 : JobOK o) (hq336 : o.Tiles.length ≤ 8) (h337 : (k : Int) < (n169 : Int)) (n347 : Nat) (hx343 : v174[k]? = some (gt v174 k)) (hl353 : n347 = (((impl_StepScan o (gt v174 k)).1).Tiles).length) (hl354 : (n347 : Int) ≤ 9223372036854775807) (hq355 : (((impl_StepScan o (gt v174 k)).1).Tiles).length ≤ 8) (h431 : ((impl_StepScan o (gt v174 k)).2) = true) : 60 - (k + 1) < 60 - k := by
  omega
theorem z_c_laws_FnScanJobs_444 (L : List UInt8) (nL : Nat) (hbdL : (nL : Int) ≤ 9223372036854775807) (hleL : nL = L.length) (h5 : ¬ (65536 < (L.length : Int))) (v12 : ScanJob) (v13 : ScanStep) (hq14 : v12.Tiles.length ≤ 9) (n9 : Nat) (hl17 : n9 = (v12.Tiles).length) (hl18 : (n9 : Int) ≤ 9223372036854775807) (hq19 : ScLaw v12 v13) (n55 : Nat) (hl60 : n55 = (((impl_StepScan v12 v13).1).Tiles).length) (hl61 : (n55 : Int) ≤ 9223372036854775807) (hq62 : (((impl_StepScan v12 v13).1).Tiles).length ≤ 8) (n87 : Nat) (hl92 : n87 = (((spec_StepScan v12 v13).1).Tiles).length) (hl93 : (n87 : Int) ≤ 9223372036854775807) (hq94 : (((spec_StepScan v12 v13).1).Tiles).length ≤ 8) (h137 : ¬ (((!(((impl_StepScan v12 v13).2) == ((spec_StepScan v12 v13).2))) = true) ∨ ((¬ (((impl_StepScan v12 v13).1) = ((spec_StepScan v12 v13).1))) ∨ ((((impl_StepScan v12 v13).2) = true) ∧ (¬ (JobOK ((impl_StepScan v12 v13).1))))))) (hq139 : ¬ ((!(((impl_StepScan v12 v13).2) == ((spec_StepScan v12 v13).2))) = true)) (hq140 : ((impl_StepScan v12 v13).1) = ((spec_StepScan v12 v13).1)) (hq141 : ¬ ((((impl_StepScan v12 v13).2) = true) ∧ (¬ (JobOK ((impl_StepScan v12 v13).1))))) (h156 : ¬ ((((impl_StepScan v12 v13).2) = true) ∧ ((¬ ((((impl_StepScan v12 v13).1).Size) = (IntKind.i64.wrap (10 * (wsum (((impl_StepScan v12 v13).1).Tiles)))))) ∨ (¬ ((n55 : Int) = (n9 : Int)))))) (v173 : ScanJob) (v174 : List ScanStep) (hq175 : v173.Tiles.length ≤ 9) (hq176 : v174.length ≤ 60) (n165 : Nat) (hl179 : n165 = (v173.Tiles).length) (hl180 : (n165 : Int) ≤ 9223372036854775807) (n169 : Nat) (hl181 : n169 = (v174).length) (hl182 : (n169 : Int) ≤ 9223372036854775807) (n208 : Nat) (hl213 : n208 = (((runFJ v173 v174).1).Tiles).length) (hl214 : (n208 : Int) ≤ 9223372036854775807) (hq215 : (((runFJ v173 v174).1).Tiles).length ≤ 8) (n244 : Nat) (hl249 : n244 = (((runFJ v173 v174).1).Tiles).length) (hl250 : (n244 : Int) ≤ 9223372036854775807) (hq251 : (((runFJ v173 v174).1).Tiles).length ≤ 8) (h284 : ((runFJ v173 v174).1) = ((runFJ v173 v174).1)) (h286 : ((runFJ v173 v174).2.2) = true) (k : Nat) (o : ScanJob) (m : Int) (n313 : Nat) (c313 : Nat) (hi325 : (k ≤ v174.length ∧ 0 ≤ m ∧ m ≤ (k : Int)) ∧ runToJ v173 v174 k = (o, m) ∧ JobOK o) (hl332 : n313 = (o.Tiles).length) (hq334 : 0 ≤ m ∧ m ≤ (k : Int)) (hq335 : JobOK o) (hq336 : o.Tiles.length ≤ 8) (h337 : (k : Int) < (n169 : Int)) (n347 : Nat) (hx343 : v174[k]? = some (gt v174 k)) (hl353 : n347 = (((impl_StepScan o (gt v174 k)).1).Tiles).length) (hl354 : (n347 : Int) ≤ 9223372036854775807) (hq355 : (((impl_StepScan o (gt v174 k)).1).Tiles).length ≤ 8) (h431 : ((impl_StepScan o (gt v174 k)).2) = false) : (k + 1 ≤ v174.length ∧ 0 ≤ m ∧ m ≤ (k + 1 : Int)) ∧ runToJ v173 v174 (k + 1) = (o, m) ∧ JobOK o := by
  have hh := ‹_ ∧ runToJ _ _ _ = _ ∧ _›
  first | exact ⟨by omega, runJ_yesI hh.2.1 ‹_[k]? = some _› ‹_›⟩ | exact ⟨by omega, runJ_noI hh.2.1 hh.2.2 ‹_[k]? = some _› ‹_›, hh.2.2⟩
theorem z_c_laws_FnScanJobs_445 (L : List UInt8) (nL : Nat) (hbdL : (nL : Int) ≤ 9223372036854775807) (hleL : nL = L.length) (h5 : ¬ (65536 < (L.length : Int))) (v12 : ScanJob) (v13 : ScanStep) (hq14 : v12.Tiles.length ≤ 9) (n9 : Nat) (hl17 : n9 = (v12.Tiles).length) (hl18 : (n9 : Int) ≤ 9223372036854775807) (hq19 : ScLaw v12 v13) (n55 : Nat) (hl60 : n55 = (((impl_StepScan v12 v13).1).Tiles).length) (hl61 : (n55 : Int) ≤ 9223372036854775807) (hq62 : (((impl_StepScan v12 v13).1).Tiles).length ≤ 8) (n87 : Nat) (hl92 : n87 = (((spec_StepScan v12 v13).1).Tiles).length) (hl93 : (n87 : Int) ≤ 9223372036854775807) (hq94 : (((spec_StepScan v12 v13).1).Tiles).length ≤ 8) (h137 : ¬ (((!(((impl_StepScan v12 v13).2) == ((spec_StepScan v12 v13).2))) = true) ∨ ((¬ (((impl_StepScan v12 v13).1) = ((spec_StepScan v12 v13).1))) ∨ ((((impl_StepScan v12 v13).2) = true) ∧ (¬ (JobOK ((impl_StepScan v12 v13).1))))))) (hq139 : ¬ ((!(((impl_StepScan v12 v13).2) == ((spec_StepScan v12 v13).2))) = true)) (hq140 : ((impl_StepScan v12 v13).1) = ((spec_StepScan v12 v13).1)) (hq141 : ¬ ((((impl_StepScan v12 v13).2) = true) ∧ (¬ (JobOK ((impl_StepScan v12 v13).1))))) (h156 : ¬ ((((impl_StepScan v12 v13).2) = true) ∧ ((¬ ((((impl_StepScan v12 v13).1).Size) = (IntKind.i64.wrap (10 * (wsum (((impl_StepScan v12 v13).1).Tiles)))))) ∨ (¬ ((n55 : Int) = (n9 : Int)))))) (v173 : ScanJob) (v174 : List ScanStep) (hq175 : v173.Tiles.length ≤ 9) (hq176 : v174.length ≤ 60) (n165 : Nat) (hl179 : n165 = (v173.Tiles).length) (hl180 : (n165 : Int) ≤ 9223372036854775807) (n169 : Nat) (hl181 : n169 = (v174).length) (hl182 : (n169 : Int) ≤ 9223372036854775807) (n208 : Nat) (hl213 : n208 = (((runFJ v173 v174).1).Tiles).length) (hl214 : (n208 : Int) ≤ 9223372036854775807) (hq215 : (((runFJ v173 v174).1).Tiles).length ≤ 8) (n244 : Nat) (hl249 : n244 = (((runFJ v173 v174).1).Tiles).length) (hl250 : (n244 : Int) ≤ 9223372036854775807) (hq251 : (((runFJ v173 v174).1).Tiles).length ≤ 8) (h284 : ((runFJ v173 v174).1) = ((runFJ v173 v174).1)) (h286 : ((runFJ v173 v174).2.2) = true) (k : Nat) (o : ScanJob) (m : Int) (n313 : Nat) (c313 : Nat) (hi325 : (k ≤ v174.length ∧ 0 ≤ m ∧ m ≤ (k : Int)) ∧ runToJ v173 v174 k = (o, m) ∧ JobOK o) (hl332 : n313 = (o.Tiles).length) (hq334 : 0 ≤ m ∧ m ≤ (k : Int)) (hq335 : JobOK o) (hq336 : o.Tiles.length ≤ 8) (h337 : (k : Int) < (n169 : Int)) (n347 : Nat) (hx343 : v174[k]? = some (gt v174 k)) (hl353 : n347 = (((impl_StepScan o (gt v174 k)).1).Tiles).length) (hl354 : (n347 : Int) ≤ 9223372036854775807) (hq355 : (((impl_StepScan o (gt v174 k)).1).Tiles).length ≤ 8) (h431 : ((impl_StepScan o (gt v174 k)).2) = false) : 60 - (k + 1) < 60 - k := by
  omega
theorem z_c_laws_FnScanJobs_458 (L : List UInt8) (nL : Nat) (hbdL : (nL : Int) ≤ 9223372036854775807) (hleL : nL = L.length) (h5 : ¬ (65536 < (L.length : Int))) (v12 : ScanJob) (v13 : ScanStep) (hq14 : v12.Tiles.length ≤ 9) (n9 : Nat) (hl17 : n9 = (v12.Tiles).length) (hl18 : (n9 : Int) ≤ 9223372036854775807) (hq19 : ScLaw v12 v13) (n55 : Nat) (hl60 : n55 = (((impl_StepScan v12 v13).1).Tiles).length) (hl61 : (n55 : Int) ≤ 9223372036854775807) (hq62 : (((impl_StepScan v12 v13).1).Tiles).length ≤ 8) (n87 : Nat) (hl92 : n87 = (((spec_StepScan v12 v13).1).Tiles).length) (hl93 : (n87 : Int) ≤ 9223372036854775807) (hq94 : (((spec_StepScan v12 v13).1).Tiles).length ≤ 8) (h137 : ¬ (((!(((impl_StepScan v12 v13).2) == ((spec_StepScan v12 v13).2))) = true) ∨ ((¬ (((impl_StepScan v12 v13).1) = ((spec_StepScan v12 v13).1))) ∨ ((((impl_StepScan v12 v13).2) = true) ∧ (¬ (JobOK ((impl_StepScan v12 v13).1))))))) (hq139 : ¬ ((!(((impl_StepScan v12 v13).2) == ((spec_StepScan v12 v13).2))) = true)) (hq140 : ((impl_StepScan v12 v13).1) = ((spec_StepScan v12 v13).1)) (hq141 : ¬ ((((impl_StepScan v12 v13).2) = true) ∧ (¬ (JobOK ((impl_StepScan v12 v13).1))))) (h156 : ¬ ((((impl_StepScan v12 v13).2) = true) ∧ ((¬ ((((impl_StepScan v12 v13).1).Size) = (IntKind.i64.wrap (10 * (wsum (((impl_StepScan v12 v13).1).Tiles)))))) ∨ (¬ ((n55 : Int) = (n9 : Int)))))) (v173 : ScanJob) (v174 : List ScanStep) (hq175 : v173.Tiles.length ≤ 9) (hq176 : v174.length ≤ 60) (n165 : Nat) (hl179 : n165 = (v173.Tiles).length) (hl180 : (n165 : Int) ≤ 9223372036854775807) (n169 : Nat) (hl181 : n169 = (v174).length) (hl182 : (n169 : Int) ≤ 9223372036854775807) (n208 : Nat) (hl213 : n208 = (((runFJ v173 v174).1).Tiles).length) (hl214 : (n208 : Int) ≤ 9223372036854775807) (hq215 : (((runFJ v173 v174).1).Tiles).length ≤ 8) (n244 : Nat) (hl249 : n244 = (((runFJ v173 v174).1).Tiles).length) (hl250 : (n244 : Int) ≤ 9223372036854775807) (hq251 : (((runFJ v173 v174).1).Tiles).length ≤ 8) (h284 : ((runFJ v173 v174).1) = ((runFJ v173 v174).1)) (h286 : ((runFJ v173 v174).2.2) = true) (k : Nat) (o : ScanJob) (m : Int) (n313 : Nat) (c313 : Nat) (hi325 : (k ≤ v174.length ∧ 0 ≤ m ∧ m ≤ (k : Int)) ∧ runToJ v173 v174 k = (o, m) ∧ JobOK o) (hl332 : n313 = (o.Tiles).length) (hq334 : 0 ≤ m ∧ m ≤ (k : Int)) (hq335 : JobOK o) (hq336 : o.Tiles.length ≤ 8) (h337 : ¬ ((k : Int) < (n169 : Int))) (h457 : (¬ (m = ((runFJ v173 v174).2.1))) ∨ (¬ (o = ((runFJ v173 v174).1)))) : false = true := by
  first | exact decide_eq_true rfl | (exfalso; have hl := ‹ScLaw _ _›; unfold ScLaw at hl; first | (rcases ‹(!_ == _) = true ∨ _› with h | h | h; (rw [hl.1] at h; simp at h); exact h (by rw [hl.1]); exact h.2 (hl.2 h.1).1) | (rcases ‹¬ _ = IntKind.i64.wrap _ ∨ _› with h | h; exact h (hl.2 ‹_ = true›).2.1; have := (hl.2 ‹_ = true›).2.2; omega) | exact ‹¬ (runFJ _ _).1 = (runFJ _ _).1› rfl | (have hr := runFJ_end ‹(runFJ _ _).2.2 = true› (And.left (And.right ‹_ ∧ runToJ _ _ _ = _ ∧ _›)) (by omega); rcases ‹¬ _ = (runFJ _ _).2.1 ∨ _› with h | h; exact h hr.2.symm; exact h hr.1.symm))
theorem z_c_laws_FnScanJobs_533 (L : List UInt8) (nL : Nat) (hbdL : (nL : Int) ≤ 9223372036854775807) (hleL : nL = L.length) (h5 : ¬ (65536 < (L.length : Int))) (v12 : ScanJob) (v13 : ScanStep) (hq14 : v12.Tiles.length ≤ 9) (n9 : Nat) (hl17 : n9 = (v12.Tiles).length) (hl18 : (n9 : Int) ≤ 9223372036854775807) (hq19 : ScLaw v12 v13) (n55 : Nat) (hl60 : n55 = (((impl_StepScan v12 v13).1).Tiles).length) (hl61 : (n55 : Int) ≤ 9223372036854775807) (hq62 : (((impl_StepScan v12 v13).1).Tiles).length ≤ 8) (n87 : Nat) (hl92 : n87 = (((spec_StepScan v12 v13).1).Tiles).length) (hl93 : (n87 : Int) ≤ 9223372036854775807) (hq94 : (((spec_StepScan v12 v13).1).Tiles).length ≤ 8) (h137 : ¬ (((!(((impl_StepScan v12 v13).2) == ((spec_StepScan v12 v13).2))) = true) ∨ ((¬ (((impl_StepScan v12 v13).1) = ((spec_StepScan v12 v13).1))) ∨ ((((impl_StepScan v12 v13).2) = true) ∧ (¬ (JobOK ((impl_StepScan v12 v13).1))))))) (hq139 : ¬ ((!(((impl_StepScan v12 v13).2) == ((spec_StepScan v12 v13).2))) = true)) (hq140 : ((impl_StepScan v12 v13).1) = ((spec_StepScan v12 v13).1)) (hq141 : ¬ ((((impl_StepScan v12 v13).2) = true) ∧ (¬ (JobOK ((impl_StepScan v12 v13).1))))) (h156 : ¬ ((((impl_StepScan v12 v13).2) = true) ∧ ((¬ ((((impl_StepScan v12 v13).1).Size) = (IntKind.i64.wrap (10 * (wsum (((impl_StepScan v12 v13).1).Tiles)))))) ∨ (¬ ((n55 : Int) = (n9 : Int)))))) (v173 : ScanJob) (v174 : List ScanStep) (hq175 : v173.Tiles.length ≤ 9) (hq176 : v174.length ≤ 60) (n165 : Nat) (hl179 : n165 = (v173.Tiles).length) (hl180 : (n165 : Int) ≤ 9223372036854775807) (n169 : Nat) (hl181 : n169 = (v174).length) (hl182 : (n169 : Int) ≤ 9223372036854775807) (n208 : Nat) (hl213 : n208 = (((runFJ v173 v174).1).Tiles).length) (hl214 : (n208 : Int) ≤ 9223372036854775807) (hq215 : (((runFJ v173 v174).1).Tiles).length ≤ 8) (n244 : Nat) (hl249 : n244 = (((runFJ v173 v174).1).Tiles).length) (hl250 : (n244 : Int) ≤ 9223372036854775807) (hq251 : (((runFJ v173 v174).1).Tiles).length ≤ 8) (h284 : ((runFJ v173 v174).1) = ((runFJ v173 v174).1)) (h286 : ((runFJ v173 v174).2.2) = true) (k : Nat) (o : ScanJob) (m : Int) (n313 : Nat) (c313 : Nat) (hi325 : (k ≤ v174.length ∧ 0 ≤ m ∧ m ≤ (k : Int)) ∧ runToJ v173 v174 k = (o, m) ∧ JobOK o) (hl332 : n313 = (o.Tiles).length) (hq334 : 0 ≤ m ∧ m ≤ (k : Int)) (hq335 : JobOK o) (hq336 : o.Tiles.length ≤ 8) (h337 : ¬ ((k : Int) < (n169 : Int))) (h457 : ¬ ((¬ (m = ((runFJ v173 v174).2.1))) ∨ (¬ (o = ((runFJ v173 v174).1))))) (hq459 : m = ((runFJ v173 v174).2.1)) (hq460 : o = ((runFJ v173 v174).1)) (v463 : Int) (n469 : Nat) (hl474 : n469 = (((newJ v463).1).Tiles).length) (hl475 : (n469 : Int) ≤ 9223372036854775807) (hq476 : (newJ v463).1.Tiles.length ≤ 8) (n499 : Nat) (hl504 : n499 = (((newJ v463).1).Tiles).length) (hl505 : (n499 : Int) ≤ 9223372036854775807) (hq506 : (newJ v463).1.Tiles.length ≤ 8) : decide (((newJ v463).1) = ((newJ v463).1)) = true := by
  first | exact decide_eq_true rfl | (exfalso; have hl := ‹ScLaw _ _›; unfold ScLaw at hl; first | (rcases ‹(!_ == _) = true ∨ _› with h | h | h; (rw [hl.1] at h; simp at h); exact h (by rw [hl.1]); exact h.2 (hl.2 h.1).1) | (rcases ‹¬ _ = IntKind.i64.wrap _ ∨ _› with h | h; exact h (hl.2 ‹_ = true›).2.1; have := (hl.2 ‹_ = true›).2.2; omega) | exact ‹¬ (runFJ _ _).1 = (runFJ _ _).1› rfl | (have hr := runFJ_end ‹(runFJ _ _).2.2 = true› (And.left (And.right ‹_ ∧ runToJ _ _ _ = _ ∧ _›)) (by omega); rcases ‹¬ _ = (runFJ _ _).2.1 ∨ _› with h | h; exact h hr.2.symm; exact h hr.1.symm))
theorem z_c_laws_FnScanJobs_614 (L : List UInt8) (nL : Nat) (hbdL : (nL : Int) ≤ 9223372036854775807) (hleL : nL = L.length) (h5 : ¬ (65536 < (L.length : Int))) (v12 : ScanJob) (v13 : ScanStep) (hq14 : v12.Tiles.length ≤ 9) (n9 : Nat) (hl17 : n9 = (v12.Tiles).length) (hl18 : (n9 : Int) ≤ 9223372036854775807) (hq19 : ScLaw v12 v13) (n55 : Nat) (hl60 : n55 = (((impl_StepScan v12 v13).1).Tiles).length) (hl61 : (n55 : Int) ≤ 9223372036854775807) (hq62 : (((impl_StepScan v12 v13).1).Tiles).length ≤ 8) (n87 : Nat) (hl92 : n87 = (((spec_StepScan v12 v13).1).Tiles).length) (hl93 : (n87 : Int) ≤ 9223372036854775807) (hq94 : (((spec_StepScan v12 v13).1).Tiles).length ≤ 8) (h137 : ¬ (((!(((impl_StepScan v12 v13).2) == ((spec_StepScan v12 v13).2))) = true) ∨ ((¬ (((impl_StepScan v12 v13).1) = ((spec_StepScan v12 v13).1))) ∨ ((((impl_StepScan v12 v13).2) = true) ∧ (¬ (JobOK ((impl_StepScan v12 v13).1))))))) (hq139 : ¬ ((!(((impl_StepScan v12 v13).2) == ((spec_StepScan v12 v13).2))) = true)) (hq140 : ((impl_StepScan v12 v13).1) = ((spec_StepScan v12 v13).1)) (hq141 : ¬ ((((impl_StepScan v12 v13).2) = true) ∧ (¬ (JobOK ((impl_StepScan v12 v13).1))))) (h156 : ¬ ((((impl_StepScan v12 v13).2) = true) ∧ ((¬ ((((impl_StepScan v12 v13).1).Size) = (IntKind.i64.wrap (10 * (wsum (((impl_StepScan v12 v13).1).Tiles)))))) ∨ (¬ ((n55 : Int) = (n9 : Int)))))) (v173 : ScanJob) (v174 : List ScanStep) (hq175 : v173.Tiles.length ≤ 9) (hq176 : v174.length ≤ 60) (n165 : Nat) (hl179 : n165 = (v173.Tiles).length) (hl180 : (n165 : Int) ≤ 9223372036854775807) (n169 : Nat) (hl181 : n169 = (v174).length) (hl182 : (n169 : Int) ≤ 9223372036854775807) (n208 : Nat) (hl213 : n208 = (((runFJ v173 v174).1).Tiles).length) (hl214 : (n208 : Int) ≤ 9223372036854775807) (hq215 : (((runFJ v173 v174).1).Tiles).length ≤ 8) (n244 : Nat) (hl249 : n244 = (((runFJ v173 v174).1).Tiles).length) (hl250 : (n244 : Int) ≤ 9223372036854775807) (hq251 : (((runFJ v173 v174).1).Tiles).length ≤ 8) (h284 : ((runFJ v173 v174).1) = ((runFJ v173 v174).1)) (h286 : ((runFJ v173 v174).2.2) = false) (v536 : Int) (n542 : Nat) (hl547 : n542 = (((newJ v536).1).Tiles).length) (hl548 : (n542 : Int) ≤ 9223372036854775807) (hq549 : (newJ v536).1.Tiles.length ≤ 8) (n576 : Nat) (hl581 : n576 = (((newJ v536).1).Tiles).length) (hl582 : (n576 : Int) ≤ 9223372036854775807) (hq583 : (newJ v536).1.Tiles.length ≤ 8) : decide (((newJ v536).1) = ((newJ v536).1)) = true := by
  first | exact decide_eq_true rfl | (exfalso; have hl := ‹ScLaw _ _›; unfold ScLaw at hl; first | (rcases ‹(!_ == _) = true ∨ _› with h | h | h; (rw [hl.1] at h; simp at h); exact h (by rw [hl.1]); exact h.2 (hl.2 h.1).1) | (rcases ‹¬ _ = IntKind.i64.wrap _ ∨ _› with h | h; exact h (hl.2 ‹_ = true›).2.1; have := (hl.2 ‹_ = true›).2.2; omega) | exact ‹¬ (runFJ _ _).1 = (runFJ _ _).1› rfl | (have hr := runFJ_end ‹(runFJ _ _).2.2 = true› (And.left (And.right ‹_ ∧ runToJ _ _ _ = _ ∧ _›)) (by omega); rcases ‹¬ _ = (runFJ _ _).2.1 ∨ _› with h | h; exact h hr.2.symm; exact h hr.1.symm))
theorem c_laws_FnScanJobs (w : World) {AL : Option Addr} {nL cL BL : Nat}  (L : List UInt8) (hL : SlR w BL encB 1 AL nL cL L) : Calls Try.prog 7 #[.slice AL nL cL] w fun e w' => e = .returned (.bool true) ∧ Lo w w' := by
  refine calls_W 172 Try.func7 rfl rfl rfl ?_
  have hbdL := hL.bound
  have hleL := hL.len
  have hBbL := hL.bd
  refine W.seq ?_
  refine W.regS (SR.q' (r_as (v := .bool false) rfl) <| SR.nil ?_)
  refine W.seq ?_
  refine W.seq ?_
  refine W.regS (SR.q' (r_mv (v := .slice _ _ _) rfl) <| SR.call ent37 (c_laws_vBig w L ((hL))) rfl ?_)
  rintro e w1 ⟨rfl, hk2⟩
  refine ⟨_, rfl, ?_⟩
  have hz3 := hk2.size
  have hB4 := (Lo.refl w).lo hk2
  refine SR.nil ?_
  refine W.cond_d rfl (fun h5 => ?_) (fun h5 => ?_)
  · refine W.seq ?_
    refine W.regS (SR.q' (r_as (v := .bool true) rfl) <| SR.nil ?_)
    refine W.ret ?_
    refine ret1 rfl (v := .bool _) rfl ?_
    exact ⟨eR rfl, hB4⟩
  · refine W.skip ?_
    refine W.seq ?_
    refine W.regS (SR.q' (r_mv (v := .slice _ _ _) rfl) <| SR.call ent38 (c_spec_DrawStepScan w1 L (((hL).lo hk2)) (by omega)) rfl ?_)
    rintro e w6 ⟨A8, n9, c10, v12, v13, rfl, hO11, hq14, hk7⟩
    refine ⟨_, rfl, ?_⟩
    have hz15 := hk7.size
    have hB16 := hB4.lo hk7
    have hl17 := hO11.len
    have hl18 := hO11.rd.bound
    have hq19 : ScLaw v12 v13 := sc_law v12 v13
    refine SR.q' (r_mv (v := .tuple (List.toArray _)) rfl) <| SR.q' (r_ext (v := .agg (List.toArray _)) rfl rfl) <| SR.q' (r_ext (v := .agg (List.toArray _)) rfl rfl) <| SR.alloc (l := [.int .i64 0, .slice none 0 0, .int .i64 0, .int .i64 0, .int .i64 0]) tz41 rfl ?_
    intro g20 w21 hg22 hk23 hs24 hb25
    have hz26 := hk23.size
    have hB27 := hB16.lo hk23
    have hd28 : ¬ A8 = some ⟨g20, 0, none⟩ := fun e' => by have := (hO11).base_le e'; omega
    refine SR.alloc (l := [.int .i64 0, .int .i64 0]) tz45 rfl ?_
    intro g29 w30 hg31 hk32 hs33 hb34
    have hz35 := hk32.size
    have hB36 := hB27.lo hk32
    have hd37 : ¬ A8 = some ⟨g29, 0, none⟩ := fun e' => by have := ((hO11).lo hk23).base_le e'; omega
    refine SR.store (o := 0) (vs := [.int .i64 v12.State, .slice A8 n9 c10, .int .i64 v12.Next, .int .i64 v12.Fails, .int .i64 v12.Size]) agg41.2 rfl rfl rfl rfl ((hb25).lo hk32) (Nat.le_of_ble_eq_true rfl) rfl ?_
    intro w38 hk39 hs40 hb41
    have hz42 := hk39.size
    have hB43 := hB36.new hk39 (by omega)
    refine SR.store (o := 0) (vs := [.int .i64 v13.Kind, .int .i64 v13.Value]) agg45.2 rfl rfl rfl rfl ((hb34).kp hk39 (fun e' => by have e'' : g29 = g20 := e'; omega)) (Nat.le_of_ble_eq_true rfl) rfl ?_
    intro w44 hk45 hs46 hb47
    have hz48 := hk45.size
    have hB49 := hB43.new hk45 (by omega)
    refine SR.nil ?_
    refine W.seq ?_
    have hm50 := ((((((hL).lo hk2).lo hk7).lo hk23).lo hk32).kp hk39 (fun b_ hb e' => by have e'' : b_ = g20 := e'; omega)).kp hk45 (fun b_ hb e' => by have e'' : b_ = g29 := e'; omega)
    have hm51 := ((((hO11).lo hk23).lo hk32).kp hk39 (fun b_ hb e' => hd28 (by have e'' : b_ = g20 := e'; rw [← e'']; exact hb))).kp hk45 (fun b_ hb e' => hd37 (by have e'' : b_ = g29 := e'; rw [← e'']; exact hb))
    refine W.regS (SR.q' (r_lda (l := [.int .i64 v12.State, .slice A8 n9 c10, .int .i64 v12.Next, .int .i64 v12.Fails, .int .i64 v12.Size]) agg41 rfl (fun _ _ hu => ((hb41).kp hk45 (fun e' => by have e'' : g20 = g29 := e'; omega)).cell hu) rfl) <| SR.q' (r_lda (l := [.int .i64 v13.Kind, .int .i64 v13.Value]) agg45 rfl (fun _ _ hu => (hb47).cell hu) rfl) <| SR.call ent21 (c_impl_StepScan w44 v12 (((hm51).rd)) v13) rfl ?_)
    rintro e w52 ⟨A54, n55, c56, rfl, hO57, hk53⟩
    refine ⟨_, rfl, ?_⟩
    have hz58 := hk53.size
    have hB59 := hB49.lo hk53
    have hl60 := hO57.len
    have hl61 := hO57.rd.bound
    have hq62 := step_lenJ v12 v13
    refine SR.q' (r_mv (v := .tuple (List.toArray _)) rfl) <| SR.q' (r_ext (v := .agg (List.toArray _)) rfl rfl) <| SR.q' (r_ext (v := .bool _) rfl rfl) <| SR.alloc (l := [.int .i64 0, .slice none 0 0, .int .i64 0, .int .i64 0, .int .i64 0]) tz41 rfl ?_
    intro g63 w64 hg65 hk66 hs67 hb68
    have hz69 := hk66.size
    have hB70 := hB59.lo hk66
    have hd71 : ¬ A8 = some ⟨g63, 0, none⟩ := fun e' => by have := ((hm51).lo hk53).base_le e'; omega
    have hd72 : ¬ A54 = some ⟨g63, 0, none⟩ := fun e' => by have := (hO57).base_le e'; omega
    refine SR.store (o := 0) (vs := [.int .i64 (((impl_StepScan v12 v13).1).State), .slice A54 n55 c56, .int .i64 (((impl_StepScan v12 v13).1).Next), .int .i64 (((impl_StepScan v12 v13).1).Fails), .int .i64 (((impl_StepScan v12 v13).1).Size)]) agg41.2 rfl rfl rfl rfl (hb68) (Nat.le_of_ble_eq_true rfl) rfl ?_
    intro w73 hk74 hs75 hb76
    have hz77 := hk74.size
    have hB78 := hB70.new hk74 (by omega)
    refine SR.q' (r_as (v := .bool _) rfl) <| SR.nil ?_
    refine W.seq ?_
    refine W.seq ?_
    have hm79 := (((hm50).lo hk53).lo hk66).kp hk74 (fun b_ hb e' => by have e'' : b_ = g63 := e'; omega)
    have hm80 := ((((hb41).kp hk45 (fun e' => by have e'' : g20 = g29 := e'; omega)).lo hk53).lo hk66).kp hk74 (fun e' => by have e'' : g20 = g63 := e'; omega)
    have hm81 := (((hm51).lo hk53).lo hk66).kp hk74 (fun b_ hb e' => hd71 (by have e'' : b_ = g63 := e'; rw [← e'']; exact hb))
    have hm82 := (((hb47).lo hk53).lo hk66).kp hk74 (fun e' => by have e'' : g29 = g63 := e'; omega)
    have hm83 := ((hO57).lo hk66).kp hk74 (fun b_ hb e' => hd72 (by have e'' : b_ = g63 := e'; rw [← e'']; exact hb))
    refine W.regS (SR.q' (r_lda (l := [.int .i64 v12.State, .slice A8 n9 c10, .int .i64 v12.Next, .int .i64 v12.Fails, .int .i64 v12.Size]) agg41 rfl (fun _ _ hu => (hm80).cell hu) rfl) <| SR.q' (r_lda (l := [.int .i64 v13.Kind, .int .i64 v13.Value]) agg45 rfl (fun _ _ hu => (hm82).cell hu) rfl) <| SR.call ent18 (c_spec_StepScan w73 v12 (((hm81).rd)) v13) rfl ?_)
    rintro e w84 ⟨A86, n87, c88, rfl, hO89, hk85⟩
    refine ⟨_, rfl, ?_⟩
    have hz90 := hk85.size
    have hB91 := hB78.lo hk85
    have hl92 := hO89.len
    have hl93 := hO89.rd.bound
    have hq94 := step_lenJS v12 v13
    refine SR.q' (r_mv (v := .tuple (List.toArray _)) rfl) <| SR.q' (r_ext (v := .agg (List.toArray _)) rfl rfl) <| SR.q' (r_ext (v := .bool _) rfl rfl) <| SR.alloc (l := [.int .i64 0, .slice none 0 0, .int .i64 0, .int .i64 0, .int .i64 0]) tz41 rfl ?_
    intro g95 w96 hg97 hk98 hs99 hb100
    have hz101 := hk98.size
    have hB102 := hB91.lo hk98
    have hd103 : ¬ A8 = some ⟨g95, 0, none⟩ := fun e' => by have := ((hm81).lo hk85).base_le e'; omega
    have hd104 : ¬ A54 = some ⟨g95, 0, none⟩ := fun e' => by have := ((hm83).lo hk85).base_le e'; omega
    have hd105 : ¬ A86 = some ⟨g95, 0, none⟩ := fun e' => by have := (hO89).base_le e'; omega
    refine SR.store (o := 0) (vs := [.int .i64 (((spec_StepScan v12 v13).1).State), .slice A86 n87 c88, .int .i64 (((spec_StepScan v12 v13).1).Next), .int .i64 (((spec_StepScan v12 v13).1).Fails), .int .i64 (((spec_StepScan v12 v13).1).Size)]) agg41.2 rfl rfl rfl rfl (hb100) (Nat.le_of_ble_eq_true rfl) rfl ?_
    intro w106 hk107 hs108 hb109
    have hz110 := hk107.size
    have hB111 := hB102.new hk107 (by omega)
    refine SR.q' (r_as (v := .bool _) rfl) <| SR.nil ?_
    refine W.seq ?_
    have hm112 := (((hm79).lo hk85).lo hk98).kp hk107 (fun b_ hb e' => by have e'' : b_ = g95 := e'; omega)
    have hm113 := (((hm80).lo hk85).lo hk98).kp hk107 (fun e' => by have e'' : g20 = g95 := e'; omega)
    have hm114 := (((hm81).lo hk85).lo hk98).kp hk107 (fun b_ hb e' => hd103 (by have e'' : b_ = g95 := e'; rw [← e'']; exact hb))
    have hm115 := (((hb76).lo hk85).lo hk98).kp hk107 (fun e' => by have e'' : g63 = g95 := e'; omega)
    have hm116 := (((hm83).lo hk85).lo hk98).kp hk107 (fun b_ hb e' => hd104 (by have e'' : b_ = g95 := e'; rw [← e'']; exact hb))
    have hm117 := ((hO89).lo hk98).kp hk107 (fun b_ hb e' => hd105 (by have e'' : b_ = g95 := e'; rw [← e'']; exact hb))
    refine W.regJD mo (by kernel_rfl) (fun f' w' => At f' [(0, .slice AL nL cL), (2, .bool false), (3, .pointer (some ((⟨g20, 0, none⟩ : Addr)))), (5, .pointer (some ((⟨g63, 0, none⟩ : Addr)))), (6, .bool ((impl_StepScan v12 v13).2)), (69, .bool (decide (((!(((impl_StepScan v12 v13).2) == ((spec_StepScan v12 v13).2))) = true) ∨ ((¬ (((impl_StepScan v12 v13).1) = ((spec_StepScan v12 v13).1))) ∨ ((((impl_StepScan v12 v13).2) = true) ∧ (¬ (JobOK ((impl_StepScan v12 v13).1))))))))] ∧ Lo w106 w') ?_ ?_
    · refine QR.q' (fun w' hw' => r_mv (v := .bool _) rfl) <| QR.q' (fun w' hw' => r_mv (v := .bool _) rfl) <| QR.q' (fun w' hw' => r_neb und4 rfl rfl) <| QR.q' (fun w' hw' => r_mv (v := .bool _) rfl) <| QR.split (fun h118 => ?_) (fun h118 => ?_)
      · have hq119 := bnot_t h118
        refine QR.s' rfl <| QR.s' rfl <| QR.s' rfl <| QR.s' rfl <| QR.q' (fun w' hw' => r_pick true rfl (v := .bool true) rfl) <| QR.q' (fun w' hw' => r_mv (v := .bool _) rfl) <| QR.s' rfl <| QR.s' rfl <| QR.s' rfl <| QR.s' rfl <| QR.s' rfl <| QR.q' (fun w' hw' => r_pick true rfl (v := .bool true) rfl) <| QR.q' (fun w' hw' => r_mv (v := .bool _) rfl) <| QR.s' rfl <| QR.s' rfl <| QR.u' rfl <| QR.u' rfl <| QR.u' rfl <| QR.s' rfl <| QR.q' (fun w' hw' => r_pick true rfl (v := .bool true) rfl) <| QR.nil ?_
        intro w120 hk121
        exact ⟨⟨rfl, rfl, rfl, rfl, rfl, (eDT ((jot h118).1 trivial)), trivial⟩, hk121⟩
      · have hq122 := bnot_f h118
        refine QR.g' rfl (fun w' hw' => r_lda (l := [.int .i64 (((impl_StepScan v12 v13).1).State), .slice A54 n55 c56, .int .i64 (((impl_StepScan v12 v13).1).Next), .int .i64 (((impl_StepScan v12 v13).1).Fails), .int .i64 (((impl_StepScan v12 v13).1).Size)]) agg41 rfl (fun _ _ hu => ((hm115).lo hw').cell hu) rfl) <| QR.g' rfl (fun w' hw' => r_lda (l := [.int .i64 (((spec_StepScan v12 v13).1).State), .slice A86 n87 c88, .int .i64 (((spec_StepScan v12 v13).1).Next), .int .i64 (((spec_StepScan v12 v13).1).Fails), .int .i64 (((spec_StepScan v12 v13).1).Size)]) agg41 rfl (fun _ _ hu => ((hb109).lo hw').cell hu) rfl) <| QR.gcall rfl ent39 (fun w' hw' => (c_laws_vJob w' ((impl_StepScan v12 v13).1) ((((hm116).lo hw').rd)) ((spec_StepScan v12 v13).1) ((((hm117).lo hw').rd))).mono fun _ _ h => ⟨h.1, hw'.trans h.2⟩) rfl <| QR.g' rfl (fun w' hw' => r_not rfl) <| QR.q' (fun w' hw' => r_pick false rfl (v := .bool _) rfl) <| QR.q' (fun w' hw' => r_mv (v := .bool _) rfl) <| QR.splitN (fun h123 => ?_) (fun h123 => ?_)
        · refine QR.s' rfl <| QR.s' rfl <| QR.s' rfl <| QR.s' rfl <| QR.s' rfl <| QR.q' (fun w' hw' => r_pick true rfl (v := .bool true) rfl) <| QR.q' (fun w' hw' => r_mv (v := .bool _) rfl) <| QR.s' rfl <| QR.s' rfl <| QR.u' rfl <| QR.u' rfl <| QR.u' rfl <| QR.s' rfl <| QR.q' (fun w' hw' => r_pick true rfl (v := .bool true) rfl) <| QR.nil ?_
          intro w124 hk125
          exact ⟨⟨rfl, rfl, rfl, rfl, rfl, (eDT (((jmf h123).trans (jof (ne_true_of_eq_false h118))).1 trivial)), trivial⟩, hk125⟩
        · refine QR.g' rfl (fun w' hw' => r_lda (l := [.int .i64 v12.State, .slice A8 n9 c10, .int .i64 v12.Next, .int .i64 v12.Fails, .int .i64 v12.Size]) agg41 rfl (fun _ _ hu => ((hm113).lo hw').cell hu) rfl) <| QR.gcall rfl ent40 (fun w' hw' => (c_impl_IsScanJob w' v12 ((((hm114).lo hw').rd))).mono fun _ _ h => ⟨h.1, hw'.trans h.2⟩) rfl <| QR.g' rfl (fun w' hw' => r_lda (l := [.int .i64 v12.State, .slice A8 n9 c10, .int .i64 v12.Next, .int .i64 v12.Fails, .int .i64 v12.Size]) agg41 rfl (fun _ _ hu => ((hm113).lo hw').cell hu) rfl) <| QR.gcall rfl ent41 (fun w' hw' => (c_spec_IsScanJob w' v12 ((((hm114).lo hw').rd))).mono fun _ _ h => ⟨h.1, hw'.trans h.2⟩) rfl <| QR.g' rfl (fun w' hw' => r_neb_s und4 rfl rfl) <| QR.q' (fun w' hw' => r_pick false rfl (v := .bool _) rfl) <| QR.q' (fun w' hw' => r_mv (v := .bool _) rfl) <| QR.g' rfl (fun w' hw' => r_mv (v := .bool _) rfl) <| QR.g' rfl (fun w' hw' => r_mv (v := .bool _) rfl) <| QR.split (fun h126 => ?_) (fun h126 => ?_)
          · refine QR.g' rfl (fun w' hw' => r_lda (l := [.int .i64 (((impl_StepScan v12 v13).1).State), .slice A54 n55 c56, .int .i64 (((impl_StepScan v12 v13).1).Next), .int .i64 (((impl_StepScan v12 v13).1).Fails), .int .i64 (((impl_StepScan v12 v13).1).Size)]) agg41 rfl (fun _ _ hu => ((hm115).lo hw').cell hu) rfl) <| QR.gcall rfl ent40 (fun w' hw' => (c_impl_IsScanJob w' ((impl_StepScan v12 v13).1) ((((hm116).lo hw').rd))).mono fun _ _ h => ⟨h.1, hw'.trans h.2⟩) rfl <| QR.g' rfl (fun w' hw' => r_not rfl) <| QR.g' rfl (fun w' hw' => r_pick true rfl (v := .bool _) rfl) <| QR.q' (fun w' hw' => r_pick false rfl (v := .bool _) rfl) <| QR.nil ?_
            intro w127 hk128
            exact ⟨⟨rfl, rfl, rfl, rfl, rfl, (eND (((jat h126).trans (jmt h123)).trans (jof (ne_true_of_eq_false h118)))), trivial⟩, hk128⟩
          · refine QR.s' rfl <| QR.s' rfl <| QR.s' rfl <| QR.g' rfl (fun w' hw' => r_pick false rfl (v := .bool false) rfl) <| QR.q' (fun w' hw' => r_pick false rfl (v := .bool _) rfl) <| QR.nil ?_
            intro w129 hk130
            exact ⟨⟨rfl, rfl, rfl, rfl, rfl, (eDF (((jaf (ne_true_of_eq_false h126)).trans (jmt h123)).trans (jof (ne_true_of_eq_false h118))).2), trivial⟩, hk130⟩
    rintro f131 w132 ⟨hat133, hk134⟩
    rw [← sets_of_at hat133]
    have hz135 := hk134.size
    have hB136 := hB111.lo hk134
    refine W.cond_d rfl (fun h137 => ?_) (fun h137 => ?_)
    · refine W.seq ?_
      refine W.regS (SR.q' (r_as (v := .bool false) rfl) <| SR.nil ?_)
      refine W.ret ?_
      refine ret1 rfl (v := .bool _) rfl ?_
      exact ⟨eR (eB (z_c_laws_FnScanJobs_138 L nL hbdL hleL h5 v12 v13 hq14 n9 hl17 hl18 hq19 n55 hl60 hl61 hq62 n87 hl92 hl93 hq94 h137)), hB136⟩
    · have hq139 : ¬ ((!(((impl_StepScan v12 v13).2) == ((spec_StepScan v12 v13).2))) = true) := (not_or.1 h137).1
      have hq140 : ((impl_StepScan v12 v13).1) = ((spec_StepScan v12 v13).1) := (Classical.not_not.1 (not_or.1 (not_or.1 h137).2).1)
      have hq141 : ¬ ((((impl_StepScan v12 v13).2) = true) ∧ (¬ (JobOK ((impl_StepScan v12 v13).1)))) := (not_or.1 (not_or.1 h137).2).2
      refine W.skip ?_
      refine W.seq ?_
      refine W.seq ?_
      refine W.regJD mo (by kernel_rfl) (fun f' w' => At f' [(0, .slice AL nL cL), (2, .bool false), (88, .bool (decide ((((impl_StepScan v12 v13).2) = true) ∧ ((¬ ((((impl_StepScan v12 v13).1).Size) = (IntKind.i64.wrap (10 * (wsum (((impl_StepScan v12 v13).1).Tiles)))))) ∨ (¬ ((n55 : Int) = (n9 : Int)))))))] ∧ Lo w132 w') ?_ ?_
      · refine QR.q' (fun w' hw' => r_mv (v := .bool _) rfl) <| QR.q' (fun w' hw' => r_mv (v := .bool _) rfl) <| QR.split (fun h142 => ?_) (fun h142 => ?_)
        · refine QR.g' rfl (fun w' hw' => r_fa fa41_4 rfl) <| QR.g' rfl (fun w' hw' => r_ld (v := .int .i64 (((impl_StepScan v12 v13).1).Size)) sca3 rfl ((((hm115).lo hk134).lo hw').cell rfl)) <| QR.g' rfl (fun w' hw' => r_fa fa41_1 rfl) <| QR.g' rfl (fun w' hw' => r_ld (v := .slice A54 n55 c56) sca22 rfl ((((hm115).lo hk134).lo hw').cell rfl)) <| QR.gcall rfl ent42 (fun w' hw' => (c_laws_vSum w' (((impl_StepScan v12 v13).1).Tiles) (((((hm116).lo hk134).lo hw').rd))).mono fun _ _ h => ⟨h.1, hw'.trans h.2⟩) rfl <| QR.g' rfl (fun w' hw' => r_mulW rfl rfl) <| QR.g' rfl (fun w' hw' => r_ne rfl rfl) <| QR.g' rfl (fun w' hw' => r_mv (v := .bool _) rfl) <| QR.splitN (fun h143 => ?_) (fun h143 => ?_)
          · refine QR.s' rfl <| QR.s' rfl <| QR.s' rfl <| QR.s' rfl <| QR.s' rfl <| QR.s' rfl <| QR.s' rfl <| QR.g' rfl (fun w' hw' => r_pick true rfl (v := .bool true) rfl) <| QR.q' (fun w' hw' => r_pick true rfl (v := .bool _) rfl) <| QR.nil ?_
            intro w144 hk145
            exact ⟨⟨rfl, rfl, (eDT (((jmf h143).trans (jat h142)).1 trivial)), trivial⟩, hk145⟩
          · refine QR.g' rfl (fun w' hw' => r_fa fa41_1 rfl) <| QR.g' rfl (fun w' hw' => r_ld (v := .slice A54 n55 c56) sca22 rfl ((((hm115).lo hk134).lo hw').cell rfl)) <| QR.g' rfl (fun w' hw' => r_len und22 rfl) <| QR.g' rfl (fun w' hw' => r_fa fa41_1 rfl) <| QR.g' rfl (fun w' hw' => r_ld (v := .slice A8 n9 c10) sca22 rfl ((((hm113).lo hk134).lo hw').cell rfl)) <| QR.g' rfl (fun w' hw' => r_len und22 rfl) <| QR.g' rfl (fun w' hw' => r_ne rfl rfl) <| QR.g' rfl (fun w' hw' => r_pick false rfl (v := .bool _) rfl) <| QR.q' (fun w' hw' => r_pick true rfl (v := .bool _) rfl) <| QR.nil ?_
            intro w146 hk147
            exact ⟨⟨rfl, rfl, (eND ((jmt h143).trans (jat h142))), trivial⟩, hk147⟩
        · refine QR.s' rfl <| QR.s' rfl <| QR.s' rfl <| QR.s' rfl <| QR.s' rfl <| QR.s' rfl <| QR.s' rfl <| QR.s' rfl <| QR.u' rfl <| QR.u' rfl <| QR.u' rfl <| QR.u' rfl <| QR.u' rfl <| QR.u' rfl <| QR.u' rfl <| QR.s' rfl <| QR.q' (fun w' hw' => r_pick false rfl (v := .bool false) rfl) <| QR.nil ?_
          intro w148 hk149
          exact ⟨⟨rfl, rfl, (eDF (jaf (ne_true_of_eq_false h142)).2), trivial⟩, hk149⟩
      rintro f150 w151 ⟨hat152, hk153⟩
      rw [← sets_of_at hat152]
      have hz154 := hk153.size
      have hB155 := hB136.lo hk153
      refine W.cond_d rfl (fun h156 => ?_) (fun h156 => ?_)
      · have hq157 : ((impl_StepScan v12 v13).2) = true := h156.1
        have hq158 : (¬ ((((impl_StepScan v12 v13).1).Size) = (IntKind.i64.wrap (10 * (wsum (((impl_StepScan v12 v13).1).Tiles)))))) ∨ (¬ ((n55 : Int) = (n9 : Int))) := h156.2
        refine W.seq ?_
        have hm159 := ((hm112).lo hk134).lo hk153
        refine W.regS (SR.q' (r_as (v := .bool false) rfl) <| SR.nil ?_)
        refine W.ret ?_
        refine ret1 rfl (v := .bool _) rfl ?_
        exact ⟨eR (eB (z_c_laws_FnScanJobs_160 L nL hbdL hleL h5 v12 v13 hq14 n9 hl17 hl18 hq19 n55 hl60 hl61 hq62 n87 hl92 hl93 hq94 h137 hq139 hq140 hq141 h156 hq157 hq158)), hB155⟩
      · refine W.skip ?_
        refine W.seq ?_
        have hm161 := ((hm112).lo hk134).lo hk153
        refine W.regS (SR.q' (r_mv (v := .slice _ _ _) rfl) <| SR.call ent43 (c_spec_DrawRunScan w151 L ((hm161)) (by omega)) rfl ?_)
        rintro e w162 ⟨A164, n165, c166, A168, n169, c170, v173, v174, rfl, hO167, hO171, hd172, hq175, hq176, hk163⟩
        refine ⟨_, rfl, ?_⟩
        have hz177 := hk163.size
        have hB178 := hB155.lo hk163
        have hl179 := hO167.len
        have hl180 := hO167.rd.bound
        have hl181 := hO171.len
        have hl182 := hO171.rd.bound
        refine SR.q' (r_mv (v := .tuple (List.toArray _)) rfl) <| SR.q' (r_ext (v := .agg (List.toArray _)) rfl rfl) <| SR.q' (r_ext (v := .slice _ _ _) rfl rfl) <| SR.alloc (l := [.int .i64 0, .slice none 0 0, .int .i64 0, .int .i64 0, .int .i64 0]) tz41 rfl ?_
        intro g183 w184 hg185 hk186 hs187 hb188
        have hz189 := hk186.size
        have hB190 := hB178.lo hk186
        have hd191 : ¬ A8 = some ⟨g183, 0, none⟩ := fun e' => by have := ((((hm114).lo hk134).lo hk153).lo hk163).base_le e'; omega
        have hd192 : ¬ A54 = some ⟨g183, 0, none⟩ := fun e' => by have := ((((hm116).lo hk134).lo hk153).lo hk163).base_le e'; omega
        have hd193 : ¬ A86 = some ⟨g183, 0, none⟩ := fun e' => by have := ((((hm117).lo hk134).lo hk153).lo hk163).base_le e'; omega
        have hd194 : ¬ A164 = some ⟨g183, 0, none⟩ := fun e' => by have := (hO167).base_le e'; omega
        have hd195 : ¬ A168 = some ⟨g183, 0, none⟩ := fun e' => by have := (hO171).base_le e'; omega
        refine SR.store (o := 0) (vs := [.int .i64 v173.State, .slice A164 n165 c166, .int .i64 v173.Next, .int .i64 v173.Fails, .int .i64 v173.Size]) agg41.2 rfl rfl rfl rfl (hb188) (Nat.le_of_ble_eq_true rfl) rfl ?_
        intro w196 hk197 hs198 hb199
        have hz200 := hk197.size
        have hB201 := hB190.new hk197 (by omega)
        refine SR.q' (r_as (v := .slice _ _ _) rfl) <| SR.nil ?_
        refine W.seq ?_
        have hm202 := (((hm161).lo hk163).lo hk186).kp hk197 (fun b_ hb e' => by have e'' : b_ = g183 := e'; omega)
        have hm203 := ((hO167).lo hk186).kp hk197 (fun b_ hb e' => hd194 (by have e'' : b_ = g183 := e'; rw [← e'']; exact hb))
        have hm204 := ((hO171).lo hk186).kp hk197 (fun b_ hb e' => hd195 (by have e'' : b_ = g183 := e'; rw [← e'']; exact hb))
        refine W.regS (SR.q' (r_lda (l := [.int .i64 v173.State, .slice A164 n165 c166, .int .i64 v173.Next, .int .i64 v173.Fails, .int .i64 v173.Size]) agg41 rfl (fun _ _ hu => (hb199).cell hu) rfl) <| SR.q' (r_mv (v := .slice _ _ _) rfl) <| SR.call ent34 (c_impl_RunScan w196 v173 (((hm203).rd)) v174 (((hm204).rd))) rfl ?_)
        rintro e w205 ⟨A207, n208, c209, rfl, hO210, hk206⟩
        refine ⟨_, rfl, ?_⟩
        have hz211 := hk206.size
        have hB212 := hB201.lo hk206
        have hl213 := hO210.len
        have hl214 := hO210.rd.bound
        have hq215 := runFJ_len v173 v174
        refine SR.q' (r_mv (v := .tuple (List.toArray _)) rfl) <| SR.q' (r_ext (v := .agg (List.toArray _)) rfl rfl) <| SR.q' (r_ext (v := .int .i64 _) rfl rfl) <| SR.q' (r_ext (v := .bool _) rfl rfl) <| SR.alloc (l := [.int .i64 0, .slice none 0 0, .int .i64 0, .int .i64 0, .int .i64 0]) tz41 rfl ?_
        intro g216 w217 hg218 hk219 hs220 hb221
        have hz222 := hk219.size
        have hB223 := hB212.lo hk219
        have hd224 : ¬ A8 = some ⟨g216, 0, none⟩ := fun e' => by have := (((((((hm114).lo hk134).lo hk153).lo hk163).lo hk186).kp hk197 (fun b_ hb e' => hd191 (by have e'' : b_ = g183 := e'; rw [← e'']; exact hb))).lo hk206).base_le e'; omega
        have hd225 : ¬ A54 = some ⟨g216, 0, none⟩ := fun e' => by have := (((((((hm116).lo hk134).lo hk153).lo hk163).lo hk186).kp hk197 (fun b_ hb e' => hd192 (by have e'' : b_ = g183 := e'; rw [← e'']; exact hb))).lo hk206).base_le e'; omega
        have hd226 : ¬ A86 = some ⟨g216, 0, none⟩ := fun e' => by have := (((((((hm117).lo hk134).lo hk153).lo hk163).lo hk186).kp hk197 (fun b_ hb e' => hd193 (by have e'' : b_ = g183 := e'; rw [← e'']; exact hb))).lo hk206).base_le e'; omega
        have hd227 : ¬ A164 = some ⟨g216, 0, none⟩ := fun e' => by have := ((hm203).lo hk206).base_le e'; omega
        have hd228 : ¬ A168 = some ⟨g216, 0, none⟩ := fun e' => by have := ((hm204).lo hk206).base_le e'; omega
        have hd229 : ¬ A207 = some ⟨g216, 0, none⟩ := fun e' => by have := (hO210).base_le e'; omega
        refine SR.store (o := 0) (vs := [.int .i64 (((runFJ v173 v174).1).State), .slice A207 n208 c209, .int .i64 (((runFJ v173 v174).1).Next), .int .i64 (((runFJ v173 v174).1).Fails), .int .i64 (((runFJ v173 v174).1).Size)]) agg41.2 rfl rfl rfl rfl (hb221) (Nat.le_of_ble_eq_true rfl) rfl ?_
        intro w230 hk231 hs232 hb233
        have hz234 := hk231.size
        have hB235 := hB223.new hk231 (by omega)
        refine SR.q' (r_as (v := .int .i64 _) rfl) <| SR.q' (r_as (v := .bool _) rfl) <| SR.nil ?_
        refine W.seq ?_
        refine W.seq ?_
        have hm236 := (((hm202).lo hk206).lo hk219).kp hk231 (fun b_ hb e' => by have e'' : b_ = g216 := e'; omega)
        have hm237 := (((hb199).lo hk206).lo hk219).kp hk231 (fun e' => by have e'' : g183 = g216 := e'; omega)
        have hm238 := (((hm203).lo hk206).lo hk219).kp hk231 (fun b_ hb e' => hd227 (by have e'' : b_ = g216 := e'; rw [← e'']; exact hb))
        have hm239 := (((hm204).lo hk206).lo hk219).kp hk231 (fun b_ hb e' => hd228 (by have e'' : b_ = g216 := e'; rw [← e'']; exact hb))
        have hm240 := ((hO210).lo hk219).kp hk231 (fun b_ hb e' => hd229 (by have e'' : b_ = g216 := e'; rw [← e'']; exact hb))
        refine W.regS (SR.q' (r_lda (l := [.int .i64 v173.State, .slice A164 n165 c166, .int .i64 v173.Next, .int .i64 v173.Fails, .int .i64 v173.Size]) agg41 rfl (fun _ _ hu => (hm237).cell hu) rfl) <| SR.q' (r_mv (v := .slice _ _ _) rfl) <| SR.call ent32 (c_spec_RunScan w230 v173 (((hm238).rd)) v174 (((hm239).rd))) rfl ?_)
        rintro e w241 ⟨A243, n244, c245, rfl, hO246, hk242⟩
        refine ⟨_, rfl, ?_⟩
        have hz247 := hk242.size
        have hB248 := hB235.lo hk242
        have hl249 := hO246.len
        have hl250 := hO246.rd.bound
        have hq251 := runFJ_len v173 v174
        refine SR.q' (r_mv (v := .tuple (List.toArray _)) rfl) <| SR.q' (r_ext (v := .agg (List.toArray _)) rfl rfl) <| SR.q' (r_ext (v := .int .i64 _) rfl rfl) <| SR.q' (r_ext (v := .bool _) rfl rfl) <| SR.alloc (l := [.int .i64 0, .slice none 0 0, .int .i64 0, .int .i64 0, .int .i64 0]) tz41 rfl ?_
        intro g252 w253 hg254 hk255 hs256 hb257
        have hz258 := hk255.size
        have hB259 := hB248.lo hk255
        have hd260 : ¬ A8 = some ⟨g252, 0, none⟩ := fun e' => by have := ((((((((((hm114).lo hk134).lo hk153).lo hk163).lo hk186).kp hk197 (fun b_ hb e' => hd191 (by have e'' : b_ = g183 := e'; rw [← e'']; exact hb))).lo hk206).lo hk219).kp hk231 (fun b_ hb e' => hd224 (by have e'' : b_ = g216 := e'; rw [← e'']; exact hb))).lo hk242).base_le e'; omega
        have hd261 : ¬ A54 = some ⟨g252, 0, none⟩ := fun e' => by have := ((((((((((hm116).lo hk134).lo hk153).lo hk163).lo hk186).kp hk197 (fun b_ hb e' => hd192 (by have e'' : b_ = g183 := e'; rw [← e'']; exact hb))).lo hk206).lo hk219).kp hk231 (fun b_ hb e' => hd225 (by have e'' : b_ = g216 := e'; rw [← e'']; exact hb))).lo hk242).base_le e'; omega
        have hd262 : ¬ A86 = some ⟨g252, 0, none⟩ := fun e' => by have := ((((((((((hm117).lo hk134).lo hk153).lo hk163).lo hk186).kp hk197 (fun b_ hb e' => hd193 (by have e'' : b_ = g183 := e'; rw [← e'']; exact hb))).lo hk206).lo hk219).kp hk231 (fun b_ hb e' => hd226 (by have e'' : b_ = g216 := e'; rw [← e'']; exact hb))).lo hk242).base_le e'; omega
        have hd263 : ¬ A164 = some ⟨g252, 0, none⟩ := fun e' => by have := ((hm238).lo hk242).base_le e'; omega
        have hd264 : ¬ A168 = some ⟨g252, 0, none⟩ := fun e' => by have := ((hm239).lo hk242).base_le e'; omega
        have hd265 : ¬ A207 = some ⟨g252, 0, none⟩ := fun e' => by have := ((hm240).lo hk242).base_le e'; omega
        have hd266 : ¬ A243 = some ⟨g252, 0, none⟩ := fun e' => by have := (hO246).base_le e'; omega
        refine SR.store (o := 0) (vs := [.int .i64 (((runFJ v173 v174).1).State), .slice A243 n244 c245, .int .i64 (((runFJ v173 v174).1).Next), .int .i64 (((runFJ v173 v174).1).Fails), .int .i64 (((runFJ v173 v174).1).Size)]) agg41.2 rfl rfl rfl rfl (hb257) (Nat.le_of_ble_eq_true rfl) rfl ?_
        intro w267 hk268 hs269 hb270
        have hz271 := hk268.size
        have hB272 := hB259.new hk268 (by omega)
        refine SR.q' (r_as (v := .int .i64 _) rfl) <| SR.q' (r_as (v := .bool _) rfl) <| SR.nil ?_
        refine W.seq ?_
        have hm273 := (((hm236).lo hk242).lo hk255).kp hk268 (fun b_ hb e' => by have e'' : b_ = g252 := e'; omega)
        have hm274 := (((hm237).lo hk242).lo hk255).kp hk268 (fun e' => by have e'' : g183 = g252 := e'; omega)
        have hm275 := (((hm238).lo hk242).lo hk255).kp hk268 (fun b_ hb e' => hd263 (by have e'' : b_ = g252 := e'; rw [← e'']; exact hb))
        have hm276 := (((hm239).lo hk242).lo hk255).kp hk268 (fun b_ hb e' => hd264 (by have e'' : b_ = g252 := e'; rw [← e'']; exact hb))
        have hm277 := (((hb233).lo hk242).lo hk255).kp hk268 (fun e' => by have e'' : g216 = g252 := e'; omega)
        have hm278 := (((hm240).lo hk242).lo hk255).kp hk268 (fun b_ hb e' => hd265 (by have e'' : b_ = g252 := e'; rw [← e'']; exact hb))
        have hm279 := ((hO246).lo hk255).kp hk268 (fun b_ hb e' => hd266 (by have e'' : b_ = g252 := e'; rw [← e'']; exact hb))
        refine W.regS (SR.q' (r_mv (v := .bool _) rfl) <| SR.q' (r_mv (v := .bool _) rfl) <| SR.q' (r_neb_s und4 rfl rfl) <| SR.q' (r_mv (v := .bool _) rfl) <| SR.g' rfl (r_mv (v := .int .i64 _) rfl) <| SR.g' rfl (r_mv (v := .int .i64 _) rfl) <| SR.g' rfl (r_ne_s rfl rfl) <| SR.q' (r_pick false rfl (v := .bool _) rfl) <| SR.q' (r_mv (v := .bool _) rfl) <| SR.g' rfl (r_lda (l := [.int .i64 (((runFJ v173 v174).1).State), .slice A207 n208 c209, .int .i64 (((runFJ v173 v174).1).Next), .int .i64 (((runFJ v173 v174).1).Fails), .int .i64 (((runFJ v173 v174).1).Size)]) agg41 rfl (fun _ _ hu => (hm277).cell hu) rfl) <| SR.g' rfl (r_lda (l := [.int .i64 (((runFJ v173 v174).1).State), .slice A243 n244 c245, .int .i64 (((runFJ v173 v174).1).Next), .int .i64 (((runFJ v173 v174).1).Fails), .int .i64 (((runFJ v173 v174).1).Size)]) agg41 rfl (fun _ _ hu => (hb270).cell hu) rfl) <| SR.gcall rfl ent39 (c_laws_vJob w267 ((runFJ v173 v174).1) (((hm278).rd)) ((runFJ v173 v174).1) (((hm279).rd))) rfl ?_)
        rintro e w280 ⟨rfl, hk281⟩
        refine ⟨_, rfl, ?_⟩
        have hz282 := hk281.size
        have hB283 := hB272.lo hk281
        refine SR.g' rfl (r_not rfl) <| SR.q' (r_pick false rfl (v := .bool _) rfl) <| SR.nil ?_
        refine W.cond_n rfl (fun h284 => ?_) (fun h284 => ?_)
        · refine W.seq ?_
          refine W.regS (SR.q' (r_as (v := .bool false) rfl) <| SR.nil ?_)
          refine W.ret ?_
          refine ret1 rfl (v := .bool _) rfl ?_
          exact ⟨eR (eB (z_c_laws_FnScanJobs_285 L nL hbdL hleL h5 v12 v13 hq14 n9 hl17 hl18 hq19 n55 hl60 hl61 hq62 n87 hl92 hl93 hq94 h137 hq139 hq140 hq141 h156 v173 v174 hq175 hq176 n165 hl179 hl180 n169 hl181 hl182 n208 hl213 hl214 hq215 n244 hl249 hl250 hq251 h284)), hB283⟩
        · refine W.skip ?_
          refine W.seq ?_
          refine W.seq ?_
          refine W.regS (SR.q' (r_mv (v := .bool _) rfl) <| SR.nil ?_)
          refine W.cond_b rfl (fun h286 => ?_) (fun h286 => ?_)
          · refine W.seq ?_
            refine W.regS (SR.q' (r_lda (l := [.int .i64 v173.State, .slice A164 n165 c166, .int .i64 v173.Next, .int .i64 v173.Fails, .int .i64 v173.Size]) agg41 rfl (fun _ _ hu => ((hm274).lo hk281).cell hu) rfl) <| SR.alloc (l := [.int .i64 0, .slice none 0 0, .int .i64 0, .int .i64 0, .int .i64 0]) tz41 rfl ?_)
            intro g287 w288 hg289 hk290 hs291 hb292
            have hz293 := hk290.size
            have hB294 := hB283.lo hk290
            have hd295 : ¬ A8 = some ⟨g287, 0, none⟩ := fun e' => by have := (((((((((((((hm114).lo hk134).lo hk153).lo hk163).lo hk186).kp hk197 (fun b_ hb e' => hd191 (by have e'' : b_ = g183 := e'; rw [← e'']; exact hb))).lo hk206).lo hk219).kp hk231 (fun b_ hb e' => hd224 (by have e'' : b_ = g216 := e'; rw [← e'']; exact hb))).lo hk242).lo hk255).kp hk268 (fun b_ hb e' => hd260 (by have e'' : b_ = g252 := e'; rw [← e'']; exact hb))).lo hk281).base_le e'; omega
            have hd296 : ¬ A54 = some ⟨g287, 0, none⟩ := fun e' => by have := (((((((((((((hm116).lo hk134).lo hk153).lo hk163).lo hk186).kp hk197 (fun b_ hb e' => hd192 (by have e'' : b_ = g183 := e'; rw [← e'']; exact hb))).lo hk206).lo hk219).kp hk231 (fun b_ hb e' => hd225 (by have e'' : b_ = g216 := e'; rw [← e'']; exact hb))).lo hk242).lo hk255).kp hk268 (fun b_ hb e' => hd261 (by have e'' : b_ = g252 := e'; rw [← e'']; exact hb))).lo hk281).base_le e'; omega
            have hd297 : ¬ A86 = some ⟨g287, 0, none⟩ := fun e' => by have := (((((((((((((hm117).lo hk134).lo hk153).lo hk163).lo hk186).kp hk197 (fun b_ hb e' => hd193 (by have e'' : b_ = g183 := e'; rw [← e'']; exact hb))).lo hk206).lo hk219).kp hk231 (fun b_ hb e' => hd226 (by have e'' : b_ = g216 := e'; rw [← e'']; exact hb))).lo hk242).lo hk255).kp hk268 (fun b_ hb e' => hd262 (by have e'' : b_ = g252 := e'; rw [← e'']; exact hb))).lo hk281).base_le e'; omega
            have hd298 : ¬ A164 = some ⟨g287, 0, none⟩ := fun e' => by have := ((hm275).lo hk281).base_le e'; omega
            have hd299 : ¬ A168 = some ⟨g287, 0, none⟩ := fun e' => by have := ((hm276).lo hk281).base_le e'; omega
            have hd300 : ¬ A207 = some ⟨g287, 0, none⟩ := fun e' => by have := ((hm278).lo hk281).base_le e'; omega
            have hd301 : ¬ A243 = some ⟨g287, 0, none⟩ := fun e' => by have := ((hm279).lo hk281).base_le e'; omega
            refine SR.store (o := 0) (vs := [.int .i64 v173.State, .slice A164 n165 c166, .int .i64 v173.Next, .int .i64 v173.Fails, .int .i64 v173.Size]) agg41.2 rfl rfl rfl rfl (hb292) (Nat.le_of_ble_eq_true rfl) rfl ?_
            intro w302 hk303 hs304 hb305
            have hz306 := hk303.size
            have hB307 := hB294.new hk303 (by omega)
            refine SR.q' (r_as (v := .int .i64 0) rfl) <| SR.nil ?_
            refine W.seq ?_
            refine W.seq ?_
            have hm308 := (((hm273).lo hk281).lo hk290).kp hk303 (fun b_ hb e' => by have e'' : b_ = g287 := e'; omega)
            have hm309 := (((hm276).lo hk281).lo hk290).kp hk303 (fun b_ hb e' => hd299 (by have e'' : b_ = g287 := e'; rw [← e'']; exact hb))
            have hm310 := (((hm277).lo hk281).lo hk290).kp hk303 (fun e' => by have e'' : g216 = g287 := e'; omega)
            have hm311 := (((hm278).lo hk281).lo hk290).kp hk303 (fun b_ hb e' => hd300 (by have e'' : b_ = g287 := e'; rw [← e'']; exact hb))
            have hm312 := (((hm275).lo hk281).lo hk290).kp hk303 (fun b_ hb e' => hd298 (by have e'' : b_ = g287 := e'; rw [← e'']; exact hb))
            refine W.regS (SR.q' (r_as (v := .int .i64 0) rfl) <| SR.nil ?_)
            refine W.block ?_
            refine W.loop (σ := Nat × ScanJob × Int × (Option Addr) × Nat × Nat) (fun g => [(0, .slice AL nL cL), (2, .bool false), (10, .slice A168 n169 c170), (11, .pointer (some ((⟨g216, 0, none⟩ : Addr)))), (12, .int .i64 ((runFJ v173 v174).2.1)), (17, .pointer (some ((⟨g287, 0, none⟩ : Addr)))), (18, .int .i64 g.2.2.1), (19, .int .i64 (g.1 : Int))]) (fun g w' => (Lo w w') ∧ (SlR w' BL encB 1 AL nL cL L) ∧ (SlO w' w151.heap.size encScanStep 2 45 A168 n169 c170 v174) ∧ (Blk w' g216 41 [.int .i64 (((runFJ v173 v174).1).State), .slice A207 n208 c209, .int .i64 (((runFJ v173 v174).1).Next), .int .i64 (((runFJ v173 v174).1).Fails), .int .i64 (((runFJ v173 v174).1).Size)]) ∧ (SlO w' w196.heap.size encI 1 3 A207 n208 c209 (((runFJ v173 v174).1).Tiles)) ∧ (Blk w' g287 41 [.int .i64 g.2.1.State, .slice g.2.2.2.1 g.2.2.2.2.1 g.2.2.2.2.2, .int .i64 g.2.1.Next, .int .i64 g.2.1.Fails, .int .i64 g.2.1.Size]) ∧ (SlO w' w.heap.size encI 1 3 g.2.2.2.1 g.2.2.2.2.1 g.2.2.2.2.2 g.2.1.Tiles) ∧ (∀ b_, g.2.2.2.1 = some ⟨b_, 0, none⟩ → ¬ A168 = some ⟨b_, 0, none⟩) ∧ (¬ g.2.2.2.1 = some ⟨g216, 0, none⟩) ∧ (∀ b_, g.2.2.2.1 = some ⟨b_, 0, none⟩ → ¬ A207 = some ⟨b_, 0, none⟩) ∧ (¬ g.2.2.2.1 = some ⟨g287, 0, none⟩) ∧ ((g.1 ≤ v174.length ∧ 0 ≤ g.2.2.1 ∧ g.2.2.1 ≤ (g.1 : Int)) ∧ runToJ v173 v174 g.1 = (g.2.1, g.2.2.1) ∧ JobOK g.2.1)) (fun g => 60 - g.1) (0, v173, (0 : Int), A164, n165, c166) ?_ ?_ ?_
            · exact ⟨rfl, rfl, rfl, rfl, rfl, rfl, (eI (by first | (first | omega | rfl) | (dsimp only; (first | omega | rfl)))), (eI (by first | (first | omega | rfl) | (dsimp only; (first | omega | rfl)))), trivial⟩
            · show (Lo w w302) ∧ (SlR w302 BL encB 1 AL nL cL L) ∧ (SlO w302 w151.heap.size encScanStep 2 45 A168 n169 c170 v174) ∧ (Blk w302 g216 41 [.int .i64 (((runFJ v173 v174).1).State), .slice A207 n208 c209, .int .i64 (((runFJ v173 v174).1).Next), .int .i64 (((runFJ v173 v174).1).Fails), .int .i64 (((runFJ v173 v174).1).Size)]) ∧ (SlO w302 w196.heap.size encI 1 3 A207 n208 c209 (((runFJ v173 v174).1).Tiles)) ∧ (Blk w302 g287 41 [.int .i64 v173.State, .slice A164 n165 c166, .int .i64 v173.Next, .int .i64 v173.Fails, .int .i64 v173.Size]) ∧ (SlO w302 w.heap.size encI 1 3 A164 n165 c166 v173.Tiles) ∧ (∀ b_, A164 = some ⟨b_, 0, none⟩ → ¬ A168 = some ⟨b_, 0, none⟩) ∧ (¬ A164 = some ⟨g216, 0, none⟩) ∧ (∀ b_, A164 = some ⟨b_, 0, none⟩ → ¬ A207 = some ⟨b_, 0, none⟩) ∧ (¬ A164 = some ⟨g287, 0, none⟩) ∧ ((0 ≤ v174.length ∧ 0 ≤ (0 : Int) ∧ (0 : Int) ≤ (0 : Int)) ∧ runToJ v173 v174 0 = (v173, (0 : Int)) ∧ JobOK v173)
              exact ⟨hB307, hm308, hm309, hm310, hm311, (hb305), ((hm312).down (by omega)), hd172, hd227, (fun b_ h h' => by have h1 := (hm203).base_le h; have h2 := (hm311).base_le h'; omega), hd298, (z_c_laws_FnScanJobs_314 L nL hbdL hleL h5 v12 v13 hq14 n9 hl17 hl18 hq19 n55 hl60 hl61 hq62 n87 hl92 hl93 hq94 h137 hq139 hq140 hq141 h156 v173 v174 hq175 hq176 n165 hl179 hl180 n169 hl181 hl182 n208 hl213 hl214 hq215 n244 hl249 hl250 hq251 h284 h286)⟩
            · rintro ⟨k, o, m, A313, n313, c313⟩ f315 w316 hP318
              obtain ⟨hB317, hm319, hm320, hm321, hm322, hm323, hO324, hd326, hd327, hd328, hd329, hi325⟩ : (Lo w w316) ∧ (SlR w316 BL encB 1 AL nL cL L) ∧ (SlO w316 w151.heap.size encScanStep 2 45 A168 n169 c170 v174) ∧ (Blk w316 g216 41 [.int .i64 (((runFJ v173 v174).1).State), .slice A207 n208 c209, .int .i64 (((runFJ v173 v174).1).Next), .int .i64 (((runFJ v173 v174).1).Fails), .int .i64 (((runFJ v173 v174).1).Size)]) ∧ (SlO w316 w196.heap.size encI 1 3 A207 n208 c209 (((runFJ v173 v174).1).Tiles)) ∧ (Blk w316 g287 41 [.int .i64 o.State, .slice A313 n313 c313, .int .i64 o.Next, .int .i64 o.Fails, .int .i64 o.Size]) ∧ (SlO w316 w.heap.size encI 1 3 A313 n313 c313 o.Tiles) ∧ (∀ b_, A313 = some ⟨b_, 0, none⟩ → ¬ A168 = some ⟨b_, 0, none⟩) ∧ (¬ A313 = some ⟨g216, 0, none⟩) ∧ (∀ b_, A313 = some ⟨b_, 0, none⟩ → ¬ A207 = some ⟨b_, 0, none⟩) ∧ (¬ A313 = some ⟨g287, 0, none⟩) ∧ ((k ≤ v174.length ∧ 0 ≤ m ∧ m ≤ (k : Int)) ∧ runToJ v173 v174 k = (o, m) ∧ JobOK o) := hP318
              refine (?_ : W _ _ _ _ _ (act _ (sets f315 [(0, .slice AL nL cL), (2, .bool false), (10, .slice A168 n169 c170), (11, .pointer (some ((⟨g216, 0, none⟩ : Addr)))), (12, .int .i64 ((runFJ v173 v174).2.1)), (17, .pointer (some ((⟨g287, 0, none⟩ : Addr)))), (18, .int .i64 m), (19, .int .i64 (k : Int))])) _)
              have hzw316 := hB317.size
              have hl330 := hm321.lt
              have hl331 := hm323.lt
              have hl332 := hO324.len
              have hl333 := hO324.rd.bound
              have hq334 : 0 ≤ m ∧ m ≤ (k : Int) := hi325.1.2
              have hq335 : JobOK o := hi325.2.2
              have hq336 : o.Tiles.length ≤ 8 := (job_rng hi325.2.2).1
              refine W.seq ?_
              refine W.seq ?_
              refine W.regS (SR.q' (r_mv (v := .int .i64 _) rfl) <| SR.q' (r_mv (v := .slice _ _ _) rfl) <| SR.q' (r_len und63 rfl) <| SR.q' (r_lt rfl rfl) <| SR.nil ?_)
              refine W.cond_d rfl (fun h337 => ?_) (fun h337 => ?_)
              · refine W.skip ?_
                refine W.seq ?_
                refine W.block ?_
                refine W.seq ?_
                refine W.regA (Lo w316) (fun f' w' => ∃ (A346 : Option Addr), ∃ (n347 : Nat), ∃ (c348 : Nat), ∃ (g356 : Nat), At f' [(0, .slice AL nL cL), (2, .bool false), (10, .slice A168 n169 c170), (11, .pointer (some ((⟨g216, 0, none⟩ : Addr)))), (12, .int .i64 ((runFJ v173 v174).2.1)), (17, .pointer (some ((⟨g287, 0, none⟩ : Addr)))), (18, .int .i64 m), (19, .int .i64 (k : Int)), (20, .pointer (some ((⟨g356, 0, none⟩ : Addr)))), (21, .bool ((impl_StepScan o (gt v174 k)).2))] ∧ (Lo w316 w') ∧ (SlO w' w316.heap.size encI 1 3 A346 n347 c348 (((impl_StepScan o (gt v174 k)).1).Tiles)) ∧ (Blk w' g356 41 [.int .i64 (((impl_StepScan o (gt v174 k)).1).State), .slice A346 n347 c348, .int .i64 (((impl_StepScan o (gt v174 k)).1).Next), .int .i64 (((impl_StepScan o (gt v174 k)).1).Fails), .int .i64 (((impl_StepScan o (gt v174 k)).1).Size)]) ∧ (w316.heap.size ≤ g356 ∧ g356 < w'.heap.size) ∧ (¬ A168 = some ⟨g356, 0, none⟩) ∧ (¬ A207 = some ⟨g356, 0, none⟩) ∧ (¬ A313 = some ⟨g356, 0, none⟩) ∧ (¬ A346 = some ⟨g356, 0, none⟩) ∧ (∀ b_, A346 = some ⟨b_, 0, none⟩ → ¬ A168 = some ⟨b_, 0, none⟩) ∧ (∀ b_, A346 = some ⟨b_, 0, none⟩ → ¬ A207 = some ⟨b_, 0, none⟩) ∧ (∀ b_, A346 = some ⟨b_, 0, none⟩ → ¬ A313 = some ⟨b_, 0, none⟩) ∧ (v174[k]? = some (gt v174 k)) ∧ (n347 = (((impl_StepScan o (gt v174 k)).1).Tiles).length) ∧ ((n347 : Int) ≤ 9223372036854775807) ∧ ((((impl_StepScan o (gt v174 k)).1).Tiles).length ≤ 8)) mo ?_ ?_
                · intro w338 hk339
                  have hz340 := hk339.size
                  have hB341 := hB317.lo hk339
                  refine AH.take 0 rfl (by kernel_rfl) trivial (hk339) (fun w' hw' => r_lda (l := [.int .i64 o.State, .slice A313 n313 c313, .int .i64 o.Next, .int .i64 o.Fails, .int .i64 o.Size]) agg41 rfl (fun _ _ hu => ((hm323).lo hw').cell hu) rfl) <| AH.take 1 rfl (by kernel_rfl) trivial (hk339) (fun w' hw' => r_mv (v := .slice _ _ _) rfl) <| AH.take 2 rfl (by kernel_rfl) trivial (hk339) (fun w' hw' => r_mv (v := .int .i64 _) rfl) <| ?_
                  have hx343 := (((hm320).lo hk339).rd).elem (i := k) (by omega)
                  refine AH.take 3 rfl (by kernel_rfl) trivial (hk339) (fun w' hw' => r_ixR tsl63 (((hm320).lo hw').rd) rfl rfl (by omega)) <| AH.take 4 rfl (by kernel_rfl) trivial (hk339) (fun w' hw' => r_lda (l := encScanStep (gt v174 k)) agg45 rfl (fun _ _ hu => (((hm320).lo hw').rd).cell hx343 hu) ((((hm320).lo hw').rd).esz _)) <| AH.br [5, 9] (by kernel_rfl) rfl ⟨Br.mk' rfl trivial ?_, Br.mk' rfl trivial ?_, trivial⟩
                  · refine SR.call ent21 (c_impl_StepScan w338 o ((((hO324).lo hk339).rd)) (gt v174 k)) rfl ?_
                    rintro e w344 ⟨A346, n347, c348, rfl, hO349, hk345⟩
                    refine ⟨_, rfl, ?_⟩
                    have hz350 := hk345.size
                    have hB351 := hB341.lo hk345
                    have hS352 := (hk339).lo hk345
                    have hl353 := hO349.len
                    have hl354 := hO349.rd.bound
                    have hq355 := step_lenJ o (gt v174 k)
                    refine SR.nil ⟨hS352, _, rfl, ?_⟩
                    refine AH.take 6 rfl (by kernel_rfl) trivial (hS352) (fun w' hw' => r_mv (v := .tuple (List.toArray _)) rfl) <| AH.take 7 rfl (by kernel_rfl) trivial (hS352) (fun w' hw' => r_ext (v := .agg (List.toArray _)) rfl rfl) <| AH.take 8 rfl (by kernel_rfl) trivial (hS352) (fun w' hw' => r_ext (v := .bool _) rfl rfl) <| AH.br [9] (by kernel_rfl) rfl ⟨Br.mk' rfl trivial ?_, trivial⟩
                    refine SR.alloc (l := [.int .i64 0, .slice none 0 0, .int .i64 0, .int .i64 0, .int .i64 0]) tz41 rfl ?_
                    intro g356 w357 hg358 hk359 hs360 hb361
                    have hz362 := hk359.size
                    have hB363 := hB351.lo hk359
                    have hS364 := (hS352).lo hk359
                    have hd365 : ¬ A168 = some ⟨g356, 0, none⟩ := fun e' => by have := (((hm320).lo hk339).lo hk345).base_le e'; omega
                    have hd366 : ¬ A207 = some ⟨g356, 0, none⟩ := fun e' => by have := (((hm322).lo hk339).lo hk345).base_le e'; omega
                    have hd367 : ¬ A313 = some ⟨g356, 0, none⟩ := fun e' => by have := (((hO324).lo hk339).lo hk345).base_le e'; omega
                    have hd368 : ¬ A346 = some ⟨g356, 0, none⟩ := fun e' => by have := (hO349).base_le e'; omega
                    refine SR.nil ⟨hS364, _, rfl, ?_⟩
                    refine AH.br [10] (by kernel_rfl) rfl ⟨Br.mk' rfl trivial ?_, trivial⟩
                    refine SR.store (o := 0) (vs := [.int .i64 (((impl_StepScan o (gt v174 k)).1).State), .slice A346 n347 c348, .int .i64 (((impl_StepScan o (gt v174 k)).1).Next), .int .i64 (((impl_StepScan o (gt v174 k)).1).Fails), .int .i64 (((impl_StepScan o (gt v174 k)).1).Size)]) agg41.2 rfl rfl rfl rfl (hb361) (Nat.le_of_ble_eq_true rfl) rfl ?_
                    intro w369 hk370 hs371 hb372
                    have hz373 := hk370.size
                    have hB374 := hB363.new hk370 (by omega)
                    have hS375 := (hS364).new hk370 (by omega)
                    refine SR.nil ⟨hS375, _, rfl, ?_⟩
                    refine AH.take 11 rfl (by kernel_rfl) trivial (hS375) (fun w' hw' => r_as (v := .bool _) rfl) <| AH.done (by kernel_rfl) ?_
                    exact ⟨A346, n347, c348, g356, ⟨rfl, rfl, rfl, rfl, rfl, rfl, rfl, rfl, rfl, rfl, trivial⟩, hS375, ((((hO349).lo hk359).kp hk370 (fun b_ hb e' => hd368 (by have e'' : b_ = g356 := e'; rw [← e'']; exact hb))).down (by omega)), (hb372), ⟨by omega, (hb372).lt⟩, hd365, hd366, hd367, hd368, (fun b_ h h' => by have h1 := (((hO349).lo hk359).kp hk370 (fun b_ hb e' => hd368 (by have e'' : b_ = g356 := e'; rw [← e'']; exact hb))).base_le h; have h2 := ((hm320).lo hk339).base_le h'; omega), (fun b_ h h' => by have h1 := (((hO349).lo hk359).kp hk370 (fun b_ hb e' => hd368 (by have e'' : b_ = g356 := e'; rw [← e'']; exact hb))).base_le h; have h2 := ((hm322).lo hk339).base_le h'; omega), (fun b_ h h' => by have h1 := (((hO349).lo hk359).kp hk370 (fun b_ hb e' => hd368 (by have e'' : b_ = g356 := e'; rw [← e'']; exact hb))).base_le h; have h2 := ((hO324).lo hk339).base_le h'; omega), hx343, hl353, hl354, hq355⟩
                  · refine SR.alloc (l := [.int .i64 0, .slice none 0 0, .int .i64 0, .int .i64 0, .int .i64 0]) tz41 rfl ?_
                    intro g386 w387 hg388 hk389 hs390 hb391
                    have hz392 := hk389.size
                    have hB393 := hB341.lo hk389
                    have hS394 := (hk339).lo hk389
                    have hd395 : ¬ A168 = some ⟨g386, 0, none⟩ := fun e' => by have := ((hm320).lo hk339).base_le e'; omega
                    have hd396 : ¬ A207 = some ⟨g386, 0, none⟩ := fun e' => by have := ((hm322).lo hk339).base_le e'; omega
                    have hd397 : ¬ A313 = some ⟨g386, 0, none⟩ := fun e' => by have := ((hO324).lo hk339).base_le e'; omega
                    refine SR.nil ⟨hS394, _, rfl, ?_⟩
                    refine AH.br [5] (by kernel_rfl) rfl ⟨Br.mk' rfl trivial ?_, trivial⟩
                    refine SR.call ent21 (c_impl_StepScan w387 o (((((hO324).lo hk339).lo hk389).rd)) (gt v174 k)) rfl ?_
                    rintro e w398 ⟨A400, n401, c402, rfl, hO403, hk399⟩
                    refine ⟨_, rfl, ?_⟩
                    have hz404 := hk399.size
                    have hB405 := hB393.lo hk399
                    have hS406 := (hS394).lo hk399
                    have hl407 := hO403.len
                    have hl408 := hO403.rd.bound
                    have hq409 := step_lenJ o (gt v174 k)
                    refine SR.nil ⟨hS406, _, rfl, ?_⟩
                    refine AH.take 6 rfl (by kernel_rfl) trivial (hS406) (fun w' hw' => r_mv (v := .tuple (List.toArray _)) rfl) <| AH.take 7 rfl (by kernel_rfl) trivial (hS406) (fun w' hw' => r_ext (v := .agg (List.toArray _)) rfl rfl) <| AH.take 8 rfl (by kernel_rfl) trivial (hS406) (fun w' hw' => r_ext (v := .bool _) rfl rfl) <| AH.br [10] (by kernel_rfl) rfl ⟨Br.mk' rfl trivial ?_, trivial⟩
                    refine SR.store (o := 0) (vs := [.int .i64 (((impl_StepScan o (gt v174 k)).1).State), .slice A400 n401 c402, .int .i64 (((impl_StepScan o (gt v174 k)).1).Next), .int .i64 (((impl_StepScan o (gt v174 k)).1).Fails), .int .i64 (((impl_StepScan o (gt v174 k)).1).Size)]) agg41.2 rfl rfl rfl rfl ((hb391).lo hk399) (Nat.le_of_ble_eq_true rfl) rfl ?_
                    intro w410 hk411 hs412 hb413
                    have hz414 := hk411.size
                    have hB415 := hB405.new hk411 (by omega)
                    have hS416 := (hS406).new hk411 (by omega)
                    refine SR.nil ⟨hS416, _, rfl, ?_⟩
                    refine AH.take 11 rfl (by kernel_rfl) trivial (hS416) (fun w' hw' => r_as (v := .bool _) rfl) <| AH.done (by kernel_rfl) ?_
                    exact ⟨A400, n401, c402, g386, ⟨rfl, rfl, rfl, rfl, rfl, rfl, rfl, rfl, rfl, rfl, trivial⟩, hS416, (((hO403).kp hk411 (fun b_ hb e' => by have e'' : b_ = g386 := e'; have := (hO403).base_le hb; omega)).down (by omega)), (hb413), ⟨by omega, (hb413).lt⟩, hd395, hd396, hd397, (fun e' => by have := ((hO403).kp hk411 (fun b_ hb e' => by have e'' : b_ = g386 := e'; have := (hO403).base_le hb; omega)).base_le e'; omega), (fun b_ h h' => by have h1 := ((hO403).kp hk411 (fun b_ hb e' => by have e'' : b_ = g386 := e'; have := (hO403).base_le hb; omega)).base_le h; have h2 := (((hm320).lo hk339).lo hk389).base_le h'; omega), (fun b_ h h' => by have h1 := ((hO403).kp hk411 (fun b_ hb e' => by have e'' : b_ = g386 := e'; have := (hO403).base_le hb; omega)).base_le h; have h2 := (((hm322).lo hk339).lo hk389).base_le h'; omega), (fun b_ h h' => by have h1 := ((hO403).kp hk411 (fun b_ hb e' => by have e'' : b_ = g386 := e'; have := (hO403).base_le hb; omega)).base_le h; have h2 := (((hO324).lo hk339).lo hk389).base_le h'; omega), hx343, hl407, hl408, hq409⟩
                rintro f425 w426 ⟨A346, n347, c348, g356, hat428, hR427, hm376, hm377, hg378, hd379, hd380, hd381, hd382, hd383, hd384, hd385, hx343, hl353, hl354, hq355⟩
                rw [← sets_of_at hat428]
                have hz429 := hR427.size
                have hB430 := hB317.lo hR427
                refine W.seq ?_
                refine W.regS (SR.q' (r_mv (v := .bool _) rfl) <| SR.nil ?_)
                refine W.cond_b rfl (fun h431 => ?_) (fun h431 => ?_)
                · refine W.seq ?_
                  refine W.regS (SR.q' (r_lda (l := [.int .i64 (((impl_StepScan o (gt v174 k)).1).State), .slice A346 n347 c348, .int .i64 (((impl_StepScan o (gt v174 k)).1).Next), .int .i64 (((impl_StepScan o (gt v174 k)).1).Fails), .int .i64 (((impl_StepScan o (gt v174 k)).1).Size)]) agg41 rfl (fun _ _ hu => (hm377).cell hu) rfl) <| SR.store (o := 0) (vs := [.int .i64 (((impl_StepScan o (gt v174 k)).1).State), .slice A346 n347 c348, .int .i64 (((impl_StepScan o (gt v174 k)).1).Next), .int .i64 (((impl_StepScan o (gt v174 k)).1).Fails), .int .i64 (((impl_StepScan o (gt v174 k)).1).Size)]) agg41.2 rfl rfl rfl rfl ((hm323).lo hR427) (Nat.le_of_ble_eq_true rfl) rfl ?_)
                  intro w432 hk433 hs434 hb435
                  have hz436 := hk433.size
                  have hB437 := hB430.new hk433 (by omega)
                  refine SR.nil ?_
                  have hm438 := ((hm319).lo hR427).kp hk433 (fun b_ hb e' => by have e'' : b_ = g287 := e'; omega)
                  have hm439 := ((hm320).lo hR427).kp hk433 (fun b_ hb e' => hd299 (by have e'' : b_ = g287 := e'; rw [← e'']; exact hb))
                  have hm440 := ((hm321).lo hR427).kp hk433 (fun e' => by have e'' : g216 = g287 := e'; omega)
                  have hm441 := ((hm322).lo hR427).kp hk433 (fun b_ hb e' => hd300 (by have e'' : b_ = g287 := e'; rw [← e'']; exact hb))
                  refine W.regS (SR.q' (r_mv (v := .int .i64 _) rfl) <| SR.q' (r_add rfl rfl (by omega)) <| SR.q' (r_as (v := .int .i64 _) rfl) <| SR.nil ?_)
                  refine W.regS (SR.q' (r_mv (v := .int .i64 _) rfl) <| SR.q' (r_add rfl rfl (by omega)) <| SR.q' (r_as (v := .int .i64 _) rfl) <| SR.nil ?_)
                  refine ⟨(k + 1, ((impl_StepScan o (gt v174 k)).1), m + 1, A346, n347, c348), _, rfl, ⟨rfl, rfl, rfl, rfl, rfl, rfl, rfl, (eI (by first | (first | omega | rfl) | (dsimp only; (first | omega | rfl)))), trivial⟩, (show (Lo w w432) ∧ (SlR w432 BL encB 1 AL nL cL L) ∧ (SlO w432 w151.heap.size encScanStep 2 45 A168 n169 c170 v174) ∧ (Blk w432 g216 41 [.int .i64 (((runFJ v173 v174).1).State), .slice A207 n208 c209, .int .i64 (((runFJ v173 v174).1).Next), .int .i64 (((runFJ v173 v174).1).Fails), .int .i64 (((runFJ v173 v174).1).Size)]) ∧ (SlO w432 w196.heap.size encI 1 3 A207 n208 c209 (((runFJ v173 v174).1).Tiles)) ∧ (Blk w432 g287 41 [.int .i64 (((impl_StepScan o (gt v174 k)).1).State), .slice A346 n347 c348, .int .i64 (((impl_StepScan o (gt v174 k)).1).Next), .int .i64 (((impl_StepScan o (gt v174 k)).1).Fails), .int .i64 (((impl_StepScan o (gt v174 k)).1).Size)]) ∧ (SlO w432 w.heap.size encI 1 3 A346 n347 c348 (((impl_StepScan o (gt v174 k)).1).Tiles)) ∧ (∀ b_, A346 = some ⟨b_, 0, none⟩ → ¬ A168 = some ⟨b_, 0, none⟩) ∧ (¬ A346 = some ⟨g216, 0, none⟩) ∧ (∀ b_, A346 = some ⟨b_, 0, none⟩ → ¬ A207 = some ⟨b_, 0, none⟩) ∧ (¬ A346 = some ⟨g287, 0, none⟩) ∧ ((k + 1 ≤ v174.length ∧ 0 ≤ m + 1 ∧ m + 1 ≤ (k + 1 : Int)) ∧ runToJ v173 v174 (k + 1) = (((impl_StepScan o (gt v174 k)).1), m + 1) ∧ JobOK ((impl_StepScan o (gt v174 k)).1)) from ⟨hB437, hm438, hm439, hm440, hm441, (hb435), (((hm376).kp hk433 (fun b_ hb e' => by have e'' : b_ = g287 := e'; have := (hm376).base_le hb; omega)).down (by omega)), hd383, (fun e' => by have := ((hm376).kp hk433 (fun b_ hb e' => by have e'' : b_ = g287 := e'; have := (hm376).base_le hb; omega)).base_le e'; omega), hd384, (fun e' => by have := ((hm376).kp hk433 (fun b_ hb e' => by have e'' : b_ = g287 := e'; have := (hm376).base_le hb; omega)).base_le e'; omega), ?_⟩), ?_⟩
                  · exact (z_c_laws_FnScanJobs_442 L nL hbdL hleL h5 v12 v13 hq14 n9 hl17 hl18 hq19 n55 hl60 hl61 hq62 n87 hl92 hl93 hq94 h137 hq139 hq140 hq141 h156 v173 v174 hq175 hq176 n165 hl179 hl180 n169 hl181 hl182 n208 hl213 hl214 hq215 n244 hl249 hl250 hq251 h284 h286 k o m n313 c313 hi325 hl332 hq334 hq335 hq336 h337 n347 hx343 hl353 hl354 hq355 h431)
                  · exact (z_c_laws_FnScanJobs_443 L nL hbdL hleL h5 v12 v13 hq14 n9 hl17 hl18 hq19 n55 hl60 hl61 hq62 n87 hl92 hl93 hq94 h137 hq139 hq140 hq141 h156 v173 v174 hq175 hq176 n165 hl179 hl180 n169 hl181 hl182 n208 hl213 hl214 hq215 n244 hl249 hl250 hq251 h284 h286 k o m n313 c313 hi325 hl332 hq334 hq335 hq336 h337 n347 hx343 hl353 hl354 hq355 h431)
                · refine W.skip ?_
                  refine W.regS (SR.q' (r_mv (v := .int .i64 _) rfl) <| SR.q' (r_add rfl rfl (by omega)) <| SR.q' (r_as (v := .int .i64 _) rfl) <| SR.nil ?_)
                  refine ⟨(k + 1, o, m, A313, n313, c313), _, rfl, ⟨rfl, rfl, rfl, rfl, rfl, rfl, rfl, (eI (by first | (first | omega | rfl) | (dsimp only; (first | omega | rfl)))), trivial⟩, (show (Lo w w426) ∧ (SlR w426 BL encB 1 AL nL cL L) ∧ (SlO w426 w151.heap.size encScanStep 2 45 A168 n169 c170 v174) ∧ (Blk w426 g216 41 [.int .i64 (((runFJ v173 v174).1).State), .slice A207 n208 c209, .int .i64 (((runFJ v173 v174).1).Next), .int .i64 (((runFJ v173 v174).1).Fails), .int .i64 (((runFJ v173 v174).1).Size)]) ∧ (SlO w426 w196.heap.size encI 1 3 A207 n208 c209 (((runFJ v173 v174).1).Tiles)) ∧ (Blk w426 g287 41 [.int .i64 o.State, .slice A313 n313 c313, .int .i64 o.Next, .int .i64 o.Fails, .int .i64 o.Size]) ∧ (SlO w426 w.heap.size encI 1 3 A313 n313 c313 o.Tiles) ∧ (∀ b_, A313 = some ⟨b_, 0, none⟩ → ¬ A168 = some ⟨b_, 0, none⟩) ∧ (¬ A313 = some ⟨g216, 0, none⟩) ∧ (∀ b_, A313 = some ⟨b_, 0, none⟩ → ¬ A207 = some ⟨b_, 0, none⟩) ∧ (¬ A313 = some ⟨g287, 0, none⟩) ∧ ((k + 1 ≤ v174.length ∧ 0 ≤ m ∧ m ≤ (k + 1 : Int)) ∧ runToJ v173 v174 (k + 1) = (o, m) ∧ JobOK o) from ⟨hB430, (hm319).lo hR427, (hm320).lo hR427, (hm321).lo hR427, (hm322).lo hR427, ((hm323).lo hR427), ((hO324).lo hR427), hd326, hd327, hd328, hd329, ?_⟩), ?_⟩
                  · exact (z_c_laws_FnScanJobs_444 L nL hbdL hleL h5 v12 v13 hq14 n9 hl17 hl18 hq19 n55 hl60 hl61 hq62 n87 hl92 hl93 hq94 h137 hq139 hq140 hq141 h156 v173 v174 hq175 hq176 n165 hl179 hl180 n169 hl181 hl182 n208 hl213 hl214 hq215 n244 hl249 hl250 hq251 h284 h286 k o m n313 c313 hi325 hl332 hq334 hq335 hq336 h337 n347 hx343 hl353 hl354 hq355 h431)
                  · exact (z_c_laws_FnScanJobs_445 L nL hbdL hleL h5 v12 v13 hq14 n9 hl17 hl18 hq19 n55 hl60 hl61 hq62 n87 hl92 hl93 hq94 h137 hq139 hq140 hq141 h156 v173 v174 hq175 hq176 n165 hl179 hl180 n169 hl181 hl182 n208 hl213 hl214 hq215 n244 hl249 hl250 hq251 h284 h286 k o m n313 c313 hi325 hl332 hq334 hq335 hq336 h337 n347 hx343 hl353 hl354 hq355 h431)
              · refine W.exit (xin_here ?_)
                refine W.seq ?_
                refine W.regJS (fun f' w' => At f' [(0, .slice AL nL cL), (2, .bool false), (151, .bool (decide ((¬ (m = ((runFJ v173 v174).2.1))) ∨ (¬ (o = ((runFJ v173 v174).1))))))] ∧ Lo w316 w') ?_ ?_
                · refine SR.q' (r_mv (v := .int .i64 _) rfl) <| SR.q' (r_mv (v := .int .i64 _) rfl) <| SR.q' (r_ne rfl rfl) <| SR.q' (r_mv (v := .bool _) rfl) <| SR.splitN (fun h446 => ?_) (fun h446 => ?_)
                  · refine SR.s' rfl <| SR.s' rfl <| SR.s' rfl <| SR.s' rfl <| SR.q' (r_pick true rfl (v := .bool true) rfl) <| SR.nil ?_
                    exact ⟨_, rfl, ⟨⟨rfl, rfl, (eDT ((jmf h446).1 trivial)), trivial⟩, (Lo.refl _)⟩⟩
                  · refine SR.g' rfl (r_lda (l := [.int .i64 o.State, .slice A313 n313 c313, .int .i64 o.Next, .int .i64 o.Fails, .int .i64 o.Size]) agg41 rfl (fun _ _ hu => (hm323).cell hu) rfl) <| SR.g' rfl (r_lda (l := [.int .i64 (((runFJ v173 v174).1).State), .slice A207 n208 c209, .int .i64 (((runFJ v173 v174).1).Next), .int .i64 (((runFJ v173 v174).1).Fails), .int .i64 (((runFJ v173 v174).1).Size)]) agg41 rfl (fun _ _ hu => (hm321).cell hu) rfl) <| SR.gcall rfl ent39 (c_laws_vJob w316 o (((hO324).rd)) ((runFJ v173 v174).1) (((hm322).rd))) rfl ?_
                    rintro e w447 ⟨rfl, hk448⟩
                    refine ⟨_, rfl, ?_⟩
                    have hz449 := hk448.size
                    have hB450 := hB317.lo hk448
                    refine SR.g' rfl (r_not rfl) <| SR.q' (r_pick false rfl (v := .bool _) rfl) <| SR.nil ?_
                    exact ⟨_, rfl, ⟨⟨rfl, rfl, (eND (jmt h446)), trivial⟩, (hk448)⟩⟩
                rintro f451 w452 ⟨hat453, hk454⟩
                rw [← sets_of_at hat453]
                have hz455 := hk454.size
                have hB456 := hB317.lo hk454
                refine W.cond_d rfl (fun h457 => ?_) (fun h457 => ?_)
                · refine W.seq ?_
                  refine W.regS (SR.q' (r_as (v := .bool false) rfl) <| SR.nil ?_)
                  refine W.ret ?_
                  refine ret1 rfl (v := .bool _) rfl ?_
                  exact ⟨eR (eB (z_c_laws_FnScanJobs_458 L nL hbdL hleL h5 v12 v13 hq14 n9 hl17 hl18 hq19 n55 hl60 hl61 hq62 n87 hl92 hl93 hq94 h137 hq139 hq140 hq141 h156 v173 v174 hq175 hq176 n165 hl179 hl180 n169 hl181 hl182 n208 hl213 hl214 hq215 n244 hl249 hl250 hq251 h284 h286 k o m n313 c313 hi325 hl332 hq334 hq335 hq336 h337 h457)), hB456⟩
                · have hq459 : m = ((runFJ v173 v174).2.1) := (Classical.not_not.1 (not_or.1 h457).1)
                  have hq460 : o = ((runFJ v173 v174).1) := (Classical.not_not.1 (not_or.1 h457).2)
                  refine W.skip ?_
                  refine W.seq ?_
                  refine W.regS (SR.q' (r_mv (v := .slice _ _ _) rfl) <| SR.call ent44 (c_spec_DrawNewScan w452 L (((hm319).lo hk454)) (by omega)) rfl ?_)
                  rintro e w461 ⟨v463, rfl, hk462⟩
                  refine ⟨_, rfl, ?_⟩
                  have hz464 := hk462.size
                  have hB465 := hB456.lo hk462
                  refine SR.q' (r_as (v := .int .i64 _) rfl) <| SR.nil ?_
                  refine W.seq ?_
                  refine W.regS (SR.q' (r_mv (v := .int .i64 _) rfl) <| SR.call ent45 (c_impl_NewScan w461 v463) rfl ?_)
                  rintro e w466 ⟨A468, n469, c470, rfl, hO471, hk467⟩
                  refine ⟨_, rfl, ?_⟩
                  have hz472 := hk467.size
                  have hB473 := hB465.lo hk467
                  have hl474 := hO471.len
                  have hl475 := hO471.rd.bound
                  have hq476 : (newJ v463).1.Tiles.length ≤ 8 := newJ_len v463
                  refine SR.q' (r_mv (v := .tuple (List.toArray _)) rfl) <| SR.q' (r_ext (v := .agg (List.toArray _)) rfl rfl) <| SR.q' (r_ext (v := .bool _) rfl rfl) <| SR.alloc (l := [.int .i64 0, .slice none 0 0, .int .i64 0, .int .i64 0, .int .i64 0]) tz41 rfl ?_
                  intro g477 w478 hg479 hk480 hs481 hb482
                  have hz483 := hk480.size
                  have hB484 := hB473.lo hk480
                  have hd485 : ¬ A168 = some ⟨g477, 0, none⟩ := fun e' => by have := ((((hm320).lo hk454).lo hk462).lo hk467).base_le e'; omega
                  have hd486 : ¬ A207 = some ⟨g477, 0, none⟩ := fun e' => by have := ((((hm322).lo hk454).lo hk462).lo hk467).base_le e'; omega
                  have hd487 : ¬ A313 = some ⟨g477, 0, none⟩ := fun e' => by have := ((((hO324).lo hk454).lo hk462).lo hk467).base_le e'; omega
                  have hd488 : ¬ A468 = some ⟨g477, 0, none⟩ := fun e' => by have := (hO471).base_le e'; omega
                  refine SR.store (o := 0) (vs := [.int .i64 (((newJ v463).1).State), .slice A468 n469 c470, .int .i64 (((newJ v463).1).Next), .int .i64 (((newJ v463).1).Fails), .int .i64 (((newJ v463).1).Size)]) agg41.2 rfl rfl rfl rfl (hb482) (Nat.le_of_ble_eq_true rfl) rfl ?_
                  intro w489 hk490 hs491 hb492
                  have hz493 := hk490.size
                  have hB494 := hB484.new hk490 (by omega)
                  refine SR.q' (r_as (v := .bool _) rfl) <| SR.nil ?_
                  refine W.seq ?_
                  have hm495 := ((hO471).lo hk480).kp hk490 (fun b_ hb e' => hd488 (by have e'' : b_ = g477 := e'; rw [← e'']; exact hb))
                  refine W.regS (SR.q' (r_mv (v := .int .i64 _) rfl) <| SR.call ent46 (c_spec_NewScan w489 v463) rfl ?_)
                  rintro e w496 ⟨A498, n499, c500, rfl, hO501, hk497⟩
                  refine ⟨_, rfl, ?_⟩
                  have hz502 := hk497.size
                  have hB503 := hB494.lo hk497
                  have hl504 := hO501.len
                  have hl505 := hO501.rd.bound
                  have hq506 : (newJ v463).1.Tiles.length ≤ 8 := newJ_len v463
                  refine SR.q' (r_mv (v := .tuple (List.toArray _)) rfl) <| SR.q' (r_ext (v := .agg (List.toArray _)) rfl rfl) <| SR.q' (r_ext (v := .bool _) rfl rfl) <| SR.alloc (l := [.int .i64 0, .slice none 0 0, .int .i64 0, .int .i64 0, .int .i64 0]) tz41 rfl ?_
                  intro g507 w508 hg509 hk510 hs511 hb512
                  have hz513 := hk510.size
                  have hB514 := hB503.lo hk510
                  have hd515 : ¬ A168 = some ⟨g507, 0, none⟩ := fun e' => by have := (((((((hm320).lo hk454).lo hk462).lo hk467).lo hk480).kp hk490 (fun b_ hb e' => hd485 (by have e'' : b_ = g477 := e'; rw [← e'']; exact hb))).lo hk497).base_le e'; omega
                  have hd516 : ¬ A207 = some ⟨g507, 0, none⟩ := fun e' => by have := (((((((hm322).lo hk454).lo hk462).lo hk467).lo hk480).kp hk490 (fun b_ hb e' => hd486 (by have e'' : b_ = g477 := e'; rw [← e'']; exact hb))).lo hk497).base_le e'; omega
                  have hd517 : ¬ A313 = some ⟨g507, 0, none⟩ := fun e' => by have := (((((((hO324).lo hk454).lo hk462).lo hk467).lo hk480).kp hk490 (fun b_ hb e' => hd487 (by have e'' : b_ = g477 := e'; rw [← e'']; exact hb))).lo hk497).base_le e'; omega
                  have hd518 : ¬ A468 = some ⟨g507, 0, none⟩ := fun e' => by have := ((hm495).lo hk497).base_le e'; omega
                  have hd519 : ¬ A498 = some ⟨g507, 0, none⟩ := fun e' => by have := (hO501).base_le e'; omega
                  refine SR.store (o := 0) (vs := [.int .i64 (((newJ v463).1).State), .slice A498 n499 c500, .int .i64 (((newJ v463).1).Next), .int .i64 (((newJ v463).1).Fails), .int .i64 (((newJ v463).1).Size)]) agg41.2 rfl rfl rfl rfl (hb512) (Nat.le_of_ble_eq_true rfl) rfl ?_
                  intro w520 hk521 hs522 hb523
                  have hz524 := hk521.size
                  have hB525 := hB514.new hk521 (by omega)
                  refine SR.q' (r_as (v := .bool _) rfl) <| SR.nil ?_
                  refine W.seq ?_
                  have hm526 := (((hb492).lo hk497).lo hk510).kp hk521 (fun e' => by have e'' : g477 = g507 := e'; omega)
                  have hm527 := (((hm495).lo hk497).lo hk510).kp hk521 (fun b_ hb e' => hd518 (by have e'' : b_ = g507 := e'; rw [← e'']; exact hb))
                  have hm528 := ((hO501).lo hk510).kp hk521 (fun b_ hb e' => hd519 (by have e'' : b_ = g507 := e'; rw [← e'']; exact hb))
                  refine W.regS (SR.q' (r_mv (v := .bool _) rfl) <| SR.q' (r_mv (v := .bool _) rfl) <| SR.q' (r_eqb_s und4 rfl rfl) <| SR.q' (r_mv (v := .bool _) rfl) <| SR.g' rfl (r_lda (l := [.int .i64 (((newJ v463).1).State), .slice A468 n469 c470, .int .i64 (((newJ v463).1).Next), .int .i64 (((newJ v463).1).Fails), .int .i64 (((newJ v463).1).Size)]) agg41 rfl (fun _ _ hu => (hm526).cell hu) rfl) <| SR.g' rfl (r_lda (l := [.int .i64 (((newJ v463).1).State), .slice A498 n499 c500, .int .i64 (((newJ v463).1).Next), .int .i64 (((newJ v463).1).Fails), .int .i64 (((newJ v463).1).Size)]) agg41 rfl (fun _ _ hu => (hb523).cell hu) rfl) <| SR.gcall rfl ent39 (c_laws_vJob w520 ((newJ v463).1) (((hm527).rd)) ((newJ v463).1) (((hm528).rd))) rfl ?_)
                  rintro e w529 ⟨rfl, hk530⟩
                  refine ⟨_, rfl, ?_⟩
                  have hz531 := hk530.size
                  have hB532 := hB525.lo hk530
                  refine SR.q' (r_pick true rfl (v := .bool _) rfl) <| SR.q' (r_as (v := .bool _) rfl) <| SR.nil ?_
                  refine W.ret ?_
                  refine ret1 rfl (v := .bool _) rfl ?_
                  exact ⟨eR (eB (z_c_laws_FnScanJobs_533 L nL hbdL hleL h5 v12 v13 hq14 n9 hl17 hl18 hq19 n55 hl60 hl61 hq62 n87 hl92 hl93 hq94 h137 hq139 hq140 hq141 h156 v173 v174 hq175 hq176 n165 hl179 hl180 n169 hl181 hl182 n208 hl213 hl214 hq215 n244 hl249 hl250 hq251 h284 h286 k o m n313 c313 hi325 hl332 hq334 hq335 hq336 h337 h457 hq459 hq460 v463 n469 hl474 hl475 hq476 n499 hl504 hl505 hq506)), hB532⟩
          · refine W.skip ?_
            refine W.seq ?_
            refine W.regS (SR.q' (r_mv (v := .slice _ _ _) rfl) <| SR.call ent44 (c_spec_DrawNewScan w280 L (((hm273).lo hk281)) (by omega)) rfl ?_)
            rintro e w534 ⟨v536, rfl, hk535⟩
            refine ⟨_, rfl, ?_⟩
            have hz537 := hk535.size
            have hB538 := hB283.lo hk535
            refine SR.q' (r_as (v := .int .i64 _) rfl) <| SR.nil ?_
            refine W.seq ?_
            refine W.regS (SR.q' (r_mv (v := .int .i64 _) rfl) <| SR.call ent45 (c_impl_NewScan w534 v536) rfl ?_)
            rintro e w539 ⟨A541, n542, c543, rfl, hO544, hk540⟩
            refine ⟨_, rfl, ?_⟩
            have hz545 := hk540.size
            have hB546 := hB538.lo hk540
            have hl547 := hO544.len
            have hl548 := hO544.rd.bound
            have hq549 : (newJ v536).1.Tiles.length ≤ 8 := newJ_len v536
            refine SR.q' (r_mv (v := .tuple (List.toArray _)) rfl) <| SR.q' (r_ext (v := .agg (List.toArray _)) rfl rfl) <| SR.q' (r_ext (v := .bool _) rfl rfl) <| SR.alloc (l := [.int .i64 0, .slice none 0 0, .int .i64 0, .int .i64 0, .int .i64 0]) tz41 rfl ?_
            intro g550 w551 hg552 hk553 hs554 hb555
            have hz556 := hk553.size
            have hB557 := hB546.lo hk553
            have hd558 : ¬ A8 = some ⟨g550, 0, none⟩ := fun e' => by have := (((((((((((((((hm114).lo hk134).lo hk153).lo hk163).lo hk186).kp hk197 (fun b_ hb e' => hd191 (by have e'' : b_ = g183 := e'; rw [← e'']; exact hb))).lo hk206).lo hk219).kp hk231 (fun b_ hb e' => hd224 (by have e'' : b_ = g216 := e'; rw [← e'']; exact hb))).lo hk242).lo hk255).kp hk268 (fun b_ hb e' => hd260 (by have e'' : b_ = g252 := e'; rw [← e'']; exact hb))).lo hk281).lo hk535).lo hk540).base_le e'; omega
            have hd559 : ¬ A54 = some ⟨g550, 0, none⟩ := fun e' => by have := (((((((((((((((hm116).lo hk134).lo hk153).lo hk163).lo hk186).kp hk197 (fun b_ hb e' => hd192 (by have e'' : b_ = g183 := e'; rw [← e'']; exact hb))).lo hk206).lo hk219).kp hk231 (fun b_ hb e' => hd225 (by have e'' : b_ = g216 := e'; rw [← e'']; exact hb))).lo hk242).lo hk255).kp hk268 (fun b_ hb e' => hd261 (by have e'' : b_ = g252 := e'; rw [← e'']; exact hb))).lo hk281).lo hk535).lo hk540).base_le e'; omega
            have hd560 : ¬ A86 = some ⟨g550, 0, none⟩ := fun e' => by have := (((((((((((((((hm117).lo hk134).lo hk153).lo hk163).lo hk186).kp hk197 (fun b_ hb e' => hd193 (by have e'' : b_ = g183 := e'; rw [← e'']; exact hb))).lo hk206).lo hk219).kp hk231 (fun b_ hb e' => hd226 (by have e'' : b_ = g216 := e'; rw [← e'']; exact hb))).lo hk242).lo hk255).kp hk268 (fun b_ hb e' => hd262 (by have e'' : b_ = g252 := e'; rw [← e'']; exact hb))).lo hk281).lo hk535).lo hk540).base_le e'; omega
            have hd561 : ¬ A164 = some ⟨g550, 0, none⟩ := fun e' => by have := ((((hm275).lo hk281).lo hk535).lo hk540).base_le e'; omega
            have hd562 : ¬ A168 = some ⟨g550, 0, none⟩ := fun e' => by have := ((((hm276).lo hk281).lo hk535).lo hk540).base_le e'; omega
            have hd563 : ¬ A207 = some ⟨g550, 0, none⟩ := fun e' => by have := ((((hm278).lo hk281).lo hk535).lo hk540).base_le e'; omega
            have hd564 : ¬ A243 = some ⟨g550, 0, none⟩ := fun e' => by have := ((((hm279).lo hk281).lo hk535).lo hk540).base_le e'; omega
            have hd565 : ¬ A541 = some ⟨g550, 0, none⟩ := fun e' => by have := (hO544).base_le e'; omega
            refine SR.store (o := 0) (vs := [.int .i64 (((newJ v536).1).State), .slice A541 n542 c543, .int .i64 (((newJ v536).1).Next), .int .i64 (((newJ v536).1).Fails), .int .i64 (((newJ v536).1).Size)]) agg41.2 rfl rfl rfl rfl (hb555) (Nat.le_of_ble_eq_true rfl) rfl ?_
            intro w566 hk567 hs568 hb569
            have hz570 := hk567.size
            have hB571 := hB557.new hk567 (by omega)
            refine SR.q' (r_as (v := .bool _) rfl) <| SR.nil ?_
            refine W.seq ?_
            have hm572 := ((hO544).lo hk553).kp hk567 (fun b_ hb e' => hd565 (by have e'' : b_ = g550 := e'; rw [← e'']; exact hb))
            refine W.regS (SR.q' (r_mv (v := .int .i64 _) rfl) <| SR.call ent46 (c_spec_NewScan w566 v536) rfl ?_)
            rintro e w573 ⟨A575, n576, c577, rfl, hO578, hk574⟩
            refine ⟨_, rfl, ?_⟩
            have hz579 := hk574.size
            have hB580 := hB571.lo hk574
            have hl581 := hO578.len
            have hl582 := hO578.rd.bound
            have hq583 : (newJ v536).1.Tiles.length ≤ 8 := newJ_len v536
            refine SR.q' (r_mv (v := .tuple (List.toArray _)) rfl) <| SR.q' (r_ext (v := .agg (List.toArray _)) rfl rfl) <| SR.q' (r_ext (v := .bool _) rfl rfl) <| SR.alloc (l := [.int .i64 0, .slice none 0 0, .int .i64 0, .int .i64 0, .int .i64 0]) tz41 rfl ?_
            intro g584 w585 hg586 hk587 hs588 hb589
            have hz590 := hk587.size
            have hB591 := hB580.lo hk587
            have hd592 : ¬ A8 = some ⟨g584, 0, none⟩ := fun e' => by have := ((((((((((((((((((hm114).lo hk134).lo hk153).lo hk163).lo hk186).kp hk197 (fun b_ hb e' => hd191 (by have e'' : b_ = g183 := e'; rw [← e'']; exact hb))).lo hk206).lo hk219).kp hk231 (fun b_ hb e' => hd224 (by have e'' : b_ = g216 := e'; rw [← e'']; exact hb))).lo hk242).lo hk255).kp hk268 (fun b_ hb e' => hd260 (by have e'' : b_ = g252 := e'; rw [← e'']; exact hb))).lo hk281).lo hk535).lo hk540).lo hk553).kp hk567 (fun b_ hb e' => hd558 (by have e'' : b_ = g550 := e'; rw [← e'']; exact hb))).lo hk574).base_le e'; omega
            have hd593 : ¬ A54 = some ⟨g584, 0, none⟩ := fun e' => by have := ((((((((((((((((((hm116).lo hk134).lo hk153).lo hk163).lo hk186).kp hk197 (fun b_ hb e' => hd192 (by have e'' : b_ = g183 := e'; rw [← e'']; exact hb))).lo hk206).lo hk219).kp hk231 (fun b_ hb e' => hd225 (by have e'' : b_ = g216 := e'; rw [← e'']; exact hb))).lo hk242).lo hk255).kp hk268 (fun b_ hb e' => hd261 (by have e'' : b_ = g252 := e'; rw [← e'']; exact hb))).lo hk281).lo hk535).lo hk540).lo hk553).kp hk567 (fun b_ hb e' => hd559 (by have e'' : b_ = g550 := e'; rw [← e'']; exact hb))).lo hk574).base_le e'; omega
            have hd594 : ¬ A86 = some ⟨g584, 0, none⟩ := fun e' => by have := ((((((((((((((((((hm117).lo hk134).lo hk153).lo hk163).lo hk186).kp hk197 (fun b_ hb e' => hd193 (by have e'' : b_ = g183 := e'; rw [← e'']; exact hb))).lo hk206).lo hk219).kp hk231 (fun b_ hb e' => hd226 (by have e'' : b_ = g216 := e'; rw [← e'']; exact hb))).lo hk242).lo hk255).kp hk268 (fun b_ hb e' => hd262 (by have e'' : b_ = g252 := e'; rw [← e'']; exact hb))).lo hk281).lo hk535).lo hk540).lo hk553).kp hk567 (fun b_ hb e' => hd560 (by have e'' : b_ = g550 := e'; rw [← e'']; exact hb))).lo hk574).base_le e'; omega
            have hd595 : ¬ A164 = some ⟨g584, 0, none⟩ := fun e' => by have := (((((((hm275).lo hk281).lo hk535).lo hk540).lo hk553).kp hk567 (fun b_ hb e' => hd561 (by have e'' : b_ = g550 := e'; rw [← e'']; exact hb))).lo hk574).base_le e'; omega
            have hd596 : ¬ A168 = some ⟨g584, 0, none⟩ := fun e' => by have := (((((((hm276).lo hk281).lo hk535).lo hk540).lo hk553).kp hk567 (fun b_ hb e' => hd562 (by have e'' : b_ = g550 := e'; rw [← e'']; exact hb))).lo hk574).base_le e'; omega
            have hd597 : ¬ A207 = some ⟨g584, 0, none⟩ := fun e' => by have := (((((((hm278).lo hk281).lo hk535).lo hk540).lo hk553).kp hk567 (fun b_ hb e' => hd563 (by have e'' : b_ = g550 := e'; rw [← e'']; exact hb))).lo hk574).base_le e'; omega
            have hd598 : ¬ A243 = some ⟨g584, 0, none⟩ := fun e' => by have := (((((((hm279).lo hk281).lo hk535).lo hk540).lo hk553).kp hk567 (fun b_ hb e' => hd564 (by have e'' : b_ = g550 := e'; rw [← e'']; exact hb))).lo hk574).base_le e'; omega
            have hd599 : ¬ A541 = some ⟨g584, 0, none⟩ := fun e' => by have := ((hm572).lo hk574).base_le e'; omega
            have hd600 : ¬ A575 = some ⟨g584, 0, none⟩ := fun e' => by have := (hO578).base_le e'; omega
            refine SR.store (o := 0) (vs := [.int .i64 (((newJ v536).1).State), .slice A575 n576 c577, .int .i64 (((newJ v536).1).Next), .int .i64 (((newJ v536).1).Fails), .int .i64 (((newJ v536).1).Size)]) agg41.2 rfl rfl rfl rfl (hb589) (Nat.le_of_ble_eq_true rfl) rfl ?_
            intro w601 hk602 hs603 hb604
            have hz605 := hk602.size
            have hB606 := hB591.new hk602 (by omega)
            refine SR.q' (r_as (v := .bool _) rfl) <| SR.nil ?_
            refine W.seq ?_
            have hm607 := (((hb569).lo hk574).lo hk587).kp hk602 (fun e' => by have e'' : g550 = g584 := e'; omega)
            have hm608 := (((hm572).lo hk574).lo hk587).kp hk602 (fun b_ hb e' => hd599 (by have e'' : b_ = g584 := e'; rw [← e'']; exact hb))
            have hm609 := ((hO578).lo hk587).kp hk602 (fun b_ hb e' => hd600 (by have e'' : b_ = g584 := e'; rw [← e'']; exact hb))
            refine W.regS (SR.q' (r_mv (v := .bool _) rfl) <| SR.q' (r_mv (v := .bool _) rfl) <| SR.q' (r_eqb_s und4 rfl rfl) <| SR.q' (r_mv (v := .bool _) rfl) <| SR.g' rfl (r_lda (l := [.int .i64 (((newJ v536).1).State), .slice A541 n542 c543, .int .i64 (((newJ v536).1).Next), .int .i64 (((newJ v536).1).Fails), .int .i64 (((newJ v536).1).Size)]) agg41 rfl (fun _ _ hu => (hm607).cell hu) rfl) <| SR.g' rfl (r_lda (l := [.int .i64 (((newJ v536).1).State), .slice A575 n576 c577, .int .i64 (((newJ v536).1).Next), .int .i64 (((newJ v536).1).Fails), .int .i64 (((newJ v536).1).Size)]) agg41 rfl (fun _ _ hu => (hb604).cell hu) rfl) <| SR.gcall rfl ent39 (c_laws_vJob w601 ((newJ v536).1) (((hm608).rd)) ((newJ v536).1) (((hm609).rd))) rfl ?_)
            rintro e w610 ⟨rfl, hk611⟩
            refine ⟨_, rfl, ?_⟩
            have hz612 := hk611.size
            have hB613 := hB606.lo hk611
            refine SR.q' (r_pick true rfl (v := .bool _) rfl) <| SR.q' (r_as (v := .bool _) rfl) <| SR.nil ?_
            refine W.ret ?_
            refine ret1 rfl (v := .bool _) rfl ?_
            exact ⟨eR (eB (z_c_laws_FnScanJobs_614 L nL hbdL hleL h5 v12 v13 hq14 n9 hl17 hl18 hq19 n55 hl60 hl61 hq62 n87 hl92 hl93 hq94 h137 hq139 hq140 hq141 h156 v173 v174 hq175 hq176 n165 hl179 hl180 n169 hl181 hl182 n208 hl213 hl214 hq215 n244 hl249 hl250 hq251 h284 h286 v536 n542 hl547 hl548 hq549 n576 hl581 hl582 hq583)), hB613⟩
end Go.Proofs.Ytlpapeeaghmjpaa
