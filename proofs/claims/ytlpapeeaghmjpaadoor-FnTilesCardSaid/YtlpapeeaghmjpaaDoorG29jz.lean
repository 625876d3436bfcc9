/- Walks, printed by a program of this claim's author. -/
import Derived.Test.YtlpapeeaghmjpaaDoorChecked
import Derived.Test.YtlpapeeaghmjpaaDoorSd
import Derived.Test.YtlpapeeaghmjpaaDoorFu
import Derived.Test.YtlpapeeaghmjpaaDoorFs
import Derived.Test.YtlpapeeaghmjpaaDoorFq
import Derived.Test.YtlpapeeaghmjpaaDoorFo
import Derived.Test.YtlpapeeaghmjpaaDoorG29jb
namespace Go.Proofs.YtlpapeeaghmjpaaDoor
open Go Go.RowKit Fw
set_option maxRecDepth 10000
set_option linter.unusedVariables false
theorem ent11 : Ent Tryd.prog 11 := ent_of Tryd.func11 (by decide +kernel) rfl
theorem ent27 : Ent Tryd.prog 27 := ent_of Tryd.func27 (by decide +kernel) rfl
theorem ent28 : Ent Tryd.prog 28 := ent_of Tryd.func28 (by decide +kernel) rfl
theorem ent29 : Ent Tryd.prog 29 := ent_of Tryd.func29 (by decide +kernel) rfl
theorem ent30 : Ent Tryd.prog 30 := ent_of Tryd.func30 (by decide +kernel) rfl
theorem ent31 : Ent Tryd.prog 31 := ent_of Tryd.func31 (by decide +kernel) rfl
theorem ent32 : Ent Tryd.prog 32 := ent_of Tryd.func32 (by decide +kernel) rfl
theorem ent33 : Ent Tryd.prog 33 := ent_of Tryd.func33 (by decide +kernel) rfl
theorem ent34 : Ent Tryd.prog 34 := ent_of Tryd.func34 (by decide +kernel) rfl
theorem ent35 : Ent Tryd.prog 35 := ent_of Tryd.func35 (by decide +kernel) rfl
theorem ent36 : Ent Tryd.prog 36 := ent_of Tryd.func36 (by decide +kernel) rfl
theorem ent37 : Ent Tryd.prog 37 := ent_of Tryd.func37 (by decide +kernel) rfl
theorem ent38 : Ent Tryd.prog 38 := ent_of Tryd.func38 (by decide +kernel) rfl
theorem tel61 : TEl Tryd.prog 61 60 (.agg (List.toArray [.int .i64 0, .int .i64 0])) 2 16 := ⟨by kernel_rfl, by kernel_rfl, rfl, by decide⟩
theorem und4 : Tryd.prog.underlying 4 = some (.bool) := by kernel_rfl

theorem z_c_laws_FnTiles_71 (L : List UInt8) (nL : Nat) (hbdL : (nL : Int) ≤ 9223372036854775807) (hleL : nL = L.length) (h5 : ¬ (65536 < (L.length : Int))) (v12 : ScanJob) (hq13 : v12.Tiles.length ≤ 9) (n9 : Nat) (hl16 : n9 = (v12.Tiles).length) (hl17 : (n9 : Int) ≤ 9223372036854775807) (hq18 : DoLaw v12) (hq51 : 0 ≤ leftN v12 ∧ leftN v12 ≤ 8) (hq56 : 0 ≤ leftN v12 ∧ leftN v12 ≤ 8) (h60 : JobOK v12) (hq61 : v12.Tiles.length ≤ 8 ∧ takenN v12.Tiles ≤ v12.Tiles.length ∧ (0 ≤ sumI v12.Tiles ∧ sumI v12.Tiles ≤ 800) ∧ (1 ≤ (v12.Tiles.length : Int) ∧ v12.Next = (takenN v12.Tiles : Int) ∧ v12.Size = 10 * sumI v12.Tiles ∧ (0 ≤ v12.State ∧ v12.State ≤ 3) ∧ (0 ≤ v12.Fails ∧ v12.Fails ≤ 3) ∧ (v12.Fails = 3 → v12.State = 2) ∧ (v12.State = 0 → takenN v12.Tiles = 0 ∧ v12.Fails = 0) ∧ (v12.State = 3 → takenN v12.Tiles = v12.Tiles.length))) : 0 ≤ 8 ∧ (0 : Int) ≤ leftN v12 := by
  omega
theorem z_c_laws_FnTiles_72 (L : List UInt8) (nL : Nat) (hbdL : (nL : Int) ≤ 9223372036854775807) (hleL : nL = L.length) (h5 : ¬ (65536 < (L.length : Int))) (v12 : ScanJob) (hq13 : v12.Tiles.length ≤ 9) (n9 : Nat) (hl16 : n9 = (v12.Tiles).length) (hl17 : (n9 : Int) ≤ 9223372036854775807) (hq18 : DoLaw v12) (hq51 : 0 ≤ leftN v12 ∧ leftN v12 ≤ 8) (hq56 : 0 ≤ leftN v12 ∧ leftN v12 ≤ 8) (h60 : JobOK v12) (hq61 : v12.Tiles.length ≤ 8 ∧ takenN v12.Tiles ≤ v12.Tiles.length ∧ (0 ≤ sumI v12.Tiles ∧ sumI v12.Tiles ≤ 800) ∧ (1 ≤ (v12.Tiles.length : Int) ∧ v12.Next = (takenN v12.Tiles : Int) ∧ v12.Size = 10 * sumI v12.Tiles ∧ (0 ≤ v12.State ∧ v12.State ≤ 3) ∧ (0 ≤ v12.Fails ∧ v12.Fails ≤ 3) ∧ (v12.Fails = 3 → v12.State = 2) ∧ (v12.State = 0 → takenN v12.Tiles = 0 ∧ v12.Fails = 0) ∧ (v12.State = 3 → takenN v12.Tiles = v12.Tiles.length))) : ([(⟨1, 0⟩ : ScanStep), (⟨5, 0⟩ : ScanStep)] : List ScanStep) = stepsT 0 := by
  rfl
theorem z_c_laws_FnTiles_121 (L : List UInt8) (nL : Nat) (hbdL : (nL : Int) ≤ 9223372036854775807) (hleL : nL = L.length) (h5 : ¬ (65536 < (L.length : Int))) (v12 : ScanJob) (hq13 : v12.Tiles.length ≤ 9) (n9 : Nat) (hl16 : n9 = (v12.Tiles).length) (hl17 : (n9 : Int) ≤ 9223372036854775807) (hq18 : DoLaw v12) (hq51 : 0 ≤ leftN v12 ∧ leftN v12 ≤ 8) (hq56 : 0 ≤ leftN v12 ∧ leftN v12 ≤ 8) (h60 : JobOK v12) (hq61 : v12.Tiles.length ≤ 8 ∧ takenN v12.Tiles ≤ v12.Tiles.length ∧ (0 ≤ sumI v12.Tiles ∧ sumI v12.Tiles ≤ 800) ∧ (1 ≤ (v12.Tiles.length : Int) ∧ v12.Next = (takenN v12.Tiles : Int) ∧ v12.Size = 10 * sumI v12.Tiles ∧ (0 ≤ v12.State ∧ v12.State ≤ 3) ∧ (0 ≤ v12.Fails ∧ v12.Fails ≤ 3) ∧ (v12.Fails = 3 → v12.State = 2) ∧ (v12.State = 0 → takenN v12.Tiles = 0 ∧ v12.Fails = 0) ∧ (v12.State = 3 → takenN v12.Tiles = v12.Tiles.length))) (i : Nat) (n70 : Nat) (c70 : Nat) (hi81 : i ≤ 8 ∧ (i : Int) ≤ leftN v12) (hl85 : n70 = (stepsT i).length) (hq87 : (stepsT i).length = i + 2) (h95 : ((i : Int) < (leftN v12)) ∧ ((i : Int) < 8)) (hq96 : (i : Int) < (leftN v12)) (hq97 : (i : Int) < 8) : (stepsT i) ++ ([(⟨2, 50⟩ : ScanStep)] : List ScanStep) = stepsT (i + 1) := by
  exact stepsT_next i
theorem z_c_laws_FnTiles_122 (L : List UInt8) (nL : Nat) (hbdL : (nL : Int) ≤ 9223372036854775807) (hleL : nL = L.length) (h5 : ¬ (65536 < (L.length : Int))) (v12 : ScanJob) (hq13 : v12.Tiles.length ≤ 9) (n9 : Nat) (hl16 : n9 = (v12.Tiles).length) (hl17 : (n9 : Int) ≤ 9223372036854775807) (hq18 : DoLaw v12) (hq51 : 0 ≤ leftN v12 ∧ leftN v12 ≤ 8) (hq56 : 0 ≤ leftN v12 ∧ leftN v12 ≤ 8) (h60 : JobOK v12) (hq61 : v12.Tiles.length ≤ 8 ∧ takenN v12.Tiles ≤ v12.Tiles.length ∧ (0 ≤ sumI v12.Tiles ∧ sumI v12.Tiles ≤ 800) ∧ (1 ≤ (v12.Tiles.length : Int) ∧ v12.Next = (takenN v12.Tiles : Int) ∧ v12.Size = 10 * sumI v12.Tiles ∧ (0 ≤ v12.State ∧ v12.State ≤ 3) ∧ (0 ≤ v12.Fails ∧ v12.Fails ≤ 3) ∧ (v12.Fails = 3 → v12.State = 2) ∧ (v12.State = 0 → takenN v12.Tiles = 0 ∧ v12.Fails = 0) ∧ (v12.State = 3 → takenN v12.Tiles = v12.Tiles.length))) (i : Nat) (n70 : Nat) (c70 : Nat) (hi81 : i ≤ 8 ∧ (i : Int) ≤ leftN v12) (hl85 : n70 = (stepsT i).length) (hq87 : (stepsT i).length = i + 2) (h95 : ((i : Int) < (leftN v12)) ∧ ((i : Int) < 8)) (hq96 : (i : Int) < (leftN v12)) (hq97 : (i : Int) < 8) : i + 1 ≤ 8 ∧ ((i + 1 : Nat) : Int) ≤ leftN v12 := by
  omega
theorem z_c_laws_FnTiles_123 (L : List UInt8) (nL : Nat) (hbdL : (nL : Int) ≤ 9223372036854775807) (hleL : nL = L.length) (h5 : ¬ (65536 < (L.length : Int))) (v12 : ScanJob) (hq13 : v12.Tiles.length ≤ 9) (n9 : Nat) (hl16 : n9 = (v12.Tiles).length) (hl17 : (n9 : Int) ≤ 9223372036854775807) (hq18 : DoLaw v12) (hq51 : 0 ≤ leftN v12 ∧ leftN v12 ≤ 8) (hq56 : 0 ≤ leftN v12 ∧ leftN v12 ≤ 8) (h60 : JobOK v12) (hq61 : v12.Tiles.length ≤ 8 ∧ takenN v12.Tiles ≤ v12.Tiles.length ∧ (0 ≤ sumI v12.Tiles ∧ sumI v12.Tiles ≤ 800) ∧ (1 ≤ (v12.Tiles.length : Int) ∧ v12.Next = (takenN v12.Tiles : Int) ∧ v12.Size = 10 * sumI v12.Tiles ∧ (0 ≤ v12.State ∧ v12.State ≤ 3) ∧ (0 ≤ v12.Fails ∧ v12.Fails ≤ 3) ∧ (v12.Fails = 3 → v12.State = 2) ∧ (v12.State = 0 → takenN v12.Tiles = 0 ∧ v12.Fails = 0) ∧ (v12.State = 3 → takenN v12.Tiles = v12.Tiles.length))) (i : Nat) (n70 : Nat) (c70 : Nat) (hi81 : i ≤ 8 ∧ (i : Int) ≤ leftN v12) (hl85 : n70 = (stepsT i).length) (hq87 : (stepsT i).length = i + 2) (h95 : ((i : Int) < (leftN v12)) ∧ ((i : Int) < 8)) (hq96 : (i : Int) < (leftN v12)) (hq97 : (i : Int) < 8) : 8 - (i + 1) < 8 - i := by
  omega
theorem z_c_laws_FnTiles_369 (L : List UInt8) (nL : Nat) (hbdL : (nL : Int) ≤ 9223372036854775807) (hleL : nL = L.length) (h5 : ¬ (65536 < (L.length : Int))) (v12 : ScanJob) (hq13 : v12.Tiles.length ≤ 9) (n9 : Nat) (hl16 : n9 = (v12.Tiles).length) (hl17 : (n9 : Int) ≤ 9223372036854775807) (hq18 : DoLaw v12) (hq51 : 0 ≤ leftN v12 ∧ leftN v12 ≤ 8) (hq56 : 0 ≤ leftN v12 ∧ leftN v12 ≤ 8) (h60 : JobOK v12) (hq61 : v12.Tiles.length ≤ 8 ∧ takenN v12.Tiles ≤ v12.Tiles.length ∧ (0 ≤ sumI v12.Tiles ∧ sumI v12.Tiles ≤ 800) ∧ (1 ≤ (v12.Tiles.length : Int) ∧ v12.Next = (takenN v12.Tiles : Int) ∧ v12.Size = 10 * sumI v12.Tiles ∧ (0 ≤ v12.State ∧ v12.State ≤ 3) ∧ (0 ≤ v12.Fails ∧ v12.Fails ≤ 3) ∧ (v12.Fails = 3 → v12.State = 2) ∧ (v12.State = 0 → takenN v12.Tiles = 0 ∧ v12.Fails = 0) ∧ (v12.State = 3 → takenN v12.Tiles = v12.Tiles.length))) (i : Nat) (n70 : Nat) (c70 : Nat) (hi81 : i ≤ 8 ∧ (i : Int) ≤ leftN v12) (hl85 : n70 = (stepsT i).length) (hq87 : (stepsT i).length = i + 2) (h95 : ¬ (((i : Int) < (leftN v12)) ∧ ((i : Int) < 8))) (n176 : Nat) (hl182 : n176 = (((runFJ v12 ((stepsT i) ++ ([(⟨6, 0⟩ : ScanStep)] : List ScanStep))).1).Tiles).length) (hl183 : (n176 : Int) ≤ 9223372036854775807) (hq184 : (((runFJ v12 ((stepsT i) ++ ([(⟨6, 0⟩ : ScanStep)] : List ScanStep))).1).Tiles).length ≤ 8) (h368 : ((!((runFJ v12 ((stepsT i) ++ ([(⟨6, 0⟩ : ScanStep)] : List ScanStep))).2.2)) = true) ∨ ((¬ (((runFJ v12 ((stepsT i) ++ ([(⟨6, 0⟩ : ScanStep)] : List ScanStep))).2.1) = (doneN v12))) ∨ (¬ ((((runFJ v12 ((stepsT i) ++ ([(⟨6, 0⟩ : ScanStep)] : List ScanStep))).1).State) = 3)))) : false = true := by
  exfalso; first | exact dol_bad (k := i) ‹DoLaw _› (by assumption) (by omega) (by assumption) | exact wor_bad (j := j) ‹JobOK _ ∧ ¬ (_ : Int) = 0› (by omega) (by assumption)
theorem z_c_laws_FnTiles_415 (L : List UInt8) (nL : Nat) (hbdL : (nL : Int) ≤ 9223372036854775807) (hleL : nL = L.length) (h5 : ¬ (65536 < (L.length : Int))) (v12 : ScanJob) (hq13 : v12.Tiles.length ≤ 9) (n9 : Nat) (hl16 : n9 = (v12.Tiles).length) (hl17 : (n9 : Int) ≤ 9223372036854775807) (hq18 : DoLaw v12) (hq51 : 0 ≤ leftN v12 ∧ leftN v12 ≤ 8) (hq56 : 0 ≤ leftN v12 ∧ leftN v12 ≤ 8) (h60 : JobOK v12) (hq61 : v12.Tiles.length ≤ 8 ∧ takenN v12.Tiles ≤ v12.Tiles.length ∧ (0 ≤ sumI v12.Tiles ∧ sumI v12.Tiles ≤ 800) ∧ (1 ≤ (v12.Tiles.length : Int) ∧ v12.Next = (takenN v12.Tiles : Int) ∧ v12.Size = 10 * sumI v12.Tiles ∧ (0 ≤ v12.State ∧ v12.State ≤ 3) ∧ (0 ≤ v12.Fails ∧ v12.Fails ≤ 3) ∧ (v12.Fails = 3 → v12.State = 2) ∧ (v12.State = 0 → takenN v12.Tiles = 0 ∧ v12.Fails = 0) ∧ (v12.State = 3 → takenN v12.Tiles = v12.Tiles.length))) (i : Nat) (n70 : Nat) (c70 : Nat) (hi81 : i ≤ 8 ∧ (i : Int) ≤ leftN v12) (hl85 : n70 = (stepsT i).length) (hq87 : (stepsT i).length = i + 2) (h95 : ¬ (((i : Int) < (leftN v12)) ∧ ((i : Int) < 8))) (n176 : Nat) (hl182 : n176 = (((runFJ v12 ((stepsT i) ++ ([(⟨6, 0⟩ : ScanStep)] : List ScanStep))).1).Tiles).length) (hl183 : (n176 : Int) ≤ 9223372036854775807) (hq184 : (((runFJ v12 ((stepsT i) ++ ([(⟨6, 0⟩ : ScanStep)] : List ScanStep))).1).Tiles).length ≤ 8) (h368 : ¬ (((!((runFJ v12 ((stepsT i) ++ ([(⟨6, 0⟩ : ScanStep)] : List ScanStep))).2.2)) = true) ∨ ((¬ (((runFJ v12 ((stepsT i) ++ ([(⟨6, 0⟩ : ScanStep)] : List ScanStep))).2.1) = (doneN v12))) ∨ (¬ ((((runFJ v12 ((stepsT i) ++ ([(⟨6, 0⟩ : ScanStep)] : List ScanStep))).1).State) = 3))))) (hq370 : ¬ ((!((runFJ v12 ((stepsT i) ++ ([(⟨6, 0⟩ : ScanStep)] : List ScanStep))).2.2)) = true)) (hq371 : ((runFJ v12 ((stepsT i) ++ ([(⟨6, 0⟩ : ScanStep)] : List ScanStep))).2.1) = (doneN v12)) (hq372 : (((runFJ v12 ((stepsT i) ++ ([(⟨6, 0⟩ : ScanStep)] : List ScanStep))).1).State) = 3) (v379 : ScanJob) (hq380 : v379.Tiles.length ≤ 9) (n376 : Nat) (hl383 : n376 = (v379.Tiles).length) (hl384 : (n376 : Int) ≤ 9223372036854775807) : 0 ≤ 9 := by
  omega
theorem z_c_laws_FnTiles_451 (L : List UInt8) (nL : Nat) (hbdL : (nL : Int) ≤ 9223372036854775807) (hleL : nL = L.length) (h5 : ¬ (65536 < (L.length : Int))) (v12 : ScanJob) (hq13 : v12.Tiles.length ≤ 9) (n9 : Nat) (hl16 : n9 = (v12.Tiles).length) (hl17 : (n9 : Int) ≤ 9223372036854775807) (hq18 : DoLaw v12) (hq51 : 0 ≤ leftN v12 ∧ leftN v12 ≤ 8) (hq56 : 0 ≤ leftN v12 ∧ leftN v12 ≤ 8) (h60 : JobOK v12) (hq61 : v12.Tiles.length ≤ 8 ∧ takenN v12.Tiles ≤ v12.Tiles.length ∧ (0 ≤ sumI v12.Tiles ∧ sumI v12.Tiles ≤ 800) ∧ (1 ≤ (v12.Tiles.length : Int) ∧ v12.Next = (takenN v12.Tiles : Int) ∧ v12.Size = 10 * sumI v12.Tiles ∧ (0 ≤ v12.State ∧ v12.State ≤ 3) ∧ (0 ≤ v12.Fails ∧ v12.Fails ≤ 3) ∧ (v12.Fails = 3 → v12.State = 2) ∧ (v12.State = 0 → takenN v12.Tiles = 0 ∧ v12.Fails = 0) ∧ (v12.State = 3 → takenN v12.Tiles = v12.Tiles.length))) (i : Nat) (n70 : Nat) (c70 : Nat) (hi81 : i ≤ 8 ∧ (i : Int) ≤ leftN v12) (hl85 : n70 = (stepsT i).length) (hq87 : (stepsT i).length = i + 2) (h95 : ¬ (((i : Int) < (leftN v12)) ∧ ((i : Int) < 8))) (n176 : Nat) (hl182 : n176 = (((runFJ v12 ((stepsT i) ++ ([(⟨6, 0⟩ : ScanStep)] : List ScanStep))).1).Tiles).length) (hl183 : (n176 : Int) ≤ 9223372036854775807) (hq184 : (((runFJ v12 ((stepsT i) ++ ([(⟨6, 0⟩ : ScanStep)] : List ScanStep))).1).Tiles).length ≤ 8) (h368 : ¬ (((!((runFJ v12 ((stepsT i) ++ ([(⟨6, 0⟩ : ScanStep)] : List ScanStep))).2.2)) = true) ∨ ((¬ (((runFJ v12 ((stepsT i) ++ ([(⟨6, 0⟩ : ScanStep)] : List ScanStep))).2.1) = (doneN v12))) ∨ (¬ ((((runFJ v12 ((stepsT i) ++ ([(⟨6, 0⟩ : ScanStep)] : List ScanStep))).1).State) = 3))))) (hq370 : ¬ ((!((runFJ v12 ((stepsT i) ++ ([(⟨6, 0⟩ : ScanStep)] : List ScanStep))).2.2)) = true)) (hq371 : ((runFJ v12 ((stepsT i) ++ ([(⟨6, 0⟩ : ScanStep)] : List ScanStep))).2.1) = (doneN v12)) (hq372 : (((runFJ v12 ((stepsT i) ++ ([(⟨6, 0⟩ : ScanStep)] : List ScanStep))).1).State) = 3) (v379 : ScanJob) (hq380 : v379.Tiles.length ≤ 9) (n376 : Nat) (hl383 : n376 = (v379.Tiles).length) (hl384 : (n376 : Int) ≤ 9223372036854775807) (j : Nat) (hi423 : j ≤ 9) (h432 : ((j : Int) < (n376 : Int)) ∧ (JobOK v379 ∧ ¬ v379.Next = 0)) (hq433 : (j : Int) < (n376 : Int)) (hq434 : JobOK v379 ∧ ¬ v379.Next = 0) (hq442 : v379.Tiles[j]? = some (gt v379.Tiles j)) (h445 : (¬ ((gt v379.Tiles j) = 0)) ∧ ((gt v379.Tiles j) < ((worstN v379).2))) (hq446 : ¬ ((gt v379.Tiles j) = 0)) (hq447 : (gt v379.Tiles j) < ((worstN v379).2)) : false = true := by
  exfalso; first | exact dol_bad (k := i) ‹DoLaw _› (by assumption) (by omega) (by assumption) | exact wor_bad (j := j) ‹JobOK _ ∧ ¬ (_ : Int) = 0› (by omega) (by assumption)
theorem z_c_laws_FnTiles_455 (L : List UInt8) (nL : Nat) (hbdL : (nL : Int) ≤ 9223372036854775807) (hleL : nL = L.length) (h5 : ¬ (65536 < (L.length : Int))) (v12 : ScanJob) (hq13 : v12.Tiles.length ≤ 9) (n9 : Nat) (hl16 : n9 = (v12.Tiles).length) (hl17 : (n9 : Int) ≤ 9223372036854775807) (hq18 : DoLaw v12) (hq51 : 0 ≤ leftN v12 ∧ leftN v12 ≤ 8) (hq56 : 0 ≤ leftN v12 ∧ leftN v12 ≤ 8) (h60 : JobOK v12) (hq61 : v12.Tiles.length ≤ 8 ∧ takenN v12.Tiles ≤ v12.Tiles.length ∧ (0 ≤ sumI v12.Tiles ∧ sumI v12.Tiles ≤ 800) ∧ (1 ≤ (v12.Tiles.length : Int) ∧ v12.Next = (takenN v12.Tiles : Int) ∧ v12.Size = 10 * sumI v12.Tiles ∧ (0 ≤ v12.State ∧ v12.State ≤ 3) ∧ (0 ≤ v12.Fails ∧ v12.Fails ≤ 3) ∧ (v12.Fails = 3 → v12.State = 2) ∧ (v12.State = 0 → takenN v12.Tiles = 0 ∧ v12.Fails = 0) ∧ (v12.State = 3 → takenN v12.Tiles = v12.Tiles.length))) (i : Nat) (n70 : Nat) (c70 : Nat) (hi81 : i ≤ 8 ∧ (i : Int) ≤ leftN v12) (hl85 : n70 = (stepsT i).length) (hq87 : (stepsT i).length = i + 2) (h95 : ¬ (((i : Int) < (leftN v12)) ∧ ((i : Int) < 8))) (n176 : Nat) (hl182 : n176 = (((runFJ v12 ((stepsT i) ++ ([(⟨6, 0⟩ : ScanStep)] : List ScanStep))).1).Tiles).length) (hl183 : (n176 : Int) ≤ 9223372036854775807) (hq184 : (((runFJ v12 ((stepsT i) ++ ([(⟨6, 0⟩ : ScanStep)] : List ScanStep))).1).Tiles).length ≤ 8) (h368 : ¬ (((!((runFJ v12 ((stepsT i) ++ ([(⟨6, 0⟩ : ScanStep)] : List ScanStep))).2.2)) = true) ∨ ((¬ (((runFJ v12 ((stepsT i) ++ ([(⟨6, 0⟩ : ScanStep)] : List ScanStep))).2.1) = (doneN v12))) ∨ (¬ ((((runFJ v12 ((stepsT i) ++ ([(⟨6, 0⟩ : ScanStep)] : List ScanStep))).1).State) = 3))))) (hq370 : ¬ ((!((runFJ v12 ((stepsT i) ++ ([(⟨6, 0⟩ : ScanStep)] : List ScanStep))).2.2)) = true)) (hq371 : ((runFJ v12 ((stepsT i) ++ ([(⟨6, 0⟩ : ScanStep)] : List ScanStep))).2.1) = (doneN v12)) (hq372 : (((runFJ v12 ((stepsT i) ++ ([(⟨6, 0⟩ : ScanStep)] : List ScanStep))).1).State) = 3) (v379 : ScanJob) (hq380 : v379.Tiles.length ≤ 9) (n376 : Nat) (hl383 : n376 = (v379.Tiles).length) (hl384 : (n376 : Int) ≤ 9223372036854775807) (j : Nat) (hi423 : j ≤ 9) (h432 : ((j : Int) < (n376 : Int)) ∧ (JobOK v379 ∧ ¬ v379.Next = 0)) (hq433 : (j : Int) < (n376 : Int)) (hq434 : JobOK v379 ∧ ¬ v379.Next = 0) (hq442 : v379.Tiles[j]? = some (gt v379.Tiles j)) (h445 : ¬ ((¬ ((gt v379.Tiles j) = 0)) ∧ ((gt v379.Tiles j) < ((worstN v379).2)))) : j + 1 ≤ 9 := by
  omega
theorem z_c_laws_FnTiles_456 (L : List UInt8) (nL : Nat) (hbdL : (nL : Int) ≤ 9223372036854775807) (hleL : nL = L.length) (h5 : ¬ (65536 < (L.length : Int))) (v12 : ScanJob) (hq13 : v12.Tiles.length ≤ 9) (n9 : Nat) (hl16 : n9 = (v12.Tiles).length) (hl17 : (n9 : Int) ≤ 9223372036854775807) (hq18 : DoLaw v12) (hq51 : 0 ≤ leftN v12 ∧ leftN v12 ≤ 8) (hq56 : 0 ≤ leftN v12 ∧ leftN v12 ≤ 8) (h60 : JobOK v12) (hq61 : v12.Tiles.length ≤ 8 ∧ takenN v12.Tiles ≤ v12.Tiles.length ∧ (0 ≤ sumI v12.Tiles ∧ sumI v12.Tiles ≤ 800) ∧ (1 ≤ (v12.Tiles.length : Int) ∧ v12.Next = (takenN v12.Tiles : Int) ∧ v12.Size = 10 * sumI v12.Tiles ∧ (0 ≤ v12.State ∧ v12.State ≤ 3) ∧ (0 ≤ v12.Fails ∧ v12.Fails ≤ 3) ∧ (v12.Fails = 3 → v12.State = 2) ∧ (v12.State = 0 → takenN v12.Tiles = 0 ∧ v12.Fails = 0) ∧ (v12.State = 3 → takenN v12.Tiles = v12.Tiles.length))) (i : Nat) (n70 : Nat) (c70 : Nat) (hi81 : i ≤ 8 ∧ (i : Int) ≤ leftN v12) (hl85 : n70 = (stepsT i).length) (hq87 : (stepsT i).length = i + 2) (h95 : ¬ (((i : Int) < (leftN v12)) ∧ ((i : Int) < 8))) (n176 : Nat) (hl182 : n176 = (((runFJ v12 ((stepsT i) ++ ([(⟨6, 0⟩ : ScanStep)] : List ScanStep))).1).Tiles).length) (hl183 : (n176 : Int) ≤ 9223372036854775807) (hq184 : (((runFJ v12 ((stepsT i) ++ ([(⟨6, 0⟩ : ScanStep)] : List ScanStep))).1).Tiles).length ≤ 8) (h368 : ¬ (((!((runFJ v12 ((stepsT i) ++ ([(⟨6, 0⟩ : ScanStep)] : List ScanStep))).2.2)) = true) ∨ ((¬ (((runFJ v12 ((stepsT i) ++ ([(⟨6, 0⟩ : ScanStep)] : List ScanStep))).2.1) = (doneN v12))) ∨ (¬ ((((runFJ v12 ((stepsT i) ++ ([(⟨6, 0⟩ : ScanStep)] : List ScanStep))).1).State) = 3))))) (hq370 : ¬ ((!((runFJ v12 ((stepsT i) ++ ([(⟨6, 0⟩ : ScanStep)] : List ScanStep))).2.2)) = true)) (hq371 : ((runFJ v12 ((stepsT i) ++ ([(⟨6, 0⟩ : ScanStep)] : List ScanStep))).2.1) = (doneN v12)) (hq372 : (((runFJ v12 ((stepsT i) ++ ([(⟨6, 0⟩ : ScanStep)] : List ScanStep))).1).State) = 3) (v379 : ScanJob) (hq380 : v379.Tiles.length ≤ 9) (n376 : Nat) (hl383 : n376 = (v379.Tiles).length) (hl384 : (n376 : Int) ≤ 9223372036854775807) (j : Nat) (hi423 : j ≤ 9) (h432 : ((j : Int) < (n376 : Int)) ∧ (JobOK v379 ∧ ¬ v379.Next = 0)) (hq433 : (j : Int) < (n376 : Int)) (hq434 : JobOK v379 ∧ ¬ v379.Next = 0) (hq442 : v379.Tiles[j]? = some (gt v379.Tiles j)) (h445 : ¬ ((¬ ((gt v379.Tiles j) = 0)) ∧ ((gt v379.Tiles j) < ((worstN v379).2)))) : 20 - (j + 1) < 20 - j := by
  omega
theorem z_c_laws_FnTiles_541 (L : List UInt8) (nL : Nat) (hbdL : (nL : Int) ≤ 9223372036854775807) (hleL : nL = L.length) (h5 : ¬ (65536 < (L.length : Int))) (v12 : ScanJob) (hq13 : v12.Tiles.length ≤ 9) (n9 : Nat) (hl16 : n9 = (v12.Tiles).length) (hl17 : (n9 : Int) ≤ 9223372036854775807) (hq18 : DoLaw v12) (hq51 : 0 ≤ leftN v12 ∧ leftN v12 ≤ 8) (hq56 : 0 ≤ leftN v12 ∧ leftN v12 ≤ 8) (h60 : ¬ (JobOK v12)) (v506 : ScanJob) (hq507 : v506.Tiles.length ≤ 9) (n503 : Nat) (hl510 : n503 = (v506.Tiles).length) (hl511 : (n503 : Int) ≤ 9223372036854775807) : 0 ≤ 9 := by
  omega
theorem z_c_laws_FnTiles_577 (L : List UInt8) (nL : Nat) (hbdL : (nL : Int) ≤ 9223372036854775807) (hleL : nL = L.length) (h5 : ¬ (65536 < (L.length : Int))) (v12 : ScanJob) (hq13 : v12.Tiles.length ≤ 9) (n9 : Nat) (hl16 : n9 = (v12.Tiles).length) (hl17 : (n9 : Int) ≤ 9223372036854775807) (hq18 : DoLaw v12) (hq51 : 0 ≤ leftN v12 ∧ leftN v12 ≤ 8) (hq56 : 0 ≤ leftN v12 ∧ leftN v12 ≤ 8) (h60 : ¬ (JobOK v12)) (v506 : ScanJob) (hq507 : v506.Tiles.length ≤ 9) (n503 : Nat) (hl510 : n503 = (v506.Tiles).length) (hl511 : (n503 : Int) ≤ 9223372036854775807) (j : Nat) (hi549 : j ≤ 9) (h558 : ((j : Int) < (n503 : Int)) ∧ (JobOK v506 ∧ ¬ v506.Next = 0)) (hq559 : (j : Int) < (n503 : Int)) (hq560 : JobOK v506 ∧ ¬ v506.Next = 0) (hq568 : v506.Tiles[j]? = some (gt v506.Tiles j)) (h571 : (¬ ((gt v506.Tiles j) = 0)) ∧ ((gt v506.Tiles j) < ((worstN v506).2))) (hq572 : ¬ ((gt v506.Tiles j) = 0)) (hq573 : (gt v506.Tiles j) < ((worstN v506).2)) : false = true := by
  exfalso; first | exact dol_bad (k := i) ‹DoLaw _› (by assumption) (by omega) (by assumption) | exact wor_bad (j := j) ‹JobOK _ ∧ ¬ (_ : Int) = 0› (by omega) (by assumption)
theorem z_c_laws_FnTiles_581 (L : List UInt8) (nL : Nat) (hbdL : (nL : Int) ≤ 9223372036854775807) (hleL : nL = L.length) (h5 : ¬ (65536 < (L.length : Int))) (v12 : ScanJob) (hq13 : v12.Tiles.length ≤ 9) (n9 : Nat) (hl16 : n9 = (v12.Tiles).length) (hl17 : (n9 : Int) ≤ 9223372036854775807) (hq18 : DoLaw v12) (hq51 : 0 ≤ leftN v12 ∧ leftN v12 ≤ 8) (hq56 : 0 ≤ leftN v12 ∧ leftN v12 ≤ 8) (h60 : ¬ (JobOK v12)) (v506 : ScanJob) (hq507 : v506.Tiles.length ≤ 9) (n503 : Nat) (hl510 : n503 = (v506.Tiles).length) (hl511 : (n503 : Int) ≤ 9223372036854775807) (j : Nat) (hi549 : j ≤ 9) (h558 : ((j : Int) < (n503 : Int)) ∧ (JobOK v506 ∧ ¬ v506.Next = 0)) (hq559 : (j : Int) < (n503 : Int)) (hq560 : JobOK v506 ∧ ¬ v506.Next = 0) (hq568 : v506.Tiles[j]? = some (gt v506.Tiles j)) (h571 : ¬ ((¬ ((gt v506.Tiles j) = 0)) ∧ ((gt v506.Tiles j) < ((worstN v506).2)))) : j + 1 ≤ 9 := by
  omega
theorem z_c_laws_FnTiles_582 (L : List UInt8) (nL : Nat) (hbdL : (nL : Int) ≤ 9223372036854775807) (hleL : nL = L.length) (h5 : ¬ (65536 < (L.length : Int))) (v12 : ScanJob) (hq13 : v12.Tiles.length ≤ 9) (n9 : Nat) (hl16 : n9 = (v12.Tiles).length) (hl17 : (n9 : Int) ≤ 9223372036854775807) (hq18 : DoLaw v12) (hq51 : 0 ≤ leftN v12 ∧ leftN v12 ≤ 8) (hq56 : 0 ≤ leftN v12 ∧ leftN v12 ≤ 8) (h60 : ¬ (JobOK v12)) (v506 : ScanJob) (hq507 : v506.Tiles.length ≤ 9) (n503 : Nat) (hl510 : n503 = (v506.Tiles).length) (hl511 : (n503 : Int) ≤ 9223372036854775807) (j : Nat) (hi549 : j ≤ 9) (h558 : ((j : Int) < (n503 : Int)) ∧ (JobOK v506 ∧ ¬ v506.Next = 0)) (hq559 : (j : Int) < (n503 : Int)) (hq560 : JobOK v506 ∧ ¬ v506.Next = 0) (hq568 : v506.Tiles[j]? = some (gt v506.Tiles j)) (h571 : ¬ ((¬ ((gt v506.Tiles j) = 0)) ∧ ((gt v506.Tiles j) < ((worstN v506).2)))) : 20 - (j + 1) < 20 - j := by
  omega
theorem c_laws_FnTiles (w : World) {AL : Option Addr} {nL cL BL : Nat}  (L : List UInt8) (hL : SlR w BL encB 1 AL nL cL L) (hE : EnvW w) : Calls Tryd.prog 5 #[.slice AL nL cL] w fun e w' => e = .returned (.bool true) ∧ Lo w w' := by
  refine calls_W 192 Tryd.func5 rfl rfl rfl ?_
  have hbdL := hL.bound
  have hleL := hL.len
  have hBbL := hL.bd
  refine W.seq ?_
  refine W.regS (SR.q' (r_as (v := .bool false) rfl) <| SR.nil ?_)
  refine W.seq ?_
  refine W.seq ?_
  refine W.regS (SR.q' (r_mv (v := .slice _ _ _) rfl) <| SR.call ent11 (c_laws_vBig w L ((hL))) rfl ?_)
  rintro e w1 ⟨rfl, hk2⟩
  refine ⟨_, rfl, ?_⟩
  have hz3 := hk2.size
  have hB4 := (Lo.refl w).lo hk2
  refine SR.nil ?_
  refine W.cond_d rfl (fun h5 => ?_) (fun h5 => ?_)
  · refine W.seq ?_
    refine W.regS (SR.q' (r_as (v := .bool true) rfl) <| SR.nil ?_)
    refine W.ret ?_
    refine ret1 rfl (v := .bool _) rfl ?_
    exact ⟨eR rfl, hB4⟩
  · refine W.skip ?_
    refine W.seq ?_
    refine W.regS (SR.q' (r_mv (v := .slice _ _ _) rfl) <| SR.call ent27 (c_spec_DrawStepsToDone w1 L (((hL).lo hk2)) (by omega)) rfl ?_)
    rintro e w6 ⟨A8, n9, c10, v12, rfl, hO11, hq13, hk7⟩
    refine ⟨_, rfl, ?_⟩
    have hz14 := hk7.size
    have hB15 := hB4.lo hk7
    have hl16 := hO11.len
    have hl17 := hO11.rd.bound
    have hq18 : DoLaw v12 := do_law v12
    refine SR.alloc (l := [.int .i64 0, .slice none 0 0, .int .i64 0, .int .i64 0, .int .i64 0]) tz57 rfl ?_
    intro g19 w20 hg21 hk22 hs23 hb24
    have hz25 := hk22.size
    have hB26 := hB15.lo hk22
    have hd27 : ¬ A8 = some ⟨g19, 0, none⟩ := fun e' => by have := (hO11).base_le e'; omega
    refine SR.store (o := 0) (vs := [.int .i64 v12.State, .slice A8 n9 c10, .int .i64 v12.Next, .int .i64 v12.Fails, .int .i64 v12.Size]) agg57.2 rfl rfl rfl rfl (hb24) (Nat.le_of_ble_eq_true rfl) rfl ?_
    intro w28 hk29 hs30 hb31
    have hz32 := hk29.size
    have hB33 := hB26.new hk29 (by omega)
    refine SR.nil ?_
    refine W.seq ?_
    have hm34 := ((((hL).lo hk2).lo hk7).lo hk22).kp hk29 (fun b_ hb e' => by have e'' : b_ = g19 := e'; omega)
    have hm35 := ((hO11).lo hk22).kp hk29 (fun b_ hb e' => hd27 (by have e'' : b_ = g19 := e'; rw [← e'']; exact hb))
    refine W.regS (SR.q' (r_lda (l := [.int .i64 v12.State, .slice A8 n9 c10, .int .i64 v12.Next, .int .i64 v12.Fails, .int .i64 v12.Size]) agg57 rfl (fun _ _ hu => (hb31).cell hu) rfl) <| SR.call ent28 (c_impl_StepsToDone w28 v12 (((hm35).rd))) rfl ?_)
    rintro e w36 ⟨rfl, hk37⟩
    refine ⟨_, rfl, ?_⟩
    have hz38 := hk37.size
    have hB39 := hB33.lo hk37
    refine SR.q' (r_mv (v := .tuple (List.toArray _)) rfl) <| SR.q' (r_ext (v := .int .i64 _) rfl rfl) <| SR.q' (r_ext (v := .bool _) rfl rfl) <| SR.q' (r_as (v := .int .i64 _) rfl) <| SR.q' (r_as (v := .bool _) rfl) <| SR.nil ?_
    refine W.seq ?_
    refine W.seq ?_
    refine W.regS (SR.q' (r_lda (l := [.int .i64 v12.State, .slice A8 n9 c10, .int .i64 v12.Next, .int .i64 v12.Fails, .int .i64 v12.Size]) agg57 rfl (fun _ _ hu => ((hb31).lo hk37).cell hu) rfl) <| SR.call ent29 (c_spec_StepsToDone w36 v12 ((((hm35).lo hk37).rd))) rfl ?_)
    rintro e w40 ⟨rfl, hk41⟩
    refine ⟨_, rfl, ?_⟩
    have hz42 := hk41.size
    have hB43 := hB39.lo hk41
    refine SR.q' (r_mv (v := .tuple (List.toArray _)) rfl) <| SR.q' (r_ext (v := .int .i64 _) rfl rfl) <| SR.q' (r_ext (v := .bool _) rfl rfl) <| SR.q' (r_as (v := .int .i64 _) rfl) <| SR.q' (r_as (v := .bool _) rfl) <| SR.nil ?_
    refine W.seq ?_
    have hm44 := ((hm34).lo hk37).lo hk41
    have hm45 := ((hb31).lo hk37).lo hk41
    have hm46 := ((hm35).lo hk37).lo hk41
    refine W.regS (SR.q' (r_mv (v := .int .i64 _) rfl) <| SR.q' (r_mv (v := .int .i64 _) rfl) <| SR.q' (r_ne_s rfl rfl) <| SR.q' (r_mv (v := .bool _) rfl) <| SR.g' rfl (r_mv (v := .bool _) rfl) <| SR.g' rfl (r_mv (v := .bool _) rfl) <| SR.g' rfl (r_neb_s und4 rfl rfl) <| SR.q' (r_pick false rfl (v := .bool _) rfl) <| SR.nil ?_)
    refine W.cond_f rfl ?_
    refine W.skip ?_
    refine W.seq ?_
    refine W.regS (SR.q' (r_lda (l := [.int .i64 v12.State, .slice A8 n9 c10, .int .i64 v12.Next, .int .i64 v12.Fails, .int .i64 v12.Size]) agg57 rfl (fun _ _ hu => (hm45).cell hu) rfl) <| SR.call ent30 (c_impl_TilesLeft w40 v12 (((hm46).rd))) rfl ?_)
    rintro e w47 ⟨rfl, hk48⟩
    refine ⟨_, rfl, ?_⟩
    have hz49 := hk48.size
    have hB50 := hB43.lo hk48
    have hq51 : 0 ≤ leftN v12 ∧ leftN v12 ≤ 8 := left_rng v12
    refine SR.q' (r_mv (v := .tuple (List.toArray _)) rfl) <| SR.q' (r_ext (v := .int .i64 _) rfl rfl) <| SR.q' (r_ext (v := .bool _) rfl rfl) <| SR.q' (r_as (v := .int .i64 _) rfl) <| SR.q' (r_as (v := .bool _) rfl) <| SR.nil ?_
    refine W.seq ?_
    refine W.seq ?_
    refine W.regS (SR.q' (r_lda (l := [.int .i64 v12.State, .slice A8 n9 c10, .int .i64 v12.Next, .int .i64 v12.Fails, .int .i64 v12.Size]) agg57 rfl (fun _ _ hu => ((hm45).lo hk48).cell hu) rfl) <| SR.call ent31 (c_spec_TilesLeft w47 v12 ((((hm46).lo hk48).rd))) rfl ?_)
    rintro e w52 ⟨rfl, hk53⟩
    refine ⟨_, rfl, ?_⟩
    have hz54 := hk53.size
    have hB55 := hB50.lo hk53
    have hq56 : 0 ≤ leftN v12 ∧ leftN v12 ≤ 8 := left_rng v12
    refine SR.q' (r_mv (v := .tuple (List.toArray _)) rfl) <| SR.q' (r_ext (v := .int .i64 _) rfl rfl) <| SR.q' (r_ext (v := .bool _) rfl rfl) <| SR.q' (r_as (v := .int .i64 _) rfl) <| SR.q' (r_as (v := .bool _) rfl) <| SR.nil ?_
    refine W.seq ?_
    have hm57 := ((hm44).lo hk48).lo hk53
    have hm58 := ((hm45).lo hk48).lo hk53
    have hm59 := ((hm46).lo hk48).lo hk53
    refine W.regS (SR.q' (r_mv (v := .int .i64 _) rfl) <| SR.q' (r_mv (v := .int .i64 _) rfl) <| SR.q' (r_ne_s rfl rfl) <| SR.q' (r_mv (v := .bool _) rfl) <| SR.g' rfl (r_mv (v := .bool _) rfl) <| SR.g' rfl (r_mv (v := .bool _) rfl) <| SR.g' rfl (r_neb_s und4 rfl rfl) <| SR.q' (r_pick false rfl (v := .bool _) rfl) <| SR.q' (r_mv (v := .bool _) rfl) <| SR.g' rfl (r_mv (v := .bool _) rfl) <| SR.g' rfl (r_mv (v := .bool _) rfl) <| SR.g' rfl (r_neb_s und4 rfl rfl) <| SR.q' (r_pick false rfl (v := .bool _) rfl) <| SR.nil ?_)
    refine W.cond_f rfl ?_
    refine W.skip ?_
    refine W.seq ?_
    refine W.seq ?_
    refine W.regS (SR.q' (r_mv (v := .bool _) rfl) <| SR.nil ?_)
    refine W.cond_d rfl (fun h60 => ?_) (fun h60 => ?_)
    · have hq61 := job_rng h60
      refine W.seq ?_
      refine W.regS (SR.q' (r_build (vs := [(0, .int .i64 1)]) rfl (bld60_0 _)) <| SR.q' (r_build (vs := [(0, .int .i64 5)]) rfl (bld60_0 _)) <| SR.lit (vs := [.agg (List.toArray [.int .i64 1, .int .i64 0]), .agg (List.toArray [.int .i64 5, .int .i64 0])]) (L := ([(⟨1, 0⟩ : ScanStep), (⟨5, 0⟩ : ScanStep)] : List ScanStep)) (enc := encScanStep) tel61 (fun _ => rfl) rfl rfl rfl (by decide) ?_)
      intro g62 w63 hg64 hk65 hO66
      have hz67 := hk65.size
      have hB68 := hB55.lo hk65
      have hd69 : ¬ A8 = some ⟨g62, 0, none⟩ := fun e' => by have := (hm59).base_le e'; omega
      refine SR.q' (r_as (v := .slice _ _ _) rfl) <| SR.nil ?_
      refine W.seq ?_
      refine W.seq ?_
      refine W.regS (SR.q' (r_as (v := .int .i64 0) rfl) <| SR.nil ?_)
      refine W.block ?_
      refine W.loop (σ := Nat × (Option Addr) × Nat × Nat) (fun g => [(0, .slice AL nL cL), (2, .bool false), (3, .pointer (some ((⟨g19, 0, none⟩ : Addr)))), (4, .int .i64 (doneN v12)), (8, .int .i64 (leftN v12)), (12, .slice g.2.1 g.2.2.1 g.2.2.2), (13, .int .i64 (g.1 : Int))]) (fun g w' => (Lo w w') ∧ (SlR w' BL encB 1 AL nL cL L) ∧ (Blk w' g19 57 [.int .i64 v12.State, .slice A8 n9 c10, .int .i64 v12.Next, .int .i64 v12.Fails, .int .i64 v12.Size]) ∧ (SlO w' w1.heap.size encI 1 3 A8 n9 c10 v12.Tiles) ∧ (SlO w' w.heap.size encScanStep 2 60 g.2.1 g.2.2.1 g.2.2.2 (stepsT g.1)) ∧ (¬ g.2.1 = some ⟨g19, 0, none⟩) ∧ (∀ b_, g.2.1 = some ⟨b_, 0, none⟩ → ¬ A8 = some ⟨b_, 0, none⟩) ∧ (g.1 ≤ 8 ∧ (g.1 : Int) ≤ leftN v12)) (fun g => 8 - g.1) (0, (some (⟨g62, 0, none⟩ : Addr)), 2, 2) ?_ ?_ ?_
      · exact ⟨rfl, rfl, rfl, rfl, rfl, rfl, rfl, trivial⟩
      · show (Lo w w63) ∧ (SlR w63 BL encB 1 AL nL cL L) ∧ (Blk w63 g19 57 [.int .i64 v12.State, .slice A8 n9 c10, .int .i64 v12.Next, .int .i64 v12.Fails, .int .i64 v12.Size]) ∧ (SlO w63 w1.heap.size encI 1 3 A8 n9 c10 v12.Tiles) ∧ (SlO w63 w.heap.size encScanStep 2 60 (some (⟨g62, 0, none⟩ : Addr)) 2 2 (stepsT 0)) ∧ (¬ (some (⟨g62, 0, none⟩ : Addr)) = some ⟨g19, 0, none⟩) ∧ (∀ b_, (some (⟨g62, 0, none⟩ : Addr)) = some ⟨b_, 0, none⟩ → ¬ A8 = some ⟨b_, 0, none⟩) ∧ (0 ≤ 8 ∧ (0 : Int) ≤ leftN v12)
        exact ⟨hB68, (hm57).lo hk65, (hm58).lo hk65, (hm59).lo hk65, (SlO.eqv ((hO66).down (by omega)) (z_c_laws_FnTiles_72 L nL hbdL hleL h5 v12 hq13 n9 hl16 hl17 hq18 hq51 hq56 h60 hq61)), (fun e' => by have := (hO66).base_le e'; omega), (fun b_ h h' => hd69 (h'.trans h.symm)), (z_c_laws_FnTiles_71 L nL hbdL hleL h5 v12 hq13 n9 hl16 hl17 hq18 hq51 hq56 h60 hq61)⟩
      · rintro ⟨i, A70, n70, c70⟩ f73 w74 hP76
        obtain ⟨hB75, hm77, hm78, hm79, hO80, hd82, hd83, hi81⟩ : (Lo w w74) ∧ (SlR w74 BL encB 1 AL nL cL L) ∧ (Blk w74 g19 57 [.int .i64 v12.State, .slice A8 n9 c10, .int .i64 v12.Next, .int .i64 v12.Fails, .int .i64 v12.Size]) ∧ (SlO w74 w1.heap.size encI 1 3 A8 n9 c10 v12.Tiles) ∧ (SlO w74 w.heap.size encScanStep 2 60 A70 n70 c70 (stepsT i)) ∧ (¬ A70 = some ⟨g19, 0, none⟩) ∧ (∀ b_, A70 = some ⟨b_, 0, none⟩ → ¬ A8 = some ⟨b_, 0, none⟩) ∧ (i ≤ 8 ∧ (i : Int) ≤ leftN v12) := hP76
        refine (?_ : W _ _ _ _ _ (act _ (sets f73 [(0, .slice AL nL cL), (2, .bool false), (3, .pointer (some ((⟨g19, 0, none⟩ : Addr)))), (4, .int .i64 (doneN v12)), (8, .int .i64 (leftN v12)), (12, .slice A70 n70 c70), (13, .int .i64 (i : Int))])) _)
        have hzw74 := hB75.size
        have hl84 := hm78.lt
        have hl85 := hO80.len
        have hl86 := hO80.rd.bound
        have hq87 : (stepsT i).length = i + 2 := stepsT_len i
        refine W.seq ?_
        refine W.seq ?_
        refine W.regJS (fun f' w' => At f' [(0, .slice AL nL cL), (2, .bool false), (3, .pointer (some ((⟨g19, 0, none⟩ : Addr)))), (4, .int .i64 (doneN v12)), (8, .int .i64 (leftN v12)), (12, .slice A70 n70 c70), (13, .int .i64 (i : Int)), (85, .bool (decide (((i : Int) < (leftN v12)) ∧ ((i : Int) < 8))))] ∧ Lo w74 w') ?_ ?_
        · refine SR.q' (r_mv (v := .int .i64 _) rfl) <| SR.q' (r_mv (v := .int .i64 _) rfl) <| SR.q' (r_lt rfl rfl) <| SR.q' (r_mv (v := .bool _) rfl) <| SR.splitD (fun h88 => ?_) (fun h88 => ?_)
          · refine SR.g' rfl (r_mv (v := .int .i64 _) rfl) <| SR.g' rfl (r_lt rfl rfl) <| SR.q' (r_pick true rfl (v := .bool _) rfl) <| SR.nil ?_
            exact ⟨_, rfl, ⟨⟨rfl, rfl, rfl, rfl, rfl, rfl, rfl, (eDD (jat h88)), trivial⟩, (Lo.refl _)⟩⟩
          · refine SR.s' rfl <| SR.s' rfl <| SR.q' (r_pick false rfl (v := .bool false) rfl) <| SR.nil ?_
            exact ⟨_, rfl, ⟨⟨rfl, rfl, rfl, rfl, rfl, rfl, rfl, (eDF (jaf h88).2), trivial⟩, (Lo.refl _)⟩⟩
        rintro f89 w90 ⟨hat91, hk92⟩
        rw [← sets_of_at hat91]
        have hz93 := hk92.size
        have hB94 := hB75.lo hk92
        refine W.cond_d rfl (fun h95 => ?_) (fun h95 => ?_)
        · have hq96 : (i : Int) < (leftN v12) := h95.1
          have hq97 : (i : Int) < 8 := h95.2
          refine W.skip ?_
          refine W.seq ?_
          refine W.block ?_
          refine W.regS (SR.q' (r_mv (v := .slice _ _ _) rfl) <| SR.q' (r_build (vs := [(0, .int .i64 2), (1, .int .i64 50)]) rfl (bld60_0_1 _ _)) <| SR.lit (vs := [.agg (List.toArray [.int .i64 2, .int .i64 50])]) (L := ([(⟨2, 50⟩ : ScanStep)] : List ScanStep)) (enc := encScanStep) tel61 (fun _ => rfl) rfl rfl rfl (by decide) ?_)
          intro g98 w99 hg100 hk101 hO102
          have hz103 := hk101.size
          have hB104 := hB94.lo hk101
          have hd105 : ¬ A8 = some ⟨g98, 0, none⟩ := fun e' => by have := ((hm79).lo hk92).base_le e'; omega
          have hd106 : ¬ A70 = some ⟨g98, 0, none⟩ := fun e' => by have := ((hO80).lo hk92).base_le e'; omega
          refine SR.app tel61 rfl rfl (((hO80).lo hk92).lo hk101) ((hO102).rd) (fun _ => rfl) (by omega) (by omega) ?_
          intro A107 c108 w109 hk110 hO111 hN112
          have hz113 := hk110.size
          have hB114 := hB104.step hk110 (fun i_ hi_ e' => by have := ((((hO80).lo hk92).lo hk101)).base_le e'; first | omega | (exfalso; omega) | exact e' | exact .inl e' | exact .inr e')
          have hd115 : ∀ b_, A107 = some ⟨b_, 0, none⟩ → ¬ A8 = some ⟨b_, 0, none⟩ := fun b_ e' h' => (hN112 b_ e').elim (fun h => hd83 b_ (h.trans e') h') (fun h => by have := (((hm79).lo hk92).lo hk101).base_le h'; omega)
          have hd116 : ¬ A107 = some ⟨g19, 0, none⟩ := fun e' => (hN112 g19 e').elim (fun h => hd82 (h.trans e')) (fun h => by have := (((hm78).lo hk92).lo hk101).lt; omega)
          refine SR.q' (r_as (v := .slice _ _ _) rfl) <| SR.nil ?_
          have hm118 := (((hm77).lo hk92).lo hk101).kp hk110 (fun b_ hb e' => by have := ((((hO80).lo hk92).lo hk101)).base_le e'; omega)
          have hm119 := (((hm78).lo hk92).lo hk101).kp hk110 (fun e' => hd82 e')
          have hm120 := (((hm79).lo hk92).lo hk101).kp hk110 (fun b_ hb e' => hd83 b_ e' hb)
          refine W.regS (SR.q' (r_mv (v := .int .i64 _) rfl) <| SR.q' (r_add rfl rfl (by omega)) <| SR.q' (r_as (v := .int .i64 _) rfl) <| SR.nil ?_)
          refine ⟨(i + 1, A107, n70 + 1, c108), _, rfl, ⟨rfl, rfl, rfl, rfl, rfl, rfl, rfl, trivial⟩, (show (Lo w w109) ∧ (SlR w109 BL encB 1 AL nL cL L) ∧ (Blk w109 g19 57 [.int .i64 v12.State, .slice A8 n9 c10, .int .i64 v12.Next, .int .i64 v12.Fails, .int .i64 v12.Size]) ∧ (SlO w109 w1.heap.size encI 1 3 A8 n9 c10 v12.Tiles) ∧ (SlO w109 w.heap.size encScanStep 2 60 A107 (n70 + 1) c108 (stepsT (i + 1))) ∧ (¬ A107 = some ⟨g19, 0, none⟩) ∧ (∀ b_, A107 = some ⟨b_, 0, none⟩ → ¬ A8 = some ⟨b_, 0, none⟩) ∧ (i + 1 ≤ 8 ∧ ((i + 1 : Nat) : Int) ≤ leftN v12) from ⟨hB114, hm118, hm119, hm120, (SlO.eqv (hO111) (z_c_laws_FnTiles_121 L nL hbdL hleL h5 v12 hq13 n9 hl16 hl17 hq18 hq51 hq56 h60 hq61 i n70 c70 hi81 hl85 hq87 h95 hq96 hq97)), hd116, hd115, ?_⟩), ?_⟩
          · exact (z_c_laws_FnTiles_122 L nL hbdL hleL h5 v12 hq13 n9 hl16 hl17 hq18 hq51 hq56 h60 hq61 i n70 c70 hi81 hl85 hq87 h95 hq96 hq97)
          · exact (z_c_laws_FnTiles_123 L nL hbdL hleL h5 v12 hq13 n9 hl16 hl17 hq18 hq51 hq56 h60 hq61 i n70 c70 hi81 hl85 hq87 h95 hq96 hq97)
        · refine W.exit (xin_here ?_)
          refine W.seq ?_
          refine W.regA (Kp (fun b_ => A70 = some ⟨b_, 0, none⟩) w90) (fun f' w' => ∃ (g185 : Nat), ∃ (g151 : Nat), ∃ (A161 : Option Addr), ∃ (c162 : Nat), ∃ (A175 : Option Addr), ∃ (n176 : Nat), ∃ (c177 : Nat), At f' [(0, .slice AL nL cL), (2, .bool false), (4, .int .i64 (doneN v12)), (14, .pointer (some ((⟨g185, 0, none⟩ : Addr)))), (15, .int .i64 ((runFJ v12 ((stepsT i) ++ ([(⟨6, 0⟩ : ScanStep)] : List ScanStep))).2.1)), (16, .bool ((runFJ v12 ((stepsT i) ++ ([(⟨6, 0⟩ : ScanStep)] : List ScanStep))).2.2))] ∧ (Kp (fun b_ => A70 = some ⟨b_, 0, none⟩) w90 w') ∧ (Blk w' g185 57 [.int .i64 (((runFJ v12 ((stepsT i) ++ ([(⟨6, 0⟩ : ScanStep)] : List ScanStep))).1).State), .slice A175 n176 c177, .int .i64 (((runFJ v12 ((stepsT i) ++ ([(⟨6, 0⟩ : ScanStep)] : List ScanStep))).1).Next), .int .i64 (((runFJ v12 ((stepsT i) ++ ([(⟨6, 0⟩ : ScanStep)] : List ScanStep))).1).Fails), .int .i64 (((runFJ v12 ((stepsT i) ++ ([(⟨6, 0⟩ : ScanStep)] : List ScanStep))).1).Size)]) ∧ (w90.heap.size ≤ g185 ∧ g185 < w'.heap.size) ∧ (SlO w' w90.heap.size encI 1 3 A175 n176 c177 (((runFJ v12 ((stepsT i) ++ ([(⟨6, 0⟩ : ScanStep)] : List ScanStep))).1).Tiles)) ∧ (¬ A8 = some ⟨g185, 0, none⟩) ∧ (¬ A175 = some ⟨g185, 0, none⟩) ∧ (∀ b_, A175 = some ⟨b_, 0, none⟩ → ¬ A8 = some ⟨b_, 0, none⟩) ∧ (n176 = (((runFJ v12 ((stepsT i) ++ ([(⟨6, 0⟩ : ScanStep)] : List ScanStep))).1).Tiles).length) ∧ ((n176 : Int) ≤ 9223372036854775807) ∧ ((((runFJ v12 ((stepsT i) ++ ([(⟨6, 0⟩ : ScanStep)] : List ScanStep))).1).Tiles).length ≤ 8)) mo ?_ ?_
          · intro w147 hk148
            have hz149 := hk148.size
            have hB150 := hB94.lo hk148
            refine AH.take 0 rfl (by kernel_rfl) trivial ((Kp.refl w90 : Kp (fun b_ => A70 = some ⟨b_, 0, none⟩) w90 w90).lo hk148) (fun w' hw' => r_lda (l := [.int .i64 v12.State, .slice A8 n9 c10, .int .i64 v12.Next, .int .i64 v12.Fails, .int .i64 v12.Size]) agg57 rfl (fun _ _ hu => (((hm78).lo hk92).kp hw' (fun e' => hd82 e')).cell hu) rfl) <| AH.take 1 rfl (by kernel_rfl) trivial ((Kp.refl w90 : Kp (fun b_ => A70 = some ⟨b_, 0, none⟩) w90 w90).lo hk148) (fun w' hw' => r_mv (v := .slice _ _ _) rfl) <| AH.take 2 rfl (by kernel_rfl) trivial ((Kp.refl w90 : Kp (fun b_ => A70 = some ⟨b_, 0, none⟩) w90 w90).lo hk148) (fun w' hw' => r_build (vs := [(0, .int .i64 6)]) rfl (bld60_0 _)) <| AH.br [3, 10] (by kernel_rfl) rfl ⟨Br.mk' rfl trivial ?_, Br.mk' rfl trivial ?_, trivial⟩
            · refine SR.lit (vs := [.agg (List.toArray [.int .i64 6, .int .i64 0])]) (L := ([(⟨6, 0⟩ : ScanStep)] : List ScanStep)) (enc := encScanStep) tel61 (fun _ => rfl) rfl rfl rfl (by decide) ?_
              intro g151 w152 hg153 hk154 hO155
              have hz156 := hk154.size
              have hB157 := hB150.lo hk154
              have hS158 := ((Kp.refl w90 : Kp (fun b_ => A70 = some ⟨b_, 0, none⟩) w90 w90).lo hk148).lo hk154
              have hd159 : ¬ A8 = some ⟨g151, 0, none⟩ := fun e' => by have := (((hm79).lo hk92).lo hk148).base_le e'; omega
              have hd160 : ¬ A70 = some ⟨g151, 0, none⟩ := fun e' => by have := (((hO80).lo hk92).lo hk148).base_le e'; omega
              refine SR.nil ⟨hS158, _, rfl, ?_⟩
              refine AH.br [4, 10] (by kernel_rfl) rfl ⟨Br.mk' rfl trivial ?_, Br.mk' rfl trivial ?_, trivial⟩
              · refine SR.app tel61 rfl rfl ((((hO80).lo hk92).lo hk148).lo hk154) ((hO155).rd) (fun _ => rfl) (by omega) (by omega) ?_
                intro A161 c162 w163 hk164 hO165 hN166
                have hz167 := hk164.size
                have hB168 := hB157.step hk164 (fun i_ hi_ e' => by have := (((((hO80).lo hk92).lo hk148).lo hk154)).base_le e'; first | omega | (exfalso; omega) | exact e' | exact .inl e' | exact .inr e')
                have hS169 := (hS158).step hk164 (fun _ _ e => e)
                have hd170 : ∀ b_, A161 = some ⟨b_, 0, none⟩ → ¬ A8 = some ⟨b_, 0, none⟩ := fun b_ e' h' => (hN166 b_ e').elim (fun h => hd83 b_ (h.trans e') h') (fun h => by have := ((((hm79).lo hk92).lo hk148).lo hk154).base_le h'; omega)
                have hd171 : ¬ A161 = some ⟨g19, 0, none⟩ := fun e' => (hN166 g19 e').elim (fun h => hd82 (h.trans e')) (fun h => by have := ((((hm78).lo hk92).lo hk148).lo hk154).lt; omega)
                refine SR.nil ⟨hS169, _, rfl, ?_⟩
                refine AH.br [5, 10] (by kernel_rfl) rfl ⟨Br.mk' rfl trivial ?_, Br.mk' rfl trivial ?_, trivial⟩
                · refine SR.call ent32 (c_impl_RunScan w163 v12 (((((((hm79).lo hk92).lo hk148).lo hk154).kp hk164 (fun b_ hb e' => hd83 b_ e' hb)).rd)) ((stepsT i) ++ ([(⟨6, 0⟩ : ScanStep)] : List ScanStep)) (((hO165).rd))) rfl ?_
                  rintro e w173 ⟨A175, n176, c177, rfl, hO178, hk174⟩
                  refine ⟨_, rfl, ?_⟩
                  have hz179 := hk174.size
                  have hB180 := hB168.lo hk174
                  have hS181 := (hS169).lo hk174
                  have hl182 := hO178.len
                  have hl183 := hO178.rd.bound
                  have hq184 := runFJ_len v12 ((stepsT i) ++ ([(⟨6, 0⟩ : ScanStep)] : List ScanStep))
                  refine SR.nil ⟨hS181, _, rfl, ?_⟩
                  refine AH.take 6 rfl (by kernel_rfl) trivial (hS181) (fun w' hw' => r_mv (v := .tuple (List.toArray _)) rfl) <| AH.take 7 rfl (by kernel_rfl) trivial (hS181) (fun w' hw' => r_ext (v := .agg (List.toArray _)) rfl rfl) <| AH.take 8 rfl (by kernel_rfl) trivial (hS181) (fun w' hw' => r_ext (v := .int .i64 _) rfl rfl) <| AH.take 9 rfl (by kernel_rfl) trivial (hS181) (fun w' hw' => r_ext (v := .bool _) rfl rfl) <| AH.br [10] (by kernel_rfl) rfl ⟨Br.mk' rfl trivial ?_, trivial⟩
                  refine SR.alloc (l := [.int .i64 0, .slice none 0 0, .int .i64 0, .int .i64 0, .int .i64 0]) tz57 rfl ?_
                  intro g185 w186 hg187 hk188 hs189 hb190
                  have hz191 := hk188.size
                  have hB192 := hB180.lo hk188
                  have hS193 := (hS181).lo hk188
                  have hd194 : ¬ A8 = some ⟨g185, 0, none⟩ := fun e' => by have := ((((((hm79).lo hk92).lo hk148).lo hk154).kp hk164 (fun b_ hb e' => hd83 b_ e' hb)).lo hk174).base_le e'; omega
                  have hd195 : ¬ (some (⟨g151, 0, none⟩ : Addr)) = some ⟨g185, 0, none⟩ := fun e' => by have := (((hO155).kp hk164 (fun b_ hb e' => hd160 (hb ▸ e'))).lo hk174).base_le e'; omega
                  have hd196 : ¬ A161 = some ⟨g185, 0, none⟩ := fun e' => by have := ((hO165).lo hk174).base_le e'; omega
                  have hd197 : ¬ A175 = some ⟨g185, 0, none⟩ := fun e' => by have := (hO178).base_le e'; omega
                  refine SR.nil ⟨hS193, _, rfl, ?_⟩
                  refine AH.br [11] (by kernel_rfl) rfl ⟨Br.mk' rfl trivial ?_, trivial⟩
                  refine SR.store (o := 0) (vs := [.int .i64 (((runFJ v12 ((stepsT i) ++ ([(⟨6, 0⟩ : ScanStep)] : List ScanStep))).1).State), .slice A175 n176 c177, .int .i64 (((runFJ v12 ((stepsT i) ++ ([(⟨6, 0⟩ : ScanStep)] : List ScanStep))).1).Next), .int .i64 (((runFJ v12 ((stepsT i) ++ ([(⟨6, 0⟩ : ScanStep)] : List ScanStep))).1).Fails), .int .i64 (((runFJ v12 ((stepsT i) ++ ([(⟨6, 0⟩ : ScanStep)] : List ScanStep))).1).Size)]) agg57.2 rfl rfl rfl rfl (hb190) (Nat.le_of_ble_eq_true rfl) rfl ?_
                  intro w198 hk199 hs200 hb201
                  have hz202 := hk199.size
                  have hB203 := hB192.new hk199 (by omega)
                  have hS204 := (hS193).new hk199 (by omega)
                  refine SR.nil ⟨hS204, _, rfl, ?_⟩
                  refine AH.take 12 rfl (by kernel_rfl) trivial (hS204) (fun w' hw' => r_as (v := .int .i64 _) rfl) <| AH.take 13 rfl (by kernel_rfl) trivial (hS204) (fun w' hw' => r_as (v := .bool _) rfl) <| AH.done (by kernel_rfl) ?_
                  exact ⟨g185, g151, A161, c162, A175, n176, c177, ⟨rfl, rfl, rfl, rfl, rfl, rfl, trivial⟩, hS204, (hb201), ⟨by omega, (hb201).lt⟩, ((((hO178).lo hk188).kp hk199 (fun b_ hb e' => hd197 (by have e'' : b_ = g185 := e'; rw [← e'']; exact hb))).down (by omega)), hd194, hd197, (fun b_ h h' => by have h1 := (((hO178).lo hk188).kp hk199 (fun b_ hb e' => hd197 (by have e'' : b_ = g185 := e'; rw [← e'']; exact hb))).base_le h; have h2 := (((((hm79).lo hk92).lo hk148).lo hk154).kp hk164 (fun b_ hb e' => hd83 b_ e' hb)).base_le h'; omega), hl182, hl183, hq184⟩
                · refine SR.alloc (l := [.int .i64 0, .slice none 0 0, .int .i64 0, .int .i64 0, .int .i64 0]) tz57 rfl ?_
                  intro g211 w212 hg213 hk214 hs215 hb216
                  have hz217 := hk214.size
                  have hB218 := hB168.lo hk214
                  have hS219 := (hS169).lo hk214
                  have hd220 : ¬ A8 = some ⟨g211, 0, none⟩ := fun e' => by have := (((((hm79).lo hk92).lo hk148).lo hk154).kp hk164 (fun b_ hb e' => hd83 b_ e' hb)).base_le e'; omega
                  have hd221 : ¬ (some (⟨g151, 0, none⟩ : Addr)) = some ⟨g211, 0, none⟩ := fun e' => by have := ((hO155).kp hk164 (fun b_ hb e' => hd160 (hb ▸ e'))).base_le e'; omega
                  have hd222 : ¬ A161 = some ⟨g211, 0, none⟩ := fun e' => by have := (hO165).base_le e'; omega
                  refine SR.nil ⟨hS219, _, rfl, ?_⟩
                  refine AH.br [5] (by kernel_rfl) rfl ⟨Br.mk' rfl trivial ?_, trivial⟩
                  refine SR.call ent32 (c_impl_RunScan w212 v12 ((((((((hm79).lo hk92).lo hk148).lo hk154).kp hk164 (fun b_ hb e' => hd83 b_ e' hb)).lo hk214).rd)) ((stepsT i) ++ ([(⟨6, 0⟩ : ScanStep)] : List ScanStep)) ((((hO165).lo hk214).rd))) rfl ?_
                  rintro e w223 ⟨A225, n226, c227, rfl, hO228, hk224⟩
                  refine ⟨_, rfl, ?_⟩
                  have hz229 := hk224.size
                  have hB230 := hB218.lo hk224
                  have hS231 := (hS219).lo hk224
                  have hl232 := hO228.len
                  have hl233 := hO228.rd.bound
                  have hq234 := runFJ_len v12 ((stepsT i) ++ ([(⟨6, 0⟩ : ScanStep)] : List ScanStep))
                  refine SR.nil ⟨hS231, _, rfl, ?_⟩
                  refine AH.take 6 rfl (by kernel_rfl) trivial (hS231) (fun w' hw' => r_mv (v := .tuple (List.toArray _)) rfl) <| AH.take 7 rfl (by kernel_rfl) trivial (hS231) (fun w' hw' => r_ext (v := .agg (List.toArray _)) rfl rfl) <| AH.take 8 rfl (by kernel_rfl) trivial (hS231) (fun w' hw' => r_ext (v := .int .i64 _) rfl rfl) <| AH.take 9 rfl (by kernel_rfl) trivial (hS231) (fun w' hw' => r_ext (v := .bool _) rfl rfl) <| AH.br [11] (by kernel_rfl) rfl ⟨Br.mk' rfl trivial ?_, trivial⟩
                  refine SR.store (o := 0) (vs := [.int .i64 (((runFJ v12 ((stepsT i) ++ ([(⟨6, 0⟩ : ScanStep)] : List ScanStep))).1).State), .slice A225 n226 c227, .int .i64 (((runFJ v12 ((stepsT i) ++ ([(⟨6, 0⟩ : ScanStep)] : List ScanStep))).1).Next), .int .i64 (((runFJ v12 ((stepsT i) ++ ([(⟨6, 0⟩ : ScanStep)] : List ScanStep))).1).Fails), .int .i64 (((runFJ v12 ((stepsT i) ++ ([(⟨6, 0⟩ : ScanStep)] : List ScanStep))).1).Size)]) agg57.2 rfl rfl rfl rfl ((hb216).lo hk224) (Nat.le_of_ble_eq_true rfl) rfl ?_
                  intro w235 hk236 hs237 hb238
                  have hz239 := hk236.size
                  have hB240 := hB230.new hk236 (by omega)
                  have hS241 := (hS231).new hk236 (by omega)
                  refine SR.nil ⟨hS241, _, rfl, ?_⟩
                  refine AH.take 12 rfl (by kernel_rfl) trivial (hS241) (fun w' hw' => r_as (v := .int .i64 _) rfl) <| AH.take 13 rfl (by kernel_rfl) trivial (hS241) (fun w' hw' => r_as (v := .bool _) rfl) <| AH.done (by kernel_rfl) ?_
                  exact ⟨g211, g151, A161, c162, A225, n226, c227, ⟨rfl, rfl, rfl, rfl, rfl, rfl, trivial⟩, hS241, (hb238), ⟨by omega, (hb238).lt⟩, (((hO228).kp hk236 (fun b_ hb e' => by have e'' : b_ = g211 := e'; have := (hO228).base_le hb; omega)).down (by omega)), hd220, (fun e' => by have := ((hO228).kp hk236 (fun b_ hb e' => by have e'' : b_ = g211 := e'; have := (hO228).base_le hb; omega)).base_le e'; omega), (fun b_ h h' => by have h1 := ((hO228).kp hk236 (fun b_ hb e' => by have e'' : b_ = g211 := e'; have := (hO228).base_le hb; omega)).base_le h; have h2 := ((((((hm79).lo hk92).lo hk148).lo hk154).kp hk164 (fun b_ hb e' => hd83 b_ e' hb)).lo hk214).base_le h'; omega), hl232, hl233, hq234⟩
              · refine SR.alloc (l := [.int .i64 0, .slice none 0 0, .int .i64 0, .int .i64 0, .int .i64 0]) tz57 rfl ?_
                intro g246 w247 hg248 hk249 hs250 hb251
                have hz252 := hk249.size
                have hB253 := hB157.lo hk249
                have hS254 := (hS158).lo hk249
                have hd255 : ¬ A8 = some ⟨g246, 0, none⟩ := fun e' => by have := ((((hm79).lo hk92).lo hk148).lo hk154).base_le e'; omega
                have hd256 : ¬ A70 = some ⟨g246, 0, none⟩ := fun e' => by have := ((((hO80).lo hk92).lo hk148).lo hk154).base_le e'; omega
                have hd257 : ¬ (some (⟨g151, 0, none⟩ : Addr)) = some ⟨g246, 0, none⟩ := fun e' => by have := (hO155).base_le e'; omega
                refine SR.nil ⟨hS254, _, rfl, ?_⟩
                refine AH.br [4] (by kernel_rfl) rfl ⟨Br.mk' rfl trivial ?_, trivial⟩
                refine SR.app tel61 rfl rfl (((((hO80).lo hk92).lo hk148).lo hk154).lo hk249) (((hO155).lo hk249).rd) (fun _ => rfl) (by omega) (by omega) ?_
                intro A258 c259 w260 hk261 hO262 hN263
                have hz264 := hk261.size
                have hB265 := hB253.step hk261 (fun i_ hi_ e' => by have := ((((((hO80).lo hk92).lo hk148).lo hk154).lo hk249)).base_le e'; first | omega | (exfalso; omega) | exact e' | exact .inl e' | exact .inr e')
                have hS266 := (hS254).step hk261 (fun _ _ e => e)
                have hd267 : ∀ b_, A258 = some ⟨b_, 0, none⟩ → ¬ A8 = some ⟨b_, 0, none⟩ := fun b_ e' h' => (hN263 b_ e').elim (fun h => hd83 b_ (h.trans e') h') (fun h => by have := (((((hm79).lo hk92).lo hk148).lo hk154).lo hk249).base_le h'; omega)
                have hd268 : ¬ A258 = some ⟨g19, 0, none⟩ := fun e' => (hN263 g19 e').elim (fun h => hd82 (h.trans e')) (fun h => by have := (((((hm78).lo hk92).lo hk148).lo hk154).lo hk249).lt; omega)
                have hd270 : ¬ A258 = some ⟨g246, 0, none⟩ := fun e' => (hN263 g246 e').elim (fun h => hd256 (h.trans e')) (fun h => by have := (hb251).lt; omega)
                refine SR.nil ⟨hS266, _, rfl, ?_⟩
                refine AH.br [5] (by kernel_rfl) rfl ⟨Br.mk' rfl trivial ?_, trivial⟩
                refine SR.call ent32 (c_impl_RunScan w260 v12 ((((((((hm79).lo hk92).lo hk148).lo hk154).lo hk249).kp hk261 (fun b_ hb e' => hd83 b_ e' hb)).rd)) ((stepsT i) ++ ([(⟨6, 0⟩ : ScanStep)] : List ScanStep)) (((hO262).rd))) rfl ?_
                rintro e w271 ⟨A273, n274, c275, rfl, hO276, hk272⟩
                refine ⟨_, rfl, ?_⟩
                have hz277 := hk272.size
                have hB278 := hB265.lo hk272
                have hS279 := (hS266).lo hk272
                have hl280 := hO276.len
                have hl281 := hO276.rd.bound
                have hq282 := runFJ_len v12 ((stepsT i) ++ ([(⟨6, 0⟩ : ScanStep)] : List ScanStep))
                refine SR.nil ⟨hS279, _, rfl, ?_⟩
                refine AH.take 6 rfl (by kernel_rfl) trivial (hS279) (fun w' hw' => r_mv (v := .tuple (List.toArray _)) rfl) <| AH.take 7 rfl (by kernel_rfl) trivial (hS279) (fun w' hw' => r_ext (v := .agg (List.toArray _)) rfl rfl) <| AH.take 8 rfl (by kernel_rfl) trivial (hS279) (fun w' hw' => r_ext (v := .int .i64 _) rfl rfl) <| AH.take 9 rfl (by kernel_rfl) trivial (hS279) (fun w' hw' => r_ext (v := .bool _) rfl rfl) <| AH.br [11] (by kernel_rfl) rfl ⟨Br.mk' rfl trivial ?_, trivial⟩
                refine SR.store (o := 0) (vs := [.int .i64 (((runFJ v12 ((stepsT i) ++ ([(⟨6, 0⟩ : ScanStep)] : List ScanStep))).1).State), .slice A273 n274 c275, .int .i64 (((runFJ v12 ((stepsT i) ++ ([(⟨6, 0⟩ : ScanStep)] : List ScanStep))).1).Next), .int .i64 (((runFJ v12 ((stepsT i) ++ ([(⟨6, 0⟩ : ScanStep)] : List ScanStep))).1).Fails), .int .i64 (((runFJ v12 ((stepsT i) ++ ([(⟨6, 0⟩ : ScanStep)] : List ScanStep))).1).Size)]) agg57.2 rfl rfl rfl rfl (((hb251).kp hk261 (fun e' => hd256 e')).lo hk272) (Nat.le_of_ble_eq_true rfl) rfl ?_
                intro w283 hk284 hs285 hb286
                have hz287 := hk284.size
                have hB288 := hB278.new hk284 (by omega)
                have hS289 := (hS279).new hk284 (by omega)
                refine SR.nil ⟨hS289, _, rfl, ?_⟩
                refine AH.take 12 rfl (by kernel_rfl) trivial (hS289) (fun w' hw' => r_as (v := .int .i64 _) rfl) <| AH.take 13 rfl (by kernel_rfl) trivial (hS289) (fun w' hw' => r_as (v := .bool _) rfl) <| AH.done (by kernel_rfl) ?_
                exact ⟨g246, g151, A258, c259, A273, n274, c275, ⟨rfl, rfl, rfl, rfl, rfl, rfl, trivial⟩, hS289, (hb286), ⟨by omega, (hb286).lt⟩, (((hO276).kp hk284 (fun b_ hb e' => by have e'' : b_ = g246 := e'; have := (hO276).base_le hb; omega)).down (by omega)), hd255, (fun e' => by have := ((hO276).kp hk284 (fun b_ hb e' => by have e'' : b_ = g246 := e'; have := (hO276).base_le hb; omega)).base_le e'; omega), (fun b_ h h' => by have h1 := ((hO276).kp hk284 (fun b_ hb e' => by have e'' : b_ = g246 := e'; have := (hO276).base_le hb; omega)).base_le h; have h2 := ((((((hm79).lo hk92).lo hk148).lo hk154).lo hk249).kp hk261 (fun b_ hb e' => hd83 b_ e' hb)).base_le h'; omega), hl280, hl281, hq282⟩
            · refine SR.alloc (l := [.int .i64 0, .slice none 0 0, .int .i64 0, .int .i64 0, .int .i64 0]) tz57 rfl ?_
              intro g294 w295 hg296 hk297 hs298 hb299
              have hz300 := hk297.size
              have hB301 := hB150.lo hk297
              have hS302 := ((Kp.refl w90 : Kp (fun b_ => A70 = some ⟨b_, 0, none⟩) w90 w90).lo hk148).lo hk297
              have hd303 : ¬ A8 = some ⟨g294, 0, none⟩ := fun e' => by have := (((hm79).lo hk92).lo hk148).base_le e'; omega
              have hd304 : ¬ A70 = some ⟨g294, 0, none⟩ := fun e' => by have := (((hO80).lo hk92).lo hk148).base_le e'; omega
              refine SR.nil ⟨hS302, _, rfl, ?_⟩
              refine AH.br [3] (by kernel_rfl) rfl ⟨Br.mk' rfl trivial ?_, trivial⟩
              refine SR.lit (vs := [.agg (List.toArray [.int .i64 6, .int .i64 0])]) (L := ([(⟨6, 0⟩ : ScanStep)] : List ScanStep)) (enc := encScanStep) tel61 (fun _ => rfl) rfl rfl rfl (by decide) ?_
              intro g305 w306 hg307 hk308 hO309
              have hz310 := hk308.size
              have hB311 := hB301.lo hk308
              have hS312 := (hS302).lo hk308
              have hd313 : ¬ A8 = some ⟨g305, 0, none⟩ := fun e' => by have := ((((hm79).lo hk92).lo hk148).lo hk297).base_le e'; omega
              have hd314 : ¬ A70 = some ⟨g305, 0, none⟩ := fun e' => by have := ((((hO80).lo hk92).lo hk148).lo hk297).base_le e'; omega
              refine SR.nil ⟨hS312, _, rfl, ?_⟩
              refine AH.br [4] (by kernel_rfl) rfl ⟨Br.mk' rfl trivial ?_, trivial⟩
              refine SR.app tel61 rfl rfl (((((hO80).lo hk92).lo hk148).lo hk297).lo hk308) ((hO309).rd) (fun _ => rfl) (by omega) (by omega) ?_
              intro A315 c316 w317 hk318 hO319 hN320
              have hz321 := hk318.size
              have hB322 := hB311.step hk318 (fun i_ hi_ e' => by have := ((((((hO80).lo hk92).lo hk148).lo hk297).lo hk308)).base_le e'; first | omega | (exfalso; omega) | exact e' | exact .inl e' | exact .inr e')
              have hS323 := (hS312).step hk318 (fun _ _ e => e)
              have hd324 : ∀ b_, A315 = some ⟨b_, 0, none⟩ → ¬ A8 = some ⟨b_, 0, none⟩ := fun b_ e' h' => (hN320 b_ e').elim (fun h => hd83 b_ (h.trans e') h') (fun h => by have := (((((hm79).lo hk92).lo hk148).lo hk297).lo hk308).base_le h'; omega)
              have hd325 : ¬ A315 = some ⟨g19, 0, none⟩ := fun e' => (hN320 g19 e').elim (fun h => hd82 (h.trans e')) (fun h => by have := (((((hm78).lo hk92).lo hk148).lo hk297).lo hk308).lt; omega)
              have hd326 : ¬ A315 = some ⟨g294, 0, none⟩ := fun e' => (hN320 g294 e').elim (fun h => hd304 (h.trans e')) (fun h => by have := ((hb299).lo hk308).lt; omega)
              refine SR.nil ⟨hS323, _, rfl, ?_⟩
              refine AH.br [5] (by kernel_rfl) rfl ⟨Br.mk' rfl trivial ?_, trivial⟩
              refine SR.call ent32 (c_impl_RunScan w317 v12 ((((((((hm79).lo hk92).lo hk148).lo hk297).lo hk308).kp hk318 (fun b_ hb e' => hd83 b_ e' hb)).rd)) ((stepsT i) ++ ([(⟨6, 0⟩ : ScanStep)] : List ScanStep)) (((hO319).rd))) rfl ?_
              rintro e w328 ⟨A330, n331, c332, rfl, hO333, hk329⟩
              refine ⟨_, rfl, ?_⟩
              have hz334 := hk329.size
              have hB335 := hB322.lo hk329
              have hS336 := (hS323).lo hk329
              have hl337 := hO333.len
              have hl338 := hO333.rd.bound
              have hq339 := runFJ_len v12 ((stepsT i) ++ ([(⟨6, 0⟩ : ScanStep)] : List ScanStep))
              refine SR.nil ⟨hS336, _, rfl, ?_⟩
              refine AH.take 6 rfl (by kernel_rfl) trivial (hS336) (fun w' hw' => r_mv (v := .tuple (List.toArray _)) rfl) <| AH.take 7 rfl (by kernel_rfl) trivial (hS336) (fun w' hw' => r_ext (v := .agg (List.toArray _)) rfl rfl) <| AH.take 8 rfl (by kernel_rfl) trivial (hS336) (fun w' hw' => r_ext (v := .int .i64 _) rfl rfl) <| AH.take 9 rfl (by kernel_rfl) trivial (hS336) (fun w' hw' => r_ext (v := .bool _) rfl rfl) <| AH.br [11] (by kernel_rfl) rfl ⟨Br.mk' rfl trivial ?_, trivial⟩
              refine SR.store (o := 0) (vs := [.int .i64 (((runFJ v12 ((stepsT i) ++ ([(⟨6, 0⟩ : ScanStep)] : List ScanStep))).1).State), .slice A330 n331 c332, .int .i64 (((runFJ v12 ((stepsT i) ++ ([(⟨6, 0⟩ : ScanStep)] : List ScanStep))).1).Next), .int .i64 (((runFJ v12 ((stepsT i) ++ ([(⟨6, 0⟩ : ScanStep)] : List ScanStep))).1).Fails), .int .i64 (((runFJ v12 ((stepsT i) ++ ([(⟨6, 0⟩ : ScanStep)] : List ScanStep))).1).Size)]) agg57.2 rfl rfl rfl rfl ((((hb299).lo hk308).kp hk318 (fun e' => hd304 e')).lo hk329) (Nat.le_of_ble_eq_true rfl) rfl ?_
              intro w340 hk341 hs342 hb343
              have hz344 := hk341.size
              have hB345 := hB335.new hk341 (by omega)
              have hS346 := (hS336).new hk341 (by omega)
              refine SR.nil ⟨hS346, _, rfl, ?_⟩
              refine AH.take 12 rfl (by kernel_rfl) trivial (hS346) (fun w' hw' => r_as (v := .int .i64 _) rfl) <| AH.take 13 rfl (by kernel_rfl) trivial (hS346) (fun w' hw' => r_as (v := .bool _) rfl) <| AH.done (by kernel_rfl) ?_
              exact ⟨g294, g305, A315, c316, A330, n331, c332, ⟨rfl, rfl, rfl, rfl, rfl, rfl, trivial⟩, hS346, (hb343), ⟨by omega, (hb343).lt⟩, (((hO333).kp hk341 (fun b_ hb e' => by have e'' : b_ = g294 := e'; have := (hO333).base_le hb; omega)).down (by omega)), hd303, (fun e' => by have := ((hO333).kp hk341 (fun b_ hb e' => by have e'' : b_ = g294 := e'; have := (hO333).base_le hb; omega)).base_le e'; omega), (fun b_ h h' => by have h1 := ((hO333).kp hk341 (fun b_ hb e' => by have e'' : b_ = g294 := e'; have := (hO333).base_le hb; omega)).base_le h; have h2 := ((((((hm79).lo hk92).lo hk148).lo hk297).lo hk308).kp hk318 (fun b_ hb e' => hd83 b_ e' hb)).base_le h'; omega), hl337, hl338, hq339⟩
          rintro f351 w352 ⟨g185, g151, A161, c162, A175, n176, c177, hat354, hR353, hm205, hg206, hm207, hd208, hd209, hd210, hl182, hl183, hq184⟩
          rw [← sets_of_at hat354]
          have hz355 := hR353.size
          have hB356 := hB94.step hR353 (fun i_ hi_ e' => by have := (((hO80).lo hk92)).base_le e'; first | omega | (exfalso; omega) | exact e' | exact .inl e' | exact .inr e')
          refine W.seq ?_
          have hm357 := ((hm77).lo hk92).kp hR353 (fun b_ hb e' => by have := (((hO80).lo hk92)).base_le e'; omega)
          refine W.regJS (fun f' w' => At f' [(0, .slice AL nL cL), (2, .bool false), (113, .bool (decide (((!((runFJ v12 ((stepsT i) ++ ([(⟨6, 0⟩ : ScanStep)] : List ScanStep))).2.2)) = true) ∨ ((¬ (((runFJ v12 ((stepsT i) ++ ([(⟨6, 0⟩ : ScanStep)] : List ScanStep))).2.1) = (doneN v12))) ∨ (¬ ((((runFJ v12 ((stepsT i) ++ ([(⟨6, 0⟩ : ScanStep)] : List ScanStep))).1).State) = 3))))))] ∧ Lo w352 w') ?_ ?_
          · refine SR.q' (r_mv (v := .bool _) rfl) <| SR.q' (r_not rfl) <| SR.q' (r_mv (v := .bool _) rfl) <| SR.split (fun h358 => ?_) (fun h358 => ?_)
            · have hq359 := bnot_t h358
              refine SR.s' rfl <| SR.s' rfl <| SR.s' rfl <| SR.q' (r_pick true rfl (v := .bool true) rfl) <| SR.q' (r_mv (v := .bool _) rfl) <| SR.s' rfl <| SR.s' rfl <| SR.s' rfl <| SR.q' (r_pick true rfl (v := .bool true) rfl) <| SR.nil ?_
              exact ⟨_, rfl, ⟨⟨rfl, rfl, (eDT ((jot h358).1 trivial)), trivial⟩, (Lo.refl _)⟩⟩
            · have hq360 := bnot_f h358
              refine SR.g' rfl (r_mv (v := .int .i64 _) rfl) <| SR.g' rfl (r_mv (v := .int .i64 _) rfl) <| SR.g' rfl (r_ne rfl rfl) <| SR.q' (r_pick false rfl (v := .bool _) rfl) <| SR.q' (r_mv (v := .bool _) rfl) <| SR.splitN (fun h361 => ?_) (fun h361 => ?_)
              · refine SR.s' rfl <| SR.s' rfl <| SR.s' rfl <| SR.q' (r_pick true rfl (v := .bool true) rfl) <| SR.nil ?_
                exact ⟨_, rfl, ⟨⟨rfl, rfl, (eDT (((jmf h361).trans (jof (ne_true_of_eq_false h358))).1 trivial)), trivial⟩, (Lo.refl _)⟩⟩
              · refine SR.g' rfl (r_fa fa57_0 rfl) <| SR.g' rfl (r_ld (v := .int .i64 (((runFJ v12 ((stepsT i) ++ ([(⟨6, 0⟩ : ScanStep)] : List ScanStep))).1).State)) sca3 rfl ((hm205).cell rfl)) <| SR.g' rfl (r_ne rfl rfl) <| SR.q' (r_pick false rfl (v := .bool _) rfl) <| SR.nil ?_
                exact ⟨_, rfl, ⟨⟨rfl, rfl, (eND ((jmt h361).trans (jof (ne_true_of_eq_false h358)))), trivial⟩, (Lo.refl _)⟩⟩
          rintro f362 w363 ⟨hat364, hk365⟩
          rw [← sets_of_at hat364]
          have hz366 := hk365.size
          have hB367 := hB356.lo hk365
          refine W.cond_d rfl (fun h368 => ?_) (fun h368 => ?_)
          · refine W.seq ?_
            refine W.regS (SR.q' (r_as (v := .bool false) rfl) <| SR.nil ?_)
            refine W.ret ?_
            refine ret1 rfl (v := .bool _) rfl ?_
            exact ⟨eR (eB (z_c_laws_FnTiles_369 L nL hbdL hleL h5 v12 hq13 n9 hl16 hl17 hq18 hq51 hq56 h60 hq61 i n70 c70 hi81 hl85 hq87 h95 n176 hl182 hl183 hq184 h368)), hB367⟩
          · have hq370 : ¬ ((!((runFJ v12 ((stepsT i) ++ ([(⟨6, 0⟩ : ScanStep)] : List ScanStep))).2.2)) = true) := (not_or.1 h368).1
            have hq371 : ((runFJ v12 ((stepsT i) ++ ([(⟨6, 0⟩ : ScanStep)] : List ScanStep))).2.1) = (doneN v12) := (Classical.not_not.1 (not_or.1 (not_or.1 h368).2).1)
            have hq372 : (((runFJ v12 ((stepsT i) ++ ([(⟨6, 0⟩ : ScanStep)] : List ScanStep))).1).State) = 3 := (Classical.not_not.1 (not_or.1 (not_or.1 h368).2).2)
            refine W.skip ?_
            refine W.seq ?_
            refine W.regS (SR.q' (r_mv (v := .slice _ _ _) rfl) <| SR.call ent33 (c_spec_DrawWorstTile w363 L (((hm357).lo hk365)) (by omega)) rfl ?_)
            rintro e w373 ⟨A375, n376, c377, v379, rfl, hO378, hq380, hk374⟩
            refine ⟨_, rfl, ?_⟩
            have hz381 := hk374.size
            have hB382 := hB367.lo hk374
            have hl383 := hO378.len
            have hl384 := hO378.rd.bound
            refine SR.alloc (l := [.int .i64 0, .slice none 0 0, .int .i64 0, .int .i64 0, .int .i64 0]) tz57 rfl ?_
            intro g385 w386 hg387 hk388 hs389 hb390
            have hz391 := hk388.size
            have hB392 := hB382.lo hk388
            have hd393 : ¬ A8 = some ⟨g385, 0, none⟩ := fun e' => by have := (((((hm79).lo hk92).kp hR353 (fun b_ hb e' => hd83 b_ e' hb)).lo hk365).lo hk374).base_le e'; omega
            have hd394 : ¬ A175 = some ⟨g385, 0, none⟩ := fun e' => by have := (((hm207).lo hk365).lo hk374).base_le e'; omega
            have hd395 : ¬ A375 = some ⟨g385, 0, none⟩ := fun e' => by have := (hO378).base_le e'; omega
            refine SR.store (o := 0) (vs := [.int .i64 v379.State, .slice A375 n376 c377, .int .i64 v379.Next, .int .i64 v379.Fails, .int .i64 v379.Size]) agg57.2 rfl rfl rfl rfl (hb390) (Nat.le_of_ble_eq_true rfl) rfl ?_
            intro w396 hk397 hs398 hb399
            have hz400 := hk397.size
            have hB401 := hB392.new hk397 (by omega)
            refine SR.nil ?_
            refine W.seq ?_
            have hm402 := ((((hm357).lo hk365).lo hk374).lo hk388).kp hk397 (fun b_ hb e' => by have e'' : b_ = g385 := e'; omega)
            have hm403 := ((hO378).lo hk388).kp hk397 (fun b_ hb e' => hd395 (by have e'' : b_ = g385 := e'; rw [← e'']; exact hb))
            refine W.regS (SR.q' (r_lda (l := [.int .i64 v379.State, .slice A375 n376 c377, .int .i64 v379.Next, .int .i64 v379.Fails, .int .i64 v379.Size]) agg57 rfl (fun _ _ hu => (hb399).cell hu) rfl) <| SR.call ent34 (c_impl_WorstTile w396 v379 (((hm403).rd))) rfl ?_)
            rintro e w404 ⟨rfl, hk405⟩
            refine ⟨_, rfl, ?_⟩
            have hz406 := hk405.size
            have hB407 := hB401.lo hk405
            refine SR.q' (r_mv (v := .tuple (List.toArray _)) rfl) <| SR.q' (r_ext (v := .int .i64 _) rfl rfl) <| SR.q' (r_ext (v := .int .i64 _) rfl rfl) <| SR.q' (r_ext (v := .bool _) rfl rfl) <| SR.q' (r_as (v := .int .i64 _) rfl) <| SR.q' (r_as (v := .int .i64 _) rfl) <| SR.q' (r_as (v := .bool _) rfl) <| SR.nil ?_
            refine W.seq ?_
            refine W.seq ?_
            refine W.regS (SR.q' (r_lda (l := [.int .i64 v379.State, .slice A375 n376 c377, .int .i64 v379.Next, .int .i64 v379.Fails, .int .i64 v379.Size]) agg57 rfl (fun _ _ hu => ((hb399).lo hk405).cell hu) rfl) <| SR.call ent35 (c_spec_WorstTile w404 v379 ((((hm403).lo hk405).rd))) rfl ?_)
            rintro e w408 ⟨rfl, hk409⟩
            refine ⟨_, rfl, ?_⟩
            have hz410 := hk409.size
            have hB411 := hB407.lo hk409
            refine SR.q' (r_mv (v := .tuple (List.toArray _)) rfl) <| SR.q' (r_ext (v := .int .i64 _) rfl rfl) <| SR.q' (r_ext (v := .int .i64 _) rfl rfl) <| SR.q' (r_ext (v := .bool _) rfl rfl) <| SR.q' (r_as (v := .int .i64 _) rfl) <| SR.q' (r_as (v := .int .i64 _) rfl) <| SR.q' (r_as (v := .bool _) rfl) <| SR.nil ?_
            refine W.seq ?_
            have hm412 := ((hm402).lo hk405).lo hk409
            have hm413 := ((hb399).lo hk405).lo hk409
            have hm414 := ((hm403).lo hk405).lo hk409
            refine W.regS (SR.q' (r_mv (v := .int .i64 _) rfl) <| SR.q' (r_mv (v := .int .i64 _) rfl) <| SR.q' (r_ne_s rfl rfl) <| SR.q' (r_mv (v := .bool _) rfl) <| SR.g' rfl (r_mv (v := .int .i64 _) rfl) <| SR.g' rfl (r_mv (v := .int .i64 _) rfl) <| SR.g' rfl (r_ne_s rfl rfl) <| SR.q' (r_pick false rfl (v := .bool _) rfl) <| SR.q' (r_mv (v := .bool _) rfl) <| SR.g' rfl (r_mv (v := .bool _) rfl) <| SR.g' rfl (r_mv (v := .bool _) rfl) <| SR.g' rfl (r_neb_s und4 rfl rfl) <| SR.q' (r_pick false rfl (v := .bool _) rfl) <| SR.nil ?_)
            refine W.cond_f rfl ?_
            refine W.skip ?_
            refine W.seq ?_
            refine W.seq ?_
            refine W.regS (SR.q' (r_as (v := .int .i64 0) rfl) <| SR.nil ?_)
            refine W.block ?_
            refine W.loop (σ := Nat) (fun g => [(0, .slice AL nL cL), (17, .pointer (some ((⟨g385, 0, none⟩ : Addr)))), (19, .int .i64 ((worstN v379).2)), (20, .bool (decide (JobOK v379 ∧ ¬ v379.Next = 0))), (24, .int .i64 (g : Int))]) (fun g w' => (Lo w w') ∧ (SlR w' BL encB 1 AL nL cL L) ∧ (Blk w' g385 57 [.int .i64 v379.State, .slice A375 n376 c377, .int .i64 v379.Next, .int .i64 v379.Fails, .int .i64 v379.Size]) ∧ (SlO w' w363.heap.size encI 1 3 A375 n376 c377 v379.Tiles) ∧ (g ≤ 9)) (fun g => 20 - g) 0 ?_ ?_ ?_
            · exact ⟨rfl, rfl, rfl, rfl, rfl, trivial⟩
            · exact ⟨hB411, hm412, hm413, hm414, (z_c_laws_FnTiles_415 L nL hbdL hleL h5 v12 hq13 n9 hl16 hl17 hq18 hq51 hq56 h60 hq61 i n70 c70 hi81 hl85 hq87 h95 n176 hl182 hl183 hq184 h368 hq370 hq371 hq372 v379 hq380 n376 hl383 hl384)⟩
            · rintro j f416 w417 hP419
              obtain ⟨hB418, hm420, hm421, hm422, hi423⟩ : (Lo w w417) ∧ (SlR w417 BL encB 1 AL nL cL L) ∧ (Blk w417 g385 57 [.int .i64 v379.State, .slice A375 n376 c377, .int .i64 v379.Next, .int .i64 v379.Fails, .int .i64 v379.Size]) ∧ (SlO w417 w363.heap.size encI 1 3 A375 n376 c377 v379.Tiles) ∧ (j ≤ 9) := hP419
              refine (?_ : W _ _ _ _ _ (act _ (sets f416 [(0, .slice AL nL cL), (17, .pointer (some ((⟨g385, 0, none⟩ : Addr)))), (19, .int .i64 ((worstN v379).2)), (20, .bool (decide (JobOK v379 ∧ ¬ v379.Next = 0))), (24, .int .i64 (j : Int))])) _)
              have hzw417 := hB418.size
              have hl424 := hm421.lt
              refine W.seq ?_
              refine W.seq ?_
              refine W.regJS (fun f' w' => At f' [(0, .slice AL nL cL), (17, .pointer (some ((⟨g385, 0, none⟩ : Addr)))), (19, .int .i64 ((worstN v379).2)), (20, .bool (decide (JobOK v379 ∧ ¬ v379.Next = 0))), (24, .int .i64 (j : Int)), (148, .bool (decide (((j : Int) < (n376 : Int)) ∧ (JobOK v379 ∧ ¬ v379.Next = 0))))] ∧ Lo w417 w') ?_ ?_
              · refine SR.q' (r_mv (v := .int .i64 _) rfl) <| SR.q' (r_fa fa57_1 rfl) <| SR.q' (r_ld (v := .slice A375 n376 c377) sca38 rfl ((hm421).cell rfl)) <| SR.q' (r_len und38 rfl) <| SR.q' (r_lt rfl rfl) <| SR.q' (r_mv (v := .bool _) rfl) <| SR.splitD (fun h425 => ?_) (fun h425 => ?_)
                · refine SR.g' rfl (r_mv (v := .bool _) rfl) <| SR.q' (r_pick true rfl (v := .bool _) rfl) <| SR.nil ?_
                  exact ⟨_, rfl, ⟨⟨rfl, rfl, rfl, rfl, rfl, (eDD (jat h425)), trivial⟩, (Lo.refl _)⟩⟩
                · refine SR.s' rfl <| SR.q' (r_pick false rfl (v := .bool false) rfl) <| SR.nil ?_
                  exact ⟨_, rfl, ⟨⟨rfl, rfl, rfl, rfl, rfl, (eDF (jaf h425).2), trivial⟩, (Lo.refl _)⟩⟩
              rintro f426 w427 ⟨hat428, hk429⟩
              rw [← sets_of_at hat428]
              have hz430 := hk429.size
              have hB431 := hB418.lo hk429
              refine W.cond_d rfl (fun h432 => ?_) (fun h432 => ?_)
              · have hq433 : (j : Int) < (n376 : Int) := h432.1
                have hq434 : JobOK v379 ∧ ¬ v379.Next = 0 := h432.2
                refine W.skip ?_
                refine W.seq ?_
                refine W.block ?_
                refine W.seq ?_
                refine W.regJS (fun f' w' => At f' [(0, .slice AL nL cL), (17, .pointer (some ((⟨g385, 0, none⟩ : Addr)))), (19, .int .i64 ((worstN v379).2)), (20, .bool (decide (JobOK v379 ∧ ¬ v379.Next = 0))), (24, .int .i64 (j : Int)), (165, .bool (decide ((¬ ((gt v379.Tiles j) = 0)) ∧ ((gt v379.Tiles j) < ((worstN v379).2)))))] ∧ Lo w427 w' ∧ (v379.Tiles[j]? = some (gt v379.Tiles j))) ?_ ?_
                · refine SR.q' (r_fa fa57_1 rfl) <| SR.q' (r_ld (v := .slice A375 n376 c377) sca38 rfl (((hm421).lo hk429).cell rfl)) <| SR.q' (r_mv (v := .int .i64 _) rfl) <| ?_
                  have hx436 := (((hm422).lo hk429).rd).elem (i := j) (by omega)
                  refine SR.q' (r_ixR tsl38 (((hm422).lo hk429).rd) rfl rfl (by omega)) <| SR.q' (r_ld (v := .int .i64 (gt v379.Tiles j)) sca3 rfl ((((hm422).lo hk429).rd).cell0 hx436 rfl)) <| SR.q' (r_ne rfl rfl) <| SR.q' (r_mv (v := .bool _) rfl) <| SR.splitN (fun h437 => ?_) (fun h437 => ?_)
                  · refine SR.g' rfl (r_fa fa57_1 rfl) <| SR.g' rfl (r_ld (v := .slice A375 n376 c377) sca38 rfl (((hm421).lo hk429).cell rfl)) <| SR.g' rfl (r_mv (v := .int .i64 _) rfl) <| SR.g' rfl (r_ixR tsl38 (((hm422).lo hk429).rd) rfl rfl (by omega)) <| SR.g' rfl (r_ld (v := .int .i64 (gt v379.Tiles j)) sca3 rfl ((((hm422).lo hk429).rd).cell0 hx436 rfl)) <| SR.g' rfl (r_mv (v := .int .i64 _) rfl) <| SR.g' rfl (r_lt rfl rfl) <| SR.q' (r_pick true rfl (v := .bool _) rfl) <| SR.nil ?_
                    exact ⟨_, rfl, ⟨⟨rfl, rfl, rfl, rfl, rfl, (eDD (jnf h437)), trivial⟩, (Lo.refl _), hx436⟩⟩
                  · refine SR.s' rfl <| SR.s' rfl <| SR.s' rfl <| SR.s' rfl <| SR.s' rfl <| SR.s' rfl <| SR.s' rfl <| SR.q' (r_pick false rfl (v := .bool false) rfl) <| SR.nil ?_
                    exact ⟨_, rfl, ⟨⟨rfl, rfl, rfl, rfl, rfl, (eDF (jnt h437).2), trivial⟩, (Lo.refl _), hx436⟩⟩
                rintro f438 w439 ⟨hat440, hk441, hq442⟩
                rw [← sets_of_at hat440]
                have hz443 := hk441.size
                have hB444 := hB431.lo hk441
                refine W.cond_d rfl (fun h445 => ?_) (fun h445 => ?_)
                · have hq446 : ¬ ((gt v379.Tiles j) = 0) := h445.1
                  have hq447 : (gt v379.Tiles j) < ((worstN v379).2) := h445.2
                  refine W.seq ?_
                  have hm448 := ((hm420).lo hk429).lo hk441
                  have hm449 := ((hm421).lo hk429).lo hk441
                  have hm450 := ((hm422).lo hk429).lo hk441
                  refine W.regS (SR.q' (r_as (v := .bool false) rfl) <| SR.nil ?_)
                  refine W.ret ?_
                  refine ret1 rfl (v := .bool _) rfl ?_
                  exact ⟨eR (eB (z_c_laws_FnTiles_451 L nL hbdL hleL h5 v12 hq13 n9 hl16 hl17 hq18 hq51 hq56 h60 hq61 i n70 c70 hi81 hl85 hq87 h95 n176 hl182 hl183 hq184 h368 hq370 hq371 hq372 v379 hq380 n376 hl383 hl384 j hi423 h432 hq433 hq434 hq442 h445 hq446 hq447)), hB444⟩
                · refine W.skip ?_
                  have hm452 := ((hm420).lo hk429).lo hk441
                  have hm453 := ((hm421).lo hk429).lo hk441
                  have hm454 := ((hm422).lo hk429).lo hk441
                  refine W.regS (SR.q' (r_mv (v := .int .i64 _) rfl) <| SR.q' (r_add rfl rfl (by omega)) <| SR.q' (r_as (v := .int .i64 _) rfl) <| SR.nil ?_)
                  refine ⟨j + 1, _, rfl, ⟨rfl, rfl, rfl, rfl, rfl, trivial⟩, ⟨hB444, hm452, hm453, hm454, ?_⟩, ?_⟩
                  · exact (z_c_laws_FnTiles_455 L nL hbdL hleL h5 v12 hq13 n9 hl16 hl17 hq18 hq51 hq56 h60 hq61 i n70 c70 hi81 hl85 hq87 h95 n176 hl182 hl183 hq184 h368 hq370 hq371 hq372 v379 hq380 n376 hl383 hl384 j hi423 h432 hq433 hq434 hq442 h445)
                  · exact (z_c_laws_FnTiles_456 L nL hbdL hleL h5 v12 hq13 n9 hl16 hl17 hq18 hq51 hq56 h60 hq61 i n70 c70 hi81 hl85 hq87 h95 n176 hl182 hl183 hq184 h368 hq370 hq371 hq372 v379 hq380 n376 hl383 hl384 j hi423 h432 hq433 hq434 hq442 h445)
              · refine W.exit (xin_here ?_)
                refine W.seq ?_
                refine W.regS (SR.q' (r_mv (v := .slice _ _ _) rfl) <| SR.call ent36 (c_spec_DrawJobText w427 L (((hm420).lo hk429)) (by omega)) rfl ?_)
                rintro e w457 ⟨A459, n460, c461, v463, rfl, hO462, hq464, hk458⟩
                refine ⟨_, rfl, ?_⟩
                have hz465 := hk458.size
                have hB466 := hB431.lo hk458
                have hl467 := hO462.len
                have hl468 := hO462.rd.bound
                refine SR.alloc (l := [.int .i64 0, .slice none 0 0, .int .i64 0, .int .i64 0, .int .i64 0]) tz57 rfl ?_
                intro g469 w470 hg471 hk472 hs473 hb474
                have hz475 := hk472.size
                have hB476 := hB466.lo hk472
                have hd477 : ¬ A375 = some ⟨g469, 0, none⟩ := fun e' => by have := (((hm422).lo hk429).lo hk458).base_le e'; omega
                have hd478 : ¬ A459 = some ⟨g469, 0, none⟩ := fun e' => by have := (hO462).base_le e'; omega
                refine SR.store (o := 0) (vs := [.int .i64 v463.State, .slice A459 n460 c461, .int .i64 v463.Next, .int .i64 v463.Fails, .int .i64 v463.Size]) agg57.2 rfl rfl rfl rfl (hb474) (Nat.le_of_ble_eq_true rfl) rfl ?_
                intro w479 hk480 hs481 hb482
                have hz483 := hk480.size
                have hB484 := hB476.new hk480 (by omega)
                refine SR.nil ?_
                refine W.seq ?_
                have hm485 := ((hO462).lo hk472).kp hk480 (fun b_ hb e' => hd478 (by have e'' : b_ = g469 := e'; rw [← e'']; exact hb))
                refine W.regS (SR.q' (r_lda (l := [.int .i64 v463.State, .slice A459 n460 c461, .int .i64 v463.Next, .int .i64 v463.Fails, .int .i64 v463.Size]) agg57 rfl (fun _ _ hu => (hb482).cell hu) rfl) <| SR.call ent37 (c_impl_JobText w479 v463 (((hm485).rd)) (hE.lo (hB484))) rfl ?_)
                rintro e w486 ⟨rfl, hk487⟩
                refine ⟨_, rfl, ?_⟩
                have hz488 := hk487.size
                have hB489 := hB484.lo hk487
                refine SR.q' (r_mv (v := .tuple (List.toArray _)) rfl) <| SR.q' (r_ext (v := str _) rfl rfl) <| SR.q' (r_ext (v := .bool _) rfl rfl) <| SR.q' (r_as (v := str _) rfl) <| SR.q' (r_as (v := .bool _) rfl) <| SR.nil ?_
                refine W.seq ?_
                refine W.regS (SR.q' (r_lda (l := [.int .i64 v463.State, .slice A459 n460 c461, .int .i64 v463.Next, .int .i64 v463.Fails, .int .i64 v463.Size]) agg57 rfl (fun _ _ hu => ((hb482).lo hk487).cell hu) rfl) <| SR.call ent38 (c_spec_JobText w486 v463 ((((hm485).lo hk487).rd))) rfl ?_)
                rintro e w490 ⟨rfl, hk491⟩
                refine ⟨_, rfl, ?_⟩
                have hz492 := hk491.size
                have hB493 := hB489.lo hk491
                refine SR.q' (r_mv (v := .tuple (List.toArray _)) rfl) <| SR.q' (r_ext (v := str _) rfl rfl) <| SR.q' (r_ext (v := .bool _) rfl rfl) <| SR.q' (r_as (v := str _) rfl) <| SR.q' (r_as (v := .bool _) rfl) <| SR.nil ?_
                refine W.seq ?_
                have hm494 := ((hb482).lo hk487).lo hk491
                have hm495 := ((hm485).lo hk487).lo hk491
                refine W.regS (SR.q' (r_mv (v := str _) rfl) <| SR.q' (r_mv (v := str _) rfl) <| SR.q' (r_eqs_s (s := jX v463) rfl rfl) <| SR.q' (r_mv (v := .bool _) rfl) <| SR.g' rfl (r_mv (v := .bool _) rfl) <| SR.g' rfl (r_mv (v := .bool _) rfl) <| SR.g' rfl (r_eqb_s und4 rfl rfl) <| SR.q' (r_pick true rfl (v := .bool _) rfl) <| SR.q' (r_mv (v := .bool _) rfl) <| SR.g' rfl (r_mv (v := .bool _) rfl) <| SR.g' rfl (r_lda (l := [.int .i64 v463.State, .slice A459 n460 c461, .int .i64 v463.Next, .int .i64 v463.Fails, .int .i64 v463.Size]) agg57 rfl (fun _ _ hu => (hm494).cell hu) rfl) <| SR.gcall rfl ent39 (c_impl_IsScanJob w490 v463 (((hm495).rd))) rfl ?_)
                rintro e w496 ⟨rfl, hk497⟩
                refine ⟨_, rfl, ?_⟩
                have hz498 := hk497.size
                have hB499 := hB493.lo hk497
                refine SR.g' rfl (r_eqb_s und4 rfl rfl) <| SR.q' (r_pick true rfl (v := .bool _) rfl) <| SR.q' (r_as (v := .bool _) rfl) <| SR.nil ?_
                refine W.ret ?_
                refine ret1 rfl (v := .bool _) rfl ?_
                exact ⟨eR rfl, hB499⟩
    · refine W.skip ?_
      refine W.seq ?_
      refine W.regS (SR.q' (r_mv (v := .slice _ _ _) rfl) <| SR.call ent33 (c_spec_DrawWorstTile w52 L ((hm57)) (by omega)) rfl ?_)
      rintro e w500 ⟨A502, n503, c504, v506, rfl, hO505, hq507, hk501⟩
      refine ⟨_, rfl, ?_⟩
      have hz508 := hk501.size
      have hB509 := hB55.lo hk501
      have hl510 := hO505.len
      have hl511 := hO505.rd.bound
      refine SR.alloc (l := [.int .i64 0, .slice none 0 0, .int .i64 0, .int .i64 0, .int .i64 0]) tz57 rfl ?_
      intro g512 w513 hg514 hk515 hs516 hb517
      have hz518 := hk515.size
      have hB519 := hB509.lo hk515
      have hd520 : ¬ A8 = some ⟨g512, 0, none⟩ := fun e' => by have := ((hm59).lo hk501).base_le e'; omega
      have hd521 : ¬ A502 = some ⟨g512, 0, none⟩ := fun e' => by have := (hO505).base_le e'; omega
      refine SR.store (o := 0) (vs := [.int .i64 v506.State, .slice A502 n503 c504, .int .i64 v506.Next, .int .i64 v506.Fails, .int .i64 v506.Size]) agg57.2 rfl rfl rfl rfl (hb517) (Nat.le_of_ble_eq_true rfl) rfl ?_
      intro w522 hk523 hs524 hb525
      have hz526 := hk523.size
      have hB527 := hB519.new hk523 (by omega)
      refine SR.nil ?_
      refine W.seq ?_
      have hm528 := (((hm57).lo hk501).lo hk515).kp hk523 (fun b_ hb e' => by have e'' : b_ = g512 := e'; omega)
      have hm529 := ((hO505).lo hk515).kp hk523 (fun b_ hb e' => hd521 (by have e'' : b_ = g512 := e'; rw [← e'']; exact hb))
      refine W.regS (SR.q' (r_lda (l := [.int .i64 v506.State, .slice A502 n503 c504, .int .i64 v506.Next, .int .i64 v506.Fails, .int .i64 v506.Size]) agg57 rfl (fun _ _ hu => (hb525).cell hu) rfl) <| SR.call ent34 (c_impl_WorstTile w522 v506 (((hm529).rd))) rfl ?_)
      rintro e w530 ⟨rfl, hk531⟩
      refine ⟨_, rfl, ?_⟩
      have hz532 := hk531.size
      have hB533 := hB527.lo hk531
      refine SR.q' (r_mv (v := .tuple (List.toArray _)) rfl) <| SR.q' (r_ext (v := .int .i64 _) rfl rfl) <| SR.q' (r_ext (v := .int .i64 _) rfl rfl) <| SR.q' (r_ext (v := .bool _) rfl rfl) <| SR.q' (r_as (v := .int .i64 _) rfl) <| SR.q' (r_as (v := .int .i64 _) rfl) <| SR.q' (r_as (v := .bool _) rfl) <| SR.nil ?_
      refine W.seq ?_
      refine W.seq ?_
      refine W.regS (SR.q' (r_lda (l := [.int .i64 v506.State, .slice A502 n503 c504, .int .i64 v506.Next, .int .i64 v506.Fails, .int .i64 v506.Size]) agg57 rfl (fun _ _ hu => ((hb525).lo hk531).cell hu) rfl) <| SR.call ent35 (c_spec_WorstTile w530 v506 ((((hm529).lo hk531).rd))) rfl ?_)
      rintro e w534 ⟨rfl, hk535⟩
      refine ⟨_, rfl, ?_⟩
      have hz536 := hk535.size
      have hB537 := hB533.lo hk535
      refine SR.q' (r_mv (v := .tuple (List.toArray _)) rfl) <| SR.q' (r_ext (v := .int .i64 _) rfl rfl) <| SR.q' (r_ext (v := .int .i64 _) rfl rfl) <| SR.q' (r_ext (v := .bool _) rfl rfl) <| SR.q' (r_as (v := .int .i64 _) rfl) <| SR.q' (r_as (v := .int .i64 _) rfl) <| SR.q' (r_as (v := .bool _) rfl) <| SR.nil ?_
      refine W.seq ?_
      have hm538 := ((hm528).lo hk531).lo hk535
      have hm539 := ((hb525).lo hk531).lo hk535
      have hm540 := ((hm529).lo hk531).lo hk535
      refine W.regS (SR.q' (r_mv (v := .int .i64 _) rfl) <| SR.q' (r_mv (v := .int .i64 _) rfl) <| SR.q' (r_ne_s rfl rfl) <| SR.q' (r_mv (v := .bool _) rfl) <| SR.g' rfl (r_mv (v := .int .i64 _) rfl) <| SR.g' rfl (r_mv (v := .int .i64 _) rfl) <| SR.g' rfl (r_ne_s rfl rfl) <| SR.q' (r_pick false rfl (v := .bool _) rfl) <| SR.q' (r_mv (v := .bool _) rfl) <| SR.g' rfl (r_mv (v := .bool _) rfl) <| SR.g' rfl (r_mv (v := .bool _) rfl) <| SR.g' rfl (r_neb_s und4 rfl rfl) <| SR.q' (r_pick false rfl (v := .bool _) rfl) <| SR.nil ?_)
      refine W.cond_f rfl ?_
      refine W.skip ?_
      refine W.seq ?_
      refine W.seq ?_
      refine W.regS (SR.q' (r_as (v := .int .i64 0) rfl) <| SR.nil ?_)
      refine W.block ?_
      refine W.loop (σ := Nat) (fun g => [(0, .slice AL nL cL), (17, .pointer (some ((⟨g512, 0, none⟩ : Addr)))), (19, .int .i64 ((worstN v506).2)), (20, .bool (decide (JobOK v506 ∧ ¬ v506.Next = 0))), (24, .int .i64 (g : Int))]) (fun g w' => (Lo w w') ∧ (SlR w' BL encB 1 AL nL cL L) ∧ (Blk w' g512 57 [.int .i64 v506.State, .slice A502 n503 c504, .int .i64 v506.Next, .int .i64 v506.Fails, .int .i64 v506.Size]) ∧ (SlO w' w52.heap.size encI 1 3 A502 n503 c504 v506.Tiles) ∧ (g ≤ 9)) (fun g => 20 - g) 0 ?_ ?_ ?_
      · exact ⟨rfl, rfl, rfl, rfl, rfl, trivial⟩
      · exact ⟨hB537, hm538, hm539, hm540, (z_c_laws_FnTiles_541 L nL hbdL hleL h5 v12 hq13 n9 hl16 hl17 hq18 hq51 hq56 h60 v506 hq507 n503 hl510 hl511)⟩
      · rintro j f542 w543 hP545
        obtain ⟨hB544, hm546, hm547, hm548, hi549⟩ : (Lo w w543) ∧ (SlR w543 BL encB 1 AL nL cL L) ∧ (Blk w543 g512 57 [.int .i64 v506.State, .slice A502 n503 c504, .int .i64 v506.Next, .int .i64 v506.Fails, .int .i64 v506.Size]) ∧ (SlO w543 w52.heap.size encI 1 3 A502 n503 c504 v506.Tiles) ∧ (j ≤ 9) := hP545
        refine (?_ : W _ _ _ _ _ (act _ (sets f542 [(0, .slice AL nL cL), (17, .pointer (some ((⟨g512, 0, none⟩ : Addr)))), (19, .int .i64 ((worstN v506).2)), (20, .bool (decide (JobOK v506 ∧ ¬ v506.Next = 0))), (24, .int .i64 (j : Int))])) _)
        have hzw543 := hB544.size
        have hl550 := hm547.lt
        refine W.seq ?_
        refine W.seq ?_
        refine W.regJS (fun f' w' => At f' [(0, .slice AL nL cL), (17, .pointer (some ((⟨g512, 0, none⟩ : Addr)))), (19, .int .i64 ((worstN v506).2)), (20, .bool (decide (JobOK v506 ∧ ¬ v506.Next = 0))), (24, .int .i64 (j : Int)), (148, .bool (decide (((j : Int) < (n503 : Int)) ∧ (JobOK v506 ∧ ¬ v506.Next = 0))))] ∧ Lo w543 w') ?_ ?_
        · refine SR.q' (r_mv (v := .int .i64 _) rfl) <| SR.q' (r_fa fa57_1 rfl) <| SR.q' (r_ld (v := .slice A502 n503 c504) sca38 rfl ((hm547).cell rfl)) <| SR.q' (r_len und38 rfl) <| SR.q' (r_lt rfl rfl) <| SR.q' (r_mv (v := .bool _) rfl) <| SR.splitD (fun h551 => ?_) (fun h551 => ?_)
          · refine SR.g' rfl (r_mv (v := .bool _) rfl) <| SR.q' (r_pick true rfl (v := .bool _) rfl) <| SR.nil ?_
            exact ⟨_, rfl, ⟨⟨rfl, rfl, rfl, rfl, rfl, (eDD (jat h551)), trivial⟩, (Lo.refl _)⟩⟩
          · refine SR.s' rfl <| SR.q' (r_pick false rfl (v := .bool false) rfl) <| SR.nil ?_
            exact ⟨_, rfl, ⟨⟨rfl, rfl, rfl, rfl, rfl, (eDF (jaf h551).2), trivial⟩, (Lo.refl _)⟩⟩
        rintro f552 w553 ⟨hat554, hk555⟩
        rw [← sets_of_at hat554]
        have hz556 := hk555.size
        have hB557 := hB544.lo hk555
        refine W.cond_d rfl (fun h558 => ?_) (fun h558 => ?_)
        · have hq559 : (j : Int) < (n503 : Int) := h558.1
          have hq560 : JobOK v506 ∧ ¬ v506.Next = 0 := h558.2
          refine W.skip ?_
          refine W.seq ?_
          refine W.block ?_
          refine W.seq ?_
          refine W.regJS (fun f' w' => At f' [(0, .slice AL nL cL), (17, .pointer (some ((⟨g512, 0, none⟩ : Addr)))), (19, .int .i64 ((worstN v506).2)), (20, .bool (decide (JobOK v506 ∧ ¬ v506.Next = 0))), (24, .int .i64 (j : Int)), (165, .bool (decide ((¬ ((gt v506.Tiles j) = 0)) ∧ ((gt v506.Tiles j) < ((worstN v506).2)))))] ∧ Lo w553 w' ∧ (v506.Tiles[j]? = some (gt v506.Tiles j))) ?_ ?_
          · refine SR.q' (r_fa fa57_1 rfl) <| SR.q' (r_ld (v := .slice A502 n503 c504) sca38 rfl (((hm547).lo hk555).cell rfl)) <| SR.q' (r_mv (v := .int .i64 _) rfl) <| ?_
            have hx562 := (((hm548).lo hk555).rd).elem (i := j) (by omega)
            refine SR.q' (r_ixR tsl38 (((hm548).lo hk555).rd) rfl rfl (by omega)) <| SR.q' (r_ld (v := .int .i64 (gt v506.Tiles j)) sca3 rfl ((((hm548).lo hk555).rd).cell0 hx562 rfl)) <| SR.q' (r_ne rfl rfl) <| SR.q' (r_mv (v := .bool _) rfl) <| SR.splitN (fun h563 => ?_) (fun h563 => ?_)
            · refine SR.g' rfl (r_fa fa57_1 rfl) <| SR.g' rfl (r_ld (v := .slice A502 n503 c504) sca38 rfl (((hm547).lo hk555).cell rfl)) <| SR.g' rfl (r_mv (v := .int .i64 _) rfl) <| SR.g' rfl (r_ixR tsl38 (((hm548).lo hk555).rd) rfl rfl (by omega)) <| SR.g' rfl (r_ld (v := .int .i64 (gt v506.Tiles j)) sca3 rfl ((((hm548).lo hk555).rd).cell0 hx562 rfl)) <| SR.g' rfl (r_mv (v := .int .i64 _) rfl) <| SR.g' rfl (r_lt rfl rfl) <| SR.q' (r_pick true rfl (v := .bool _) rfl) <| SR.nil ?_
              exact ⟨_, rfl, ⟨⟨rfl, rfl, rfl, rfl, rfl, (eDD (jnf h563)), trivial⟩, (Lo.refl _), hx562⟩⟩
            · refine SR.s' rfl <| SR.s' rfl <| SR.s' rfl <| SR.s' rfl <| SR.s' rfl <| SR.s' rfl <| SR.s' rfl <| SR.q' (r_pick false rfl (v := .bool false) rfl) <| SR.nil ?_
              exact ⟨_, rfl, ⟨⟨rfl, rfl, rfl, rfl, rfl, (eDF (jnt h563).2), trivial⟩, (Lo.refl _), hx562⟩⟩
          rintro f564 w565 ⟨hat566, hk567, hq568⟩
          rw [← sets_of_at hat566]
          have hz569 := hk567.size
          have hB570 := hB557.lo hk567
          refine W.cond_d rfl (fun h571 => ?_) (fun h571 => ?_)
          · have hq572 : ¬ ((gt v506.Tiles j) = 0) := h571.1
            have hq573 : (gt v506.Tiles j) < ((worstN v506).2) := h571.2
            refine W.seq ?_
            have hm574 := ((hm546).lo hk555).lo hk567
            have hm575 := ((hm547).lo hk555).lo hk567
            have hm576 := ((hm548).lo hk555).lo hk567
            refine W.regS (SR.q' (r_as (v := .bool false) rfl) <| SR.nil ?_)
            refine W.ret ?_
            refine ret1 rfl (v := .bool _) rfl ?_
            exact ⟨eR (eB (z_c_laws_FnTiles_577 L nL hbdL hleL h5 v12 hq13 n9 hl16 hl17 hq18 hq51 hq56 h60 v506 hq507 n503 hl510 hl511 j hi549 h558 hq559 hq560 hq568 h571 hq572 hq573)), hB570⟩
          · refine W.skip ?_
            have hm578 := ((hm546).lo hk555).lo hk567
            have hm579 := ((hm547).lo hk555).lo hk567
            have hm580 := ((hm548).lo hk555).lo hk567
            refine W.regS (SR.q' (r_mv (v := .int .i64 _) rfl) <| SR.q' (r_add rfl rfl (by omega)) <| SR.q' (r_as (v := .int .i64 _) rfl) <| SR.nil ?_)
            refine ⟨j + 1, _, rfl, ⟨rfl, rfl, rfl, rfl, rfl, trivial⟩, ⟨hB570, hm578, hm579, hm580, ?_⟩, ?_⟩
            · exact (z_c_laws_FnTiles_581 L nL hbdL hleL h5 v12 hq13 n9 hl16 hl17 hq18 hq51 hq56 h60 v506 hq507 n503 hl510 hl511 j hi549 h558 hq559 hq560 hq568 h571)
            · exact (z_c_laws_FnTiles_582 L nL hbdL hleL h5 v12 hq13 n9 hl16 hl17 hq18 hq51 hq56 h60 v506 hq507 n503 hl510 hl511 j hi549 h558 hq559 hq560 hq568 h571)
        · refine W.exit (xin_here ?_)
          refine W.seq ?_
          refine W.regS (SR.q' (r_mv (v := .slice _ _ _) rfl) <| SR.call ent36 (c_spec_DrawJobText w553 L (((hm546).lo hk555)) (by omega)) rfl ?_)
          rintro e w583 ⟨A585, n586, c587, v589, rfl, hO588, hq590, hk584⟩
          refine ⟨_, rfl, ?_⟩
          have hz591 := hk584.size
          have hB592 := hB557.lo hk584
          have hl593 := hO588.len
          have hl594 := hO588.rd.bound
          refine SR.alloc (l := [.int .i64 0, .slice none 0 0, .int .i64 0, .int .i64 0, .int .i64 0]) tz57 rfl ?_
          intro g595 w596 hg597 hk598 hs599 hb600
          have hz601 := hk598.size
          have hB602 := hB592.lo hk598
          have hd603 : ¬ A502 = some ⟨g595, 0, none⟩ := fun e' => by have := (((hm548).lo hk555).lo hk584).base_le e'; omega
          have hd604 : ¬ A585 = some ⟨g595, 0, none⟩ := fun e' => by have := (hO588).base_le e'; omega
          refine SR.store (o := 0) (vs := [.int .i64 v589.State, .slice A585 n586 c587, .int .i64 v589.Next, .int .i64 v589.Fails, .int .i64 v589.Size]) agg57.2 rfl rfl rfl rfl (hb600) (Nat.le_of_ble_eq_true rfl) rfl ?_
          intro w605 hk606 hs607 hb608
          have hz609 := hk606.size
          have hB610 := hB602.new hk606 (by omega)
          refine SR.nil ?_
          refine W.seq ?_
          have hm611 := ((hO588).lo hk598).kp hk606 (fun b_ hb e' => hd604 (by have e'' : b_ = g595 := e'; rw [← e'']; exact hb))
          refine W.regS (SR.q' (r_lda (l := [.int .i64 v589.State, .slice A585 n586 c587, .int .i64 v589.Next, .int .i64 v589.Fails, .int .i64 v589.Size]) agg57 rfl (fun _ _ hu => (hb608).cell hu) rfl) <| SR.call ent37 (c_impl_JobText w605 v589 (((hm611).rd)) (hE.lo (hB610))) rfl ?_)
          rintro e w612 ⟨rfl, hk613⟩
          refine ⟨_, rfl, ?_⟩
          have hz614 := hk613.size
          have hB615 := hB610.lo hk613
          refine SR.q' (r_mv (v := .tuple (List.toArray _)) rfl) <| SR.q' (r_ext (v := str _) rfl rfl) <| SR.q' (r_ext (v := .bool _) rfl rfl) <| SR.q' (r_as (v := str _) rfl) <| SR.q' (r_as (v := .bool _) rfl) <| SR.nil ?_
          refine W.seq ?_
          refine W.regS (SR.q' (r_lda (l := [.int .i64 v589.State, .slice A585 n586 c587, .int .i64 v589.Next, .int .i64 v589.Fails, .int .i64 v589.Size]) agg57 rfl (fun _ _ hu => ((hb608).lo hk613).cell hu) rfl) <| SR.call ent38 (c_spec_JobText w612 v589 ((((hm611).lo hk613).rd))) rfl ?_)
          rintro e w616 ⟨rfl, hk617⟩
          refine ⟨_, rfl, ?_⟩
          have hz618 := hk617.size
          have hB619 := hB615.lo hk617
          refine SR.q' (r_mv (v := .tuple (List.toArray _)) rfl) <| SR.q' (r_ext (v := str _) rfl rfl) <| SR.q' (r_ext (v := .bool _) rfl rfl) <| SR.q' (r_as (v := str _) rfl) <| SR.q' (r_as (v := .bool _) rfl) <| SR.nil ?_
          refine W.seq ?_
          have hm620 := ((hb608).lo hk613).lo hk617
          have hm621 := ((hm611).lo hk613).lo hk617
          refine W.regS (SR.q' (r_mv (v := str _) rfl) <| SR.q' (r_mv (v := str _) rfl) <| SR.q' (r_eqs_s (s := jX v589) rfl rfl) <| SR.q' (r_mv (v := .bool _) rfl) <| SR.g' rfl (r_mv (v := .bool _) rfl) <| SR.g' rfl (r_mv (v := .bool _) rfl) <| SR.g' rfl (r_eqb_s und4 rfl rfl) <| SR.q' (r_pick true rfl (v := .bool _) rfl) <| SR.q' (r_mv (v := .bool _) rfl) <| SR.g' rfl (r_mv (v := .bool _) rfl) <| SR.g' rfl (r_lda (l := [.int .i64 v589.State, .slice A585 n586 c587, .int .i64 v589.Next, .int .i64 v589.Fails, .int .i64 v589.Size]) agg57 rfl (fun _ _ hu => (hm620).cell hu) rfl) <| SR.gcall rfl ent39 (c_impl_IsScanJob w616 v589 (((hm621).rd))) rfl ?_)
          rintro e w622 ⟨rfl, hk623⟩
          refine ⟨_, rfl, ?_⟩
          have hz624 := hk623.size
          have hB625 := hB619.lo hk623
          refine SR.g' rfl (r_eqb_s und4 rfl rfl) <| SR.q' (r_pick true rfl (v := .bool _) rfl) <| SR.q' (r_as (v := .bool _) rfl) <| SR.nil ?_
          refine W.ret ?_
          refine ret1 rfl (v := .bool _) rfl ?_
          exact ⟨eR rfl, hB625⟩
end Go.Proofs.YtlpapeeaghmjpaaDoor
