/- Walks, printed by a program of this claim's author. -/
import Derived.Test.YtlpapeeaghmjpaaDoorChecked
import Derived.Test.YtlpapeeaghmjpaaDoorSd
import Derived.Test.YtlpapeeaghmjpaaDoorFu
import Derived.Test.YtlpapeeaghmjpaaDoorFs
import Derived.Test.YtlpapeeaghmjpaaDoorFq
import Derived.Test.YtlpapeeaghmjpaaDoorFo
import Derived.Test.YtlpapeeaghmjpaaDoorSg
import Derived.Test.YtlpapeeaghmjpaaDoorG29p
namespace Go.Proofs.YtlpapeeaghmjpaaDoor
open Go Go.RowKit Fw
set_option maxRecDepth 10000
set_option linter.unusedVariables false
theorem ent71 : Ent Tryd.prog 71 := ent_of Tryd.func71 (by decide +kernel) rfl
theorem tsl61 : TSl Tryd.prog 61 60 2 := ⟨by kernel_rfl, fun _ => by kernel_rfl⟩
theorem tz60 : TZ Tryd.prog 60 (.agg (List.toArray [.int .i64 0, .int .i64 0])) := fun _ => by kernel_rfl
theorem und61 : Tryd.prog.underlying 61 = some (.slice 60) := by kernel_rfl

theorem z_c_impl_RunScan_36 (x : ScanJob) (nx_Tiles : Nat) (hbdx_Tiles : (nx_Tiles : Int) ≤ 9223372036854775807) (hlex_Tiles : nx_Tiles = x.Tiles.length) (S : List ScanStep) (nS : Nat) (hbdS : (nS : Int) ≤ 9223372036854775807) (hleS : nS = S.length) (h29 : (¬ (JobOK x)) ∨ (40 < (nS : Int))) : ([] : List Int) = ((runFJ x S).1).Tiles := by
  subst hleS
  first | (rw [runFJ_no ‹_›]; done) | (rw [runFJ_no ‹_›]; rfl) | (rw [runFJ_yes ‹_› (And.left (And.right ‹_ ∧ runToJ _ _ _ = _ ∧ _›)) (by omega)]; done) | (rw [runFJ_yes ‹_› (And.left (And.right ‹_ ∧ runToJ _ _ _ = _ ∧ _›)) (by omega)]; rfl)
theorem z_c_impl_RunScan_37 (x : ScanJob) (nx_Tiles : Nat) (hbdx_Tiles : (nx_Tiles : Int) ≤ 9223372036854775807) (hlex_Tiles : nx_Tiles = x.Tiles.length) (S : List ScanStep) (nS : Nat) (hbdS : (nS : Int) ≤ 9223372036854775807) (hleS : nS = S.length) (h29 : (¬ (JobOK x)) ∨ (40 < (nS : Int))) : 0 = ((runFJ x S).1).State := by
  subst hleS
  first | (rw [runFJ_no ‹_›]; done) | (rw [runFJ_no ‹_›]; rfl) | (rw [runFJ_yes ‹_› (And.left (And.right ‹_ ∧ runToJ _ _ _ = _ ∧ _›)) (by omega)]; done) | (rw [runFJ_yes ‹_› (And.left (And.right ‹_ ∧ runToJ _ _ _ = _ ∧ _›)) (by omega)]; rfl)
theorem z_c_impl_RunScan_38 (x : ScanJob) (nx_Tiles : Nat) (hbdx_Tiles : (nx_Tiles : Int) ≤ 9223372036854775807) (hlex_Tiles : nx_Tiles = x.Tiles.length) (S : List ScanStep) (nS : Nat) (hbdS : (nS : Int) ≤ 9223372036854775807) (hleS : nS = S.length) (h29 : (¬ (JobOK x)) ∨ (40 < (nS : Int))) : 0 = ((runFJ x S).1).Next := by
  subst hleS
  first | (rw [runFJ_no ‹_›]; done) | (rw [runFJ_no ‹_›]; rfl) | (rw [runFJ_yes ‹_› (And.left (And.right ‹_ ∧ runToJ _ _ _ = _ ∧ _›)) (by omega)]; done) | (rw [runFJ_yes ‹_› (And.left (And.right ‹_ ∧ runToJ _ _ _ = _ ∧ _›)) (by omega)]; rfl)
theorem z_c_impl_RunScan_39 (x : ScanJob) (nx_Tiles : Nat) (hbdx_Tiles : (nx_Tiles : Int) ≤ 9223372036854775807) (hlex_Tiles : nx_Tiles = x.Tiles.length) (S : List ScanStep) (nS : Nat) (hbdS : (nS : Int) ≤ 9223372036854775807) (hleS : nS = S.length) (h29 : (¬ (JobOK x)) ∨ (40 < (nS : Int))) : 0 = ((runFJ x S).1).Fails := by
  subst hleS
  first | (rw [runFJ_no ‹_›]; done) | (rw [runFJ_no ‹_›]; rfl) | (rw [runFJ_yes ‹_› (And.left (And.right ‹_ ∧ runToJ _ _ _ = _ ∧ _›)) (by omega)]; done) | (rw [runFJ_yes ‹_› (And.left (And.right ‹_ ∧ runToJ _ _ _ = _ ∧ _›)) (by omega)]; rfl)
theorem z_c_impl_RunScan_40 (x : ScanJob) (nx_Tiles : Nat) (hbdx_Tiles : (nx_Tiles : Int) ≤ 9223372036854775807) (hlex_Tiles : nx_Tiles = x.Tiles.length) (S : List ScanStep) (nS : Nat) (hbdS : (nS : Int) ≤ 9223372036854775807) (hleS : nS = S.length) (h29 : (¬ (JobOK x)) ∨ (40 < (nS : Int))) : 0 = ((runFJ x S).1).Size := by
  subst hleS
  first | (rw [runFJ_no ‹_›]; done) | (rw [runFJ_no ‹_›]; rfl) | (rw [runFJ_yes ‹_› (And.left (And.right ‹_ ∧ runToJ _ _ _ = _ ∧ _›)) (by omega)]; done) | (rw [runFJ_yes ‹_› (And.left (And.right ‹_ ∧ runToJ _ _ _ = _ ∧ _›)) (by omega)]; rfl)
theorem z_c_impl_RunScan_41 (x : ScanJob) (nx_Tiles : Nat) (hbdx_Tiles : (nx_Tiles : Int) ≤ 9223372036854775807) (hlex_Tiles : nx_Tiles = x.Tiles.length) (S : List ScanStep) (nS : Nat) (hbdS : (nS : Int) ≤ 9223372036854775807) (hleS : nS = S.length) (h29 : (¬ (JobOK x)) ∨ (40 < (nS : Int))) : 0 = (runFJ x S).2.1 := by
  subst hleS
  first | (rw [runFJ_no ‹_›]; done) | (rw [runFJ_no ‹_›]; rfl) | (rw [runFJ_yes ‹_› (And.left (And.right ‹_ ∧ runToJ _ _ _ = _ ∧ _›)) (by omega)]; done) | (rw [runFJ_yes ‹_› (And.left (And.right ‹_ ∧ runToJ _ _ _ = _ ∧ _›)) (by omega)]; rfl)
theorem z_c_impl_RunScan_42 (x : ScanJob) (nx_Tiles : Nat) (hbdx_Tiles : (nx_Tiles : Int) ≤ 9223372036854775807) (hlex_Tiles : nx_Tiles = x.Tiles.length) (S : List ScanStep) (nS : Nat) (hbdS : (nS : Int) ≤ 9223372036854775807) (hleS : nS = S.length) (h29 : (¬ (JobOK x)) ∨ (40 < (nS : Int))) : false = (runFJ x S).2.2 := by
  subst hleS
  first | (rw [runFJ_no ‹_›]; done) | (rw [runFJ_no ‹_›]; rfl) | (rw [runFJ_yes ‹_› (And.left (And.right ‹_ ∧ runToJ _ _ _ = _ ∧ _›)) (by omega)]; done) | (rw [runFJ_yes ‹_› (And.left (And.right ‹_ ∧ runToJ _ _ _ = _ ∧ _›)) (by omega)]; rfl)
theorem z_c_impl_RunScan_72 (x : ScanJob) (nx_Tiles : Nat) (hbdx_Tiles : (nx_Tiles : Int) ≤ 9223372036854775807) (hlex_Tiles : nx_Tiles = x.Tiles.length) (S : List ScanStep) (nS : Nat) (hbdS : (nS : Int) ≤ 9223372036854775807) (hleS : nS = S.length) (h29 : ¬ ((¬ (JobOK x)) ∨ (40 < (nS : Int)))) (hq43 : JobOK x) (hq44 : ¬ (40 < (nS : Int))) (hq45 : x.Tiles.length ≤ 8 ∧ takenN x.Tiles ≤ x.Tiles.length ∧ (0 ≤ sumI x.Tiles ∧ sumI x.Tiles ≤ 800) ∧ (1 ≤ (x.Tiles.length : Int) ∧ x.Next = (takenN x.Tiles : Int) ∧ x.Size = 10 * sumI x.Tiles ∧ (0 ≤ x.State ∧ x.State ≤ 3) ∧ (0 ≤ x.Fails ∧ x.Fails ≤ 3) ∧ (x.Fails = 3 → x.State = 2) ∧ (x.State = 0 → takenN x.Tiles = 0 ∧ x.Fails = 0) ∧ (x.State = 3 → takenN x.Tiles = x.Tiles.length))) (n49 : Nat) (hl54 : n49 = (x.Tiles).length) (hl55 : (n49 : Int) ≤ 9223372036854775807) : 0 ≤ nS ∧ runToJ x S 0 = (x, (0 : Int)) ∧ JobOK x ∧ 0 ≤ (0 : Int) ∧ (0 : Int) ≤ (0 : Int) := by
  exact ⟨Nat.zero_le _, rfl, ‹JobOK x›, by omega, by omega⟩
theorem z_c_impl_RunScan_142 (x : ScanJob) (nx_Tiles : Nat) (hbdx_Tiles : (nx_Tiles : Int) ≤ 9223372036854775807) (hlex_Tiles : nx_Tiles = x.Tiles.length) (S : List ScanStep) (nS : Nat) (hbdS : (nS : Int) ≤ 9223372036854775807) (hleS : nS = S.length) (h29 : ¬ ((¬ (JobOK x)) ∨ (40 < (nS : Int)))) (hq43 : JobOK x) (hq44 : ¬ (40 < (nS : Int))) (hq45 : x.Tiles.length ≤ 8 ∧ takenN x.Tiles ≤ x.Tiles.length ∧ (0 ≤ sumI x.Tiles ∧ sumI x.Tiles ≤ 800) ∧ (1 ≤ (x.Tiles.length : Int) ∧ x.Next = (takenN x.Tiles : Int) ∧ x.Size = 10 * sumI x.Tiles ∧ (0 ≤ x.State ∧ x.State ≤ 3) ∧ (0 ≤ x.Fails ∧ x.Fails ≤ 3) ∧ (x.Fails = 3 → x.State = 2) ∧ (x.State = 0 → takenN x.Tiles = 0 ∧ x.Fails = 0) ∧ (x.State = 3 → takenN x.Tiles = x.Tiles.length))) (n49 : Nat) (hl54 : n49 = (x.Tiles).length) (hl55 : (n49 : Int) ≤ 9223372036854775807) (k : Nat) (o : ScanJob) (m : Int) (n71 : Nat) (c71 : Nat) (hi81 : k ≤ nS ∧ runToJ x S k = (o, m) ∧ JobOK o ∧ 0 ≤ m ∧ m ≤ (k : Int)) (hl86 : n71 = (o.Tiles).length) (hq88 : JobOK o) (hq89 : o.Tiles.length ≤ 8) (hq90 : 0 ≤ m ∧ m ≤ (k : Int)) (h91 : (k : Int) < (nS : Int)) (hx93 : S[k]? = some (gt S k)) (n112 : Nat) (hl117 : n112 = (((impl_ScanJob_stepped o (gt S k)).1).Tiles).length) (hl118 : (n112 : Int) ≤ 9223372036854775807) (h135 : ((impl_ScanJob_stepped o (gt S k)).2) = true) : k + 1 ≤ nS ∧ runToJ x S (k + 1) = (((impl_ScanJob_stepped o (gt S k)).1), m + 1) ∧ JobOK ((impl_ScanJob_stepped o (gt S k)).1) ∧ 0 ≤ m + 1 ∧ m + 1 ≤ (k + 1 : Int) := by
  have hh := ‹_ ∧ runToJ _ _ _ = _ ∧ _›
  first | exact ⟨by omega, (runJ_yes hh.2.1 ‹S[k]? = some _› ‹_›).1, (runJ_yes hh.2.1 ‹S[k]? = some _› ‹_›).2, by omega, by omega⟩ | exact ⟨by omega, runJ_no hh.2.1 ‹S[k]? = some _› ‹_›, hh.2.2.1, by omega, by omega⟩
theorem z_c_impl_RunScan_143 (x : ScanJob) (nx_Tiles : Nat) (hbdx_Tiles : (nx_Tiles : Int) ≤ 9223372036854775807) (hlex_Tiles : nx_Tiles = x.Tiles.length) (S : List ScanStep) (nS : Nat) (hbdS : (nS : Int) ≤ 9223372036854775807) (hleS : nS = S.length) (h29 : ¬ ((¬ (JobOK x)) ∨ (40 < (nS : Int)))) (hq43 : JobOK x) (hq44 : ¬ (40 < (nS : Int))) (hq45 : x.Tiles.length ≤ 8 ∧ takenN x.Tiles ≤ x.Tiles.length ∧ (0 ≤ sumI x.Tiles ∧ sumI x.Tiles ≤ 800) ∧ (1 ≤ (x.Tiles.length : Int) ∧ x.Next = (takenN x.Tiles : Int) ∧ x.Size = 10 * sumI x.Tiles ∧ (0 ≤ x.State ∧ x.State ≤ 3) ∧ (0 ≤ x.Fails ∧ x.Fails ≤ 3) ∧ (x.Fails = 3 → x.State = 2) ∧ (x.State = 0 → takenN x.Tiles = 0 ∧ x.Fails = 0) ∧ (x.State = 3 → takenN x.Tiles = x.Tiles.length))) (n49 : Nat) (hl54 : n49 = (x.Tiles).length) (hl55 : (n49 : Int) ≤ 9223372036854775807) (k : Nat) (o : ScanJob) (m : Int) (n71 : Nat) (c71 : Nat) (hi81 : k ≤ nS ∧ runToJ x S k = (o, m) ∧ JobOK o ∧ 0 ≤ m ∧ m ≤ (k : Int)) (hl86 : n71 = (o.Tiles).length) (hq88 : JobOK o) (hq89 : o.Tiles.length ≤ 8) (hq90 : 0 ≤ m ∧ m ≤ (k : Int)) (h91 : (k : Int) < (nS : Int)) (hx93 : S[k]? = some (gt S k)) (n112 : Nat) (hl117 : n112 = (((impl_ScanJob_stepped o (gt S k)).1).Tiles).length) (hl118 : (n112 : Int) ≤ 9223372036854775807) (h135 : ((impl_ScanJob_stepped o (gt S k)).2) = true) : nS - (k + 1) < nS - k := by
  omega
theorem z_c_impl_RunScan_144 (x : ScanJob) (nx_Tiles : Nat) (hbdx_Tiles : (nx_Tiles : Int) ≤ 9223372036854775807) (hlex_Tiles : nx_Tiles = x.Tiles.length) (S : List ScanStep) (nS : Nat) (hbdS : (nS : Int) ≤ 9223372036854775807) (hleS : nS = S.length) (h29 : ¬ ((¬ (JobOK x)) ∨ (40 < (nS : Int)))) (hq43 : JobOK x) (hq44 : ¬ (40 < (nS : Int))) (hq45 : x.Tiles.length ≤ 8 ∧ takenN x.Tiles ≤ x.Tiles.length ∧ (0 ≤ sumI x.Tiles ∧ sumI x.Tiles ≤ 800) ∧ (1 ≤ (x.Tiles.length : Int) ∧ x.Next = (takenN x.Tiles : Int) ∧ x.Size = 10 * sumI x.Tiles ∧ (0 ≤ x.State ∧ x.State ≤ 3) ∧ (0 ≤ x.Fails ∧ x.Fails ≤ 3) ∧ (x.Fails = 3 → x.State = 2) ∧ (x.State = 0 → takenN x.Tiles = 0 ∧ x.Fails = 0) ∧ (x.State = 3 → takenN x.Tiles = x.Tiles.length))) (n49 : Nat) (hl54 : n49 = (x.Tiles).length) (hl55 : (n49 : Int) ≤ 9223372036854775807) (k : Nat) (o : ScanJob) (m : Int) (n71 : Nat) (c71 : Nat) (hi81 : k ≤ nS ∧ runToJ x S k = (o, m) ∧ JobOK o ∧ 0 ≤ m ∧ m ≤ (k : Int)) (hl86 : n71 = (o.Tiles).length) (hq88 : JobOK o) (hq89 : o.Tiles.length ≤ 8) (hq90 : 0 ≤ m ∧ m ≤ (k : Int)) (h91 : (k : Int) < (nS : Int)) (hx93 : S[k]? = some (gt S k)) (n112 : Nat) (hl117 : n112 = (((impl_ScanJob_stepped o (gt S k)).1).Tiles).length) (hl118 : (n112 : Int) ≤ 9223372036854775807) (h135 : ((impl_ScanJob_stepped o (gt S k)).2) = false) : k + 1 ≤ nS ∧ runToJ x S (k + 1) = (o, m) ∧ JobOK o ∧ 0 ≤ m ∧ m ≤ (k + 1 : Int) := by
  have hh := ‹_ ∧ runToJ _ _ _ = _ ∧ _›
  first | exact ⟨by omega, (runJ_yes hh.2.1 ‹S[k]? = some _› ‹_›).1, (runJ_yes hh.2.1 ‹S[k]? = some _› ‹_›).2, by omega, by omega⟩ | exact ⟨by omega, runJ_no hh.2.1 ‹S[k]? = some _› ‹_›, hh.2.2.1, by omega, by omega⟩
theorem z_c_impl_RunScan_145 (x : ScanJob) (nx_Tiles : Nat) (hbdx_Tiles : (nx_Tiles : Int) ≤ 9223372036854775807) (hlex_Tiles : nx_Tiles = x.Tiles.length) (S : List ScanStep) (nS : Nat) (hbdS : (nS : Int) ≤ 9223372036854775807) (hleS : nS = S.length) (h29 : ¬ ((¬ (JobOK x)) ∨ (40 < (nS : Int)))) (hq43 : JobOK x) (hq44 : ¬ (40 < (nS : Int))) (hq45 : x.Tiles.length ≤ 8 ∧ takenN x.Tiles ≤ x.Tiles.length ∧ (0 ≤ sumI x.Tiles ∧ sumI x.Tiles ≤ 800) ∧ (1 ≤ (x.Tiles.length : Int) ∧ x.Next = (takenN x.Tiles : Int) ∧ x.Size = 10 * sumI x.Tiles ∧ (0 ≤ x.State ∧ x.State ≤ 3) ∧ (0 ≤ x.Fails ∧ x.Fails ≤ 3) ∧ (x.Fails = 3 → x.State = 2) ∧ (x.State = 0 → takenN x.Tiles = 0 ∧ x.Fails = 0) ∧ (x.State = 3 → takenN x.Tiles = x.Tiles.length))) (n49 : Nat) (hl54 : n49 = (x.Tiles).length) (hl55 : (n49 : Int) ≤ 9223372036854775807) (k : Nat) (o : ScanJob) (m : Int) (n71 : Nat) (c71 : Nat) (hi81 : k ≤ nS ∧ runToJ x S k = (o, m) ∧ JobOK o ∧ 0 ≤ m ∧ m ≤ (k : Int)) (hl86 : n71 = (o.Tiles).length) (hq88 : JobOK o) (hq89 : o.Tiles.length ≤ 8) (hq90 : 0 ≤ m ∧ m ≤ (k : Int)) (h91 : (k : Int) < (nS : Int)) (hx93 : S[k]? = some (gt S k)) (n112 : Nat) (hl117 : n112 = (((impl_ScanJob_stepped o (gt S k)).1).Tiles).length) (hl118 : (n112 : Int) ≤ 9223372036854775807) (h135 : ((impl_ScanJob_stepped o (gt S k)).2) = false) : nS - (k + 1) < nS - k := by
  omega
theorem z_c_impl_RunScan_152 (x : ScanJob) (nx_Tiles : Nat) (hbdx_Tiles : (nx_Tiles : Int) ≤ 9223372036854775807) (hlex_Tiles : nx_Tiles = x.Tiles.length) (S : List ScanStep) (nS : Nat) (hbdS : (nS : Int) ≤ 9223372036854775807) (hleS : nS = S.length) (h29 : ¬ ((¬ (JobOK x)) ∨ (40 < (nS : Int)))) (hq43 : JobOK x) (hq44 : ¬ (40 < (nS : Int))) (hq45 : x.Tiles.length ≤ 8 ∧ takenN x.Tiles ≤ x.Tiles.length ∧ (0 ≤ sumI x.Tiles ∧ sumI x.Tiles ≤ 800) ∧ (1 ≤ (x.Tiles.length : Int) ∧ x.Next = (takenN x.Tiles : Int) ∧ x.Size = 10 * sumI x.Tiles ∧ (0 ≤ x.State ∧ x.State ≤ 3) ∧ (0 ≤ x.Fails ∧ x.Fails ≤ 3) ∧ (x.Fails = 3 → x.State = 2) ∧ (x.State = 0 → takenN x.Tiles = 0 ∧ x.Fails = 0) ∧ (x.State = 3 → takenN x.Tiles = x.Tiles.length))) (n49 : Nat) (hl54 : n49 = (x.Tiles).length) (hl55 : (n49 : Int) ≤ 9223372036854775807) (k : Nat) (o : ScanJob) (m : Int) (n71 : Nat) (c71 : Nat) (hi81 : k ≤ nS ∧ runToJ x S k = (o, m) ∧ JobOK o ∧ 0 ≤ m ∧ m ≤ (k : Int)) (hl86 : n71 = (o.Tiles).length) (hq88 : JobOK o) (hq89 : o.Tiles.length ≤ 8) (hq90 : 0 ≤ m ∧ m ≤ (k : Int)) (h91 : ¬ ((k : Int) < (nS : Int))) : o.Tiles = ((runFJ x S).1).Tiles := by
  subst hleS
  first | (rw [runFJ_no ‹_›]; done) | (rw [runFJ_no ‹_›]; rfl) | (rw [runFJ_yes ‹_› (And.left (And.right ‹_ ∧ runToJ _ _ _ = _ ∧ _›)) (by omega)]; done) | (rw [runFJ_yes ‹_› (And.left (And.right ‹_ ∧ runToJ _ _ _ = _ ∧ _›)) (by omega)]; rfl)
theorem z_c_impl_RunScan_153 (x : ScanJob) (nx_Tiles : Nat) (hbdx_Tiles : (nx_Tiles : Int) ≤ 9223372036854775807) (hlex_Tiles : nx_Tiles = x.Tiles.length) (S : List ScanStep) (nS : Nat) (hbdS : (nS : Int) ≤ 9223372036854775807) (hleS : nS = S.length) (h29 : ¬ ((¬ (JobOK x)) ∨ (40 < (nS : Int)))) (hq43 : JobOK x) (hq44 : ¬ (40 < (nS : Int))) (hq45 : x.Tiles.length ≤ 8 ∧ takenN x.Tiles ≤ x.Tiles.length ∧ (0 ≤ sumI x.Tiles ∧ sumI x.Tiles ≤ 800) ∧ (1 ≤ (x.Tiles.length : Int) ∧ x.Next = (takenN x.Tiles : Int) ∧ x.Size = 10 * sumI x.Tiles ∧ (0 ≤ x.State ∧ x.State ≤ 3) ∧ (0 ≤ x.Fails ∧ x.Fails ≤ 3) ∧ (x.Fails = 3 → x.State = 2) ∧ (x.State = 0 → takenN x.Tiles = 0 ∧ x.Fails = 0) ∧ (x.State = 3 → takenN x.Tiles = x.Tiles.length))) (n49 : Nat) (hl54 : n49 = (x.Tiles).length) (hl55 : (n49 : Int) ≤ 9223372036854775807) (k : Nat) (o : ScanJob) (m : Int) (n71 : Nat) (c71 : Nat) (hi81 : k ≤ nS ∧ runToJ x S k = (o, m) ∧ JobOK o ∧ 0 ≤ m ∧ m ≤ (k : Int)) (hl86 : n71 = (o.Tiles).length) (hq88 : JobOK o) (hq89 : o.Tiles.length ≤ 8) (hq90 : 0 ≤ m ∧ m ≤ (k : Int)) (h91 : ¬ ((k : Int) < (nS : Int))) : o.State = ((runFJ x S).1).State := by
  subst hleS
  first | (rw [runFJ_no ‹_›]; done) | (rw [runFJ_no ‹_›]; rfl) | (rw [runFJ_yes ‹_› (And.left (And.right ‹_ ∧ runToJ _ _ _ = _ ∧ _›)) (by omega)]; done) | (rw [runFJ_yes ‹_› (And.left (And.right ‹_ ∧ runToJ _ _ _ = _ ∧ _›)) (by omega)]; rfl)
theorem z_c_impl_RunScan_154 (x : ScanJob) (nx_Tiles : Nat) (hbdx_Tiles : (nx_Tiles : Int) ≤ 9223372036854775807) (hlex_Tiles : nx_Tiles = x.Tiles.length) (S : List ScanStep) (nS : Nat) (hbdS : (nS : Int) ≤ 9223372036854775807) (hleS : nS = S.length) (h29 : ¬ ((¬ (JobOK x)) ∨ (40 < (nS : Int)))) (hq43 : JobOK x) (hq44 : ¬ (40 < (nS : Int))) (hq45 : x.Tiles.length ≤ 8 ∧ takenN x.Tiles ≤ x.Tiles.length ∧ (0 ≤ sumI x.Tiles ∧ sumI x.Tiles ≤ 800) ∧ (1 ≤ (x.Tiles.length : Int) ∧ x.Next = (takenN x.Tiles : Int) ∧ x.Size = 10 * sumI x.Tiles ∧ (0 ≤ x.State ∧ x.State ≤ 3) ∧ (0 ≤ x.Fails ∧ x.Fails ≤ 3) ∧ (x.Fails = 3 → x.State = 2) ∧ (x.State = 0 → takenN x.Tiles = 0 ∧ x.Fails = 0) ∧ (x.State = 3 → takenN x.Tiles = x.Tiles.length))) (n49 : Nat) (hl54 : n49 = (x.Tiles).length) (hl55 : (n49 : Int) ≤ 9223372036854775807) (k : Nat) (o : ScanJob) (m : Int) (n71 : Nat) (c71 : Nat) (hi81 : k ≤ nS ∧ runToJ x S k = (o, m) ∧ JobOK o ∧ 0 ≤ m ∧ m ≤ (k : Int)) (hl86 : n71 = (o.Tiles).length) (hq88 : JobOK o) (hq89 : o.Tiles.length ≤ 8) (hq90 : 0 ≤ m ∧ m ≤ (k : Int)) (h91 : ¬ ((k : Int) < (nS : Int))) : o.Next = ((runFJ x S).1).Next := by
  subst hleS
  first | (rw [runFJ_no ‹_›]; done) | (rw [runFJ_no ‹_›]; rfl) | (rw [runFJ_yes ‹_› (And.left (And.right ‹_ ∧ runToJ _ _ _ = _ ∧ _›)) (by omega)]; done) | (rw [runFJ_yes ‹_› (And.left (And.right ‹_ ∧ runToJ _ _ _ = _ ∧ _›)) (by omega)]; rfl)
theorem z_c_impl_RunScan_155 (x : ScanJob) (nx_Tiles : Nat) (hbdx_Tiles : (nx_Tiles : Int) ≤ 9223372036854775807) (hlex_Tiles : nx_Tiles = x.Tiles.length) (S : List ScanStep) (nS : Nat) (hbdS : (nS : Int) ≤ 9223372036854775807) (hleS : nS = S.length) (h29 : ¬ ((¬ (JobOK x)) ∨ (40 < (nS : Int)))) (hq43 : JobOK x) (hq44 : ¬ (40 < (nS : Int))) (hq45 : x.Tiles.length ≤ 8 ∧ takenN x.Tiles ≤ x.Tiles.length ∧ (0 ≤ sumI x.Tiles ∧ sumI x.Tiles ≤ 800) ∧ (1 ≤ (x.Tiles.length : Int) ∧ x.Next = (takenN x.Tiles : Int) ∧ x.Size = 10 * sumI x.Tiles ∧ (0 ≤ x.State ∧ x.State ≤ 3) ∧ (0 ≤ x.Fails ∧ x.Fails ≤ 3) ∧ (x.Fails = 3 → x.State = 2) ∧ (x.State = 0 → takenN x.Tiles = 0 ∧ x.Fails = 0) ∧ (x.State = 3 → takenN x.Tiles = x.Tiles.length))) (n49 : Nat) (hl54 : n49 = (x.Tiles).length) (hl55 : (n49 : Int) ≤ 9223372036854775807) (k : Nat) (o : ScanJob) (m : Int) (n71 : Nat) (c71 : Nat) (hi81 : k ≤ nS ∧ runToJ x S k = (o, m) ∧ JobOK o ∧ 0 ≤ m ∧ m ≤ (k : Int)) (hl86 : n71 = (o.Tiles).length) (hq88 : JobOK o) (hq89 : o.Tiles.length ≤ 8) (hq90 : 0 ≤ m ∧ m ≤ (k : Int)) (h91 : ¬ ((k : Int) < (nS : Int))) : o.Fails = ((runFJ x S).1).Fails := by
  subst hleS
  first | (rw [runFJ_no ‹_›]; done) | (rw [runFJ_no ‹_›]; rfl) | (rw [runFJ_yes ‹_› (And.left (And.right ‹_ ∧ runToJ _ _ _ = _ ∧ _›)) (by omega)]; done) | (rw [runFJ_yes ‹_› (And.left (And.right ‹_ ∧ runToJ _ _ _ = _ ∧ _›)) (by omega)]; rfl)
theorem z_c_impl_RunScan_156 (x : ScanJob) (nx_Tiles : Nat) (hbdx_Tiles : (nx_Tiles : Int) ≤ 9223372036854775807) (hlex_Tiles : nx_Tiles = x.Tiles.length) (S : List ScanStep) (nS : Nat) (hbdS : (nS : Int) ≤ 9223372036854775807) (hleS : nS = S.length) (h29 : ¬ ((¬ (JobOK x)) ∨ (40 < (nS : Int)))) (hq43 : JobOK x) (hq44 : ¬ (40 < (nS : Int))) (hq45 : x.Tiles.length ≤ 8 ∧ takenN x.Tiles ≤ x.Tiles.length ∧ (0 ≤ sumI x.Tiles ∧ sumI x.Tiles ≤ 800) ∧ (1 ≤ (x.Tiles.length : Int) ∧ x.Next = (takenN x.Tiles : Int) ∧ x.Size = 10 * sumI x.Tiles ∧ (0 ≤ x.State ∧ x.State ≤ 3) ∧ (0 ≤ x.Fails ∧ x.Fails ≤ 3) ∧ (x.Fails = 3 → x.State = 2) ∧ (x.State = 0 → takenN x.Tiles = 0 ∧ x.Fails = 0) ∧ (x.State = 3 → takenN x.Tiles = x.Tiles.length))) (n49 : Nat) (hl54 : n49 = (x.Tiles).length) (hl55 : (n49 : Int) ≤ 9223372036854775807) (k : Nat) (o : ScanJob) (m : Int) (n71 : Nat) (c71 : Nat) (hi81 : k ≤ nS ∧ runToJ x S k = (o, m) ∧ JobOK o ∧ 0 ≤ m ∧ m ≤ (k : Int)) (hl86 : n71 = (o.Tiles).length) (hq88 : JobOK o) (hq89 : o.Tiles.length ≤ 8) (hq90 : 0 ≤ m ∧ m ≤ (k : Int)) (h91 : ¬ ((k : Int) < (nS : Int))) : o.Size = ((runFJ x S).1).Size := by
  subst hleS
  first | (rw [runFJ_no ‹_›]; done) | (rw [runFJ_no ‹_›]; rfl) | (rw [runFJ_yes ‹_› (And.left (And.right ‹_ ∧ runToJ _ _ _ = _ ∧ _›)) (by omega)]; done) | (rw [runFJ_yes ‹_› (And.left (And.right ‹_ ∧ runToJ _ _ _ = _ ∧ _›)) (by omega)]; rfl)
theorem z_c_impl_RunScan_157 (x : ScanJob) (nx_Tiles : Nat) (hbdx_Tiles : (nx_Tiles : Int) ≤ 9223372036854775807) (hlex_Tiles : nx_Tiles = x.Tiles.length) (S : List ScanStep) (nS : Nat) (hbdS : (nS : Int) ≤ 9223372036854775807) (hleS : nS = S.length) (h29 : ¬ ((¬ (JobOK x)) ∨ (40 < (nS : Int)))) (hq43 : JobOK x) (hq44 : ¬ (40 < (nS : Int))) (hq45 : x.Tiles.length ≤ 8 ∧ takenN x.Tiles ≤ x.Tiles.length ∧ (0 ≤ sumI x.Tiles ∧ sumI x.Tiles ≤ 800) ∧ (1 ≤ (x.Tiles.length : Int) ∧ x.Next = (takenN x.Tiles : Int) ∧ x.Size = 10 * sumI x.Tiles ∧ (0 ≤ x.State ∧ x.State ≤ 3) ∧ (0 ≤ x.Fails ∧ x.Fails ≤ 3) ∧ (x.Fails = 3 → x.State = 2) ∧ (x.State = 0 → takenN x.Tiles = 0 ∧ x.Fails = 0) ∧ (x.State = 3 → takenN x.Tiles = x.Tiles.length))) (n49 : Nat) (hl54 : n49 = (x.Tiles).length) (hl55 : (n49 : Int) ≤ 9223372036854775807) (k : Nat) (o : ScanJob) (m : Int) (n71 : Nat) (c71 : Nat) (hi81 : k ≤ nS ∧ runToJ x S k = (o, m) ∧ JobOK o ∧ 0 ≤ m ∧ m ≤ (k : Int)) (hl86 : n71 = (o.Tiles).length) (hq88 : JobOK o) (hq89 : o.Tiles.length ≤ 8) (hq90 : 0 ≤ m ∧ m ≤ (k : Int)) (h91 : ¬ ((k : Int) < (nS : Int))) : m = (runFJ x S).2.1 := by
  subst hleS
  first | (rw [runFJ_no ‹_›]; done) | (rw [runFJ_no ‹_›]; rfl) | (rw [runFJ_yes ‹_› (And.left (And.right ‹_ ∧ runToJ _ _ _ = _ ∧ _›)) (by omega)]; done) | (rw [runFJ_yes ‹_› (And.left (And.right ‹_ ∧ runToJ _ _ _ = _ ∧ _›)) (by omega)]; rfl)
theorem z_c_impl_RunScan_158 (x : ScanJob) (nx_Tiles : Nat) (hbdx_Tiles : (nx_Tiles : Int) ≤ 9223372036854775807) (hlex_Tiles : nx_Tiles = x.Tiles.length) (S : List ScanStep) (nS : Nat) (hbdS : (nS : Int) ≤ 9223372036854775807) (hleS : nS = S.length) (h29 : ¬ ((¬ (JobOK x)) ∨ (40 < (nS : Int)))) (hq43 : JobOK x) (hq44 : ¬ (40 < (nS : Int))) (hq45 : x.Tiles.length ≤ 8 ∧ takenN x.Tiles ≤ x.Tiles.length ∧ (0 ≤ sumI x.Tiles ∧ sumI x.Tiles ≤ 800) ∧ (1 ≤ (x.Tiles.length : Int) ∧ x.Next = (takenN x.Tiles : Int) ∧ x.Size = 10 * sumI x.Tiles ∧ (0 ≤ x.State ∧ x.State ≤ 3) ∧ (0 ≤ x.Fails ∧ x.Fails ≤ 3) ∧ (x.Fails = 3 → x.State = 2) ∧ (x.State = 0 → takenN x.Tiles = 0 ∧ x.Fails = 0) ∧ (x.State = 3 → takenN x.Tiles = x.Tiles.length))) (n49 : Nat) (hl54 : n49 = (x.Tiles).length) (hl55 : (n49 : Int) ≤ 9223372036854775807) (k : Nat) (o : ScanJob) (m : Int) (n71 : Nat) (c71 : Nat) (hi81 : k ≤ nS ∧ runToJ x S k = (o, m) ∧ JobOK o ∧ 0 ≤ m ∧ m ≤ (k : Int)) (hl86 : n71 = (o.Tiles).length) (hq88 : JobOK o) (hq89 : o.Tiles.length ≤ 8) (hq90 : 0 ≤ m ∧ m ≤ (k : Int)) (h91 : ¬ ((k : Int) < (nS : Int))) : true = (runFJ x S).2.2 := by
  subst hleS
  first | (rw [runFJ_no ‹_›]; done) | (rw [runFJ_no ‹_›]; rfl) | (rw [runFJ_yes ‹_› (And.left (And.right ‹_ ∧ runToJ _ _ _ = _ ∧ _›)) (by omega)]; done) | (rw [runFJ_yes ‹_› (And.left (And.right ‹_ ∧ runToJ _ _ _ = _ ∧ _›)) (by omega)]; rfl)
theorem c_impl_RunScan (w : World) (x : ScanJob) {Ax_Tiles : Option Addr} {nx_Tiles cx_Tiles Bx_Tiles : Nat} (hx_Tiles : SlR w Bx_Tiles encI 1 Ax_Tiles nx_Tiles cx_Tiles x.Tiles) {AS : Option Addr} {nS cS BS : Nat}  (S : List ScanStep) (hS : SlR w BS encScanStep 2 AS nS cS S) : Calls Tryd.prog 32 #[.agg (List.toArray [.int .i64 x.State, .slice Ax_Tiles nx_Tiles cx_Tiles, .int .i64 x.Next, .int .i64 x.Fails, .int .i64 x.Size]), .slice AS nS cS] w fun e w' => ∃ (A1' : Option Addr) (n1' c1' : Nat), e = .returned (.tuple (List.toArray [.agg (List.toArray [.int .i64 (((runFJ x S).1).State), .slice A1' n1' c1', .int .i64 (((runFJ x S).1).Next), .int .i64 (((runFJ x S).1).Fails), .int .i64 (((runFJ x S).1).Size)]), .int .i64 ((runFJ x S).2.1), .bool ((runFJ x S).2.2)])) ∧ SlO w' w.heap.size encI 1 3 A1' n1' c1' (((runFJ x S).1).Tiles) ∧ Lo w w' := by
  refine calls_W 43 Tryd.func32 rfl rfl rfl ?_
  have hbdx_Tiles := hx_Tiles.bound
  have hlex_Tiles := hx_Tiles.len
  have hBbx_Tiles := hx_Tiles.bd
  have hbdS := hS.bound
  have hleS := hS.len
  have hBbS := hS.bd
  refine W.seq ?_
  refine W.regS (SR.box (v := .agg (List.toArray _)) (l := [.int .i64 x.State, .slice Ax_Tiles nx_Tiles cx_Tiles, .int .i64 x.Next, .int .i64 x.Fails, .int .i64 x.Size]) rfl rfl ?_)
  intro g1 w2 hg3 hk4 hs5 hb6
  have hz7 := hk4.size
  have hB8 := (Lo.refl w).lo hk4
  refine SR.alloc (l := [.int .i64 0, .slice none 0 0, .int .i64 0, .int .i64 0, .int .i64 0]) tz57 rfl ?_
  intro g9 w10 hg11 hk12 hs13 hb14
  have hz15 := hk12.size
  have hB16 := hB8.lo hk12
  refine SR.q' (r_as (v := .int .i64 0) rfl) <| SR.q' (r_as (v := .bool false) rfl) <| SR.nil ?_
  refine W.seq ?_
  refine W.seq ?_
  refine W.regJS (fun f' w' => At f' [(1, .slice AS nS cS), (2, .pointer (some ((⟨g1, 0, none⟩ : Addr)))), (4, .pointer (some ((⟨g9, 0, none⟩ : Addr)))), (5, .int .i64 0), (6, .bool false), (20, .bool (decide ((¬ (JobOK x)) ∨ (40 < (nS : Int)))))] ∧ Lo w10 w') ?_ ?_
  · refine SR.q' (r_lda (l := [.int .i64 x.State, .slice Ax_Tiles nx_Tiles cx_Tiles, .int .i64 x.Next, .int .i64 x.Fails, .int .i64 x.Size]) agg57 rfl (fun _ _ hu => ((hb6).lo hk12).cell hu) rfl) <| SR.call ent39 (c_impl_IsScanJob w10 x ((((hx_Tiles).lo hk4).lo hk12))) rfl ?_
    rintro e w17 ⟨rfl, hk18⟩
    refine ⟨_, rfl, ?_⟩
    have hz19 := hk18.size
    have hB20 := hB16.lo hk18
    refine SR.q' (r_not rfl) <| SR.q' (r_mv (v := .bool _) rfl) <| SR.splitN (fun h21 => ?_) (fun h21 => ?_)
    · refine SR.s' rfl <| SR.s' rfl <| SR.s' rfl <| SR.q' (r_pick true rfl (v := .bool true) rfl) <| SR.nil ?_
      exact ⟨_, rfl, ⟨⟨rfl, rfl, rfl, rfl, rfl, (eDT ((jmf h21).1 trivial)), trivial⟩, (hk18)⟩⟩
    · have hq22 := job_rng h21
      refine SR.g' rfl (r_mv (v := .slice _ _ _) rfl) <| SR.g' rfl (r_len und61 rfl) <| SR.g' rfl (r_gt rfl rfl) <| SR.q' (r_pick false rfl (v := .bool _) rfl) <| SR.nil ?_
      exact ⟨_, rfl, ⟨⟨rfl, rfl, rfl, rfl, rfl, (eDD (jmt h21)), trivial⟩, (hk18)⟩⟩
  rintro f23 w24 ⟨hat25, hk26⟩
  rw [← sets_of_at hat25]
  have hz27 := hk26.size
  have hB28 := hB16.lo hk26
  refine W.cond_d rfl (fun h29 => ?_) (fun h29 => ?_)
  · refine W.seq ?_
    refine W.regS (SR.q' (r_build (vs := []) rfl (bld57_)) <| SR.store (o := 0) (vs := [.int .i64 0, .slice none 0 0, .int .i64 0, .int .i64 0, .int .i64 0]) agg57.2 rfl rfl rfl rfl ((hb14).lo hk26) (Nat.le_of_ble_eq_true rfl) rfl ?_)
    intro w30 hk31 hs32 hb33
    have hz34 := hk31.size
    have hB35 := hB28.new hk31 (by omega)
    refine SR.q' (r_as (v := .int .i64 0) rfl) <| SR.q' (r_as (v := .bool false) rfl) <| SR.nil ?_
    refine W.ret ?_
    refine retCTT rfl rfl agg57 (hb33) rfl (v := .int .i64 _) rfl (v' := .bool _) rfl ?_
    exact ⟨none, 0, 0, eR (eT3 (eA (eC (eI (z_c_impl_RunScan_37 x nx_Tiles hbdx_Tiles hlex_Tiles S nS hbdS hleS h29)) (eC rfl (eC (eI (z_c_impl_RunScan_38 x nx_Tiles hbdx_Tiles hlex_Tiles S nS hbdS hleS h29)) (eC (eI (z_c_impl_RunScan_39 x nx_Tiles hbdx_Tiles hlex_Tiles S nS hbdS hleS h29)) (eC (eI (z_c_impl_RunScan_40 x nx_Tiles hbdx_Tiles hlex_Tiles S nS hbdS hleS h29)) rfl)))))) (eI (z_c_impl_RunScan_41 x nx_Tiles hbdx_Tiles hlex_Tiles S nS hbdS hleS h29)) (eB (z_c_impl_RunScan_42 x nx_Tiles hbdx_Tiles hlex_Tiles S nS hbdS hleS h29))), (SlO.eqv (SlO.nil (e := 3) (enc := encI) (fun _ => rfl) (by omega)) (z_c_impl_RunScan_36 x nx_Tiles hbdx_Tiles hlex_Tiles S nS hbdS hleS h29)), hB35⟩
  · have hq43 : JobOK x := (Classical.not_not.1 (not_or.1 h29).1)
    have hq44 : ¬ (40 < (nS : Int)) := (not_or.1 h29).2
    have hq45 := job_rng hq43
    refine W.skip ?_
    refine W.seq ?_
    refine W.regS (SR.q' (r_lda (l := [.int .i64 x.State, .slice Ax_Tiles nx_Tiles cx_Tiles, .int .i64 x.Next, .int .i64 x.Fails, .int .i64 x.Size]) agg57 rfl (fun _ _ hu => (((hb6).lo hk12).lo hk26).cell hu) rfl) <| SR.call ent70 (c__impl_ScanJob__own w24 x (((((hx_Tiles).lo hk4).lo hk12).lo hk26)) (by omega)) rfl ?_)
    rintro e w46 ⟨A48, n49, c50, rfl, hO51, hk47⟩
    refine ⟨_, rfl, ?_⟩
    have hz52 := hk47.size
    have hB53 := hB28.lo hk47
    have hl54 := hO51.len
    have hl55 := hO51.rd.bound
    refine SR.alloc (l := [.int .i64 0, .slice none 0 0, .int .i64 0, .int .i64 0, .int .i64 0]) tz57 rfl ?_
    intro g56 w57 hg58 hk59 hs60 hb61
    have hz62 := hk59.size
    have hB63 := hB53.lo hk59
    have hd64 : ¬ A48 = some ⟨g56, 0, none⟩ := fun e' => by have := (hO51).base_le e'; omega
    refine SR.store (o := 0) (vs := [.int .i64 x.State, .slice A48 n49 c50, .int .i64 x.Next, .int .i64 x.Fails, .int .i64 x.Size]) agg57.2 rfl rfl rfl rfl (hb61) (Nat.le_of_ble_eq_true rfl) rfl ?_
    intro w65 hk66 hs67 hb68
    have hz69 := hk66.size
    have hB70 := hB63.new hk66 (by omega)
    refine SR.q' (r_as (v := .int .i64 0) rfl) <| SR.nil ?_
    refine W.seq ?_
    refine W.seq ?_
    refine W.regS (SR.q' (r_mv (v := .slice _ _ _) rfl) <| SR.q' (r_len und61 rfl) <| SR.q' (r_mv (v := .int .i64 0) rfl) <| SR.nil ?_)
    refine W.block ?_
    refine W.loop (σ := Nat × ScanJob × Int × (Option Addr) × Nat × Nat) (fun g => [(4, .pointer (some ((⟨g9, 0, none⟩ : Addr)))), (5, .int .i64 0), (6, .bool false), (7, .pointer (some ((⟨g56, 0, none⟩ : Addr)))), (8, .int .i64 g.2.2.1), (24, .slice AS nS cS), (25, .int .i64 (nS : Int)), (26, .int .i64 (g.1 : Int))]) (fun g w' => (Lo w w') ∧ (Blk w' g9 57 [.int .i64 0, .slice none 0 0, .int .i64 0, .int .i64 0, .int .i64 0]) ∧ (Blk w' g56 57 [.int .i64 g.2.1.State, .slice g.2.2.2.1 g.2.2.2.2.1 g.2.2.2.2.2, .int .i64 g.2.1.Next, .int .i64 g.2.1.Fails, .int .i64 g.2.1.Size]) ∧ (SlR w' BS encScanStep 2 AS nS cS S) ∧ (SlO w' w.heap.size encI 1 3 g.2.2.2.1 g.2.2.2.2.1 g.2.2.2.2.2 g.2.1.Tiles) ∧ (¬ g.2.2.2.1 = some ⟨g9, 0, none⟩) ∧ (¬ g.2.2.2.1 = some ⟨g56, 0, none⟩) ∧ (g.1 ≤ nS ∧ runToJ x S g.1 = (g.2.1, g.2.2.1) ∧ JobOK g.2.1 ∧ 0 ≤ g.2.2.1 ∧ g.2.2.1 ≤ (g.1 : Int))) (fun g => nS - g.1) (0, x, (0 : Int), A48, n49, c50) ?_ ?_ ?_
    · exact ⟨rfl, rfl, rfl, rfl, rfl, rfl, rfl, rfl, trivial⟩
    · show (Lo w w65) ∧ (Blk w65 g9 57 [.int .i64 0, .slice none 0 0, .int .i64 0, .int .i64 0, .int .i64 0]) ∧ (Blk w65 g56 57 [.int .i64 x.State, .slice A48 n49 c50, .int .i64 x.Next, .int .i64 x.Fails, .int .i64 x.Size]) ∧ (SlR w65 BS encScanStep 2 AS nS cS S) ∧ (SlO w65 w.heap.size encI 1 3 A48 n49 c50 x.Tiles) ∧ (¬ A48 = some ⟨g9, 0, none⟩) ∧ (¬ A48 = some ⟨g56, 0, none⟩) ∧ (0 ≤ nS ∧ runToJ x S 0 = (x, (0 : Int)) ∧ JobOK x ∧ 0 ≤ (0 : Int) ∧ (0 : Int) ≤ (0 : Int))
      exact ⟨hB70, ((((hb14).lo hk26).lo hk47).lo hk59).kp hk66 (fun e' => by have e'' : g9 = g56 := e'; omega), (hb68), ((((((hS).lo hk4).lo hk12).lo hk26).lo hk47).lo hk59).kp hk66 (fun b_ hb e' => by have e'' : b_ = g56 := e'; omega), ((((hO51).lo hk59).kp hk66 (fun b_ hb e' => hd64 (by have e'' : b_ = g56 := e'; rw [← e'']; exact hb))).down (by omega)), (fun e' => by have := (((hO51).lo hk59).kp hk66 (fun b_ hb e' => hd64 (by have e'' : b_ = g56 := e'; rw [← e'']; exact hb))).base_le e'; omega), hd64, (z_c_impl_RunScan_72 x nx_Tiles hbdx_Tiles hlex_Tiles S nS hbdS hleS h29 hq43 hq44 hq45 n49 hl54 hl55)⟩
    · rintro ⟨k, o, m, A71, n71, c71⟩ f73 w74 hP76
      obtain ⟨hB75, hm77, hm78, hm79, hO80, hd82, hd83, hi81⟩ : (Lo w w74) ∧ (Blk w74 g9 57 [.int .i64 0, .slice none 0 0, .int .i64 0, .int .i64 0, .int .i64 0]) ∧ (Blk w74 g56 57 [.int .i64 o.State, .slice A71 n71 c71, .int .i64 o.Next, .int .i64 o.Fails, .int .i64 o.Size]) ∧ (SlR w74 BS encScanStep 2 AS nS cS S) ∧ (SlO w74 w.heap.size encI 1 3 A71 n71 c71 o.Tiles) ∧ (¬ A71 = some ⟨g9, 0, none⟩) ∧ (¬ A71 = some ⟨g56, 0, none⟩) ∧ (k ≤ nS ∧ runToJ x S k = (o, m) ∧ JobOK o ∧ 0 ≤ m ∧ m ≤ (k : Int)) := hP76
      refine (?_ : W _ _ _ _ _ (act _ (sets f73 [(4, .pointer (some ((⟨g9, 0, none⟩ : Addr)))), (5, .int .i64 0), (6, .bool false), (7, .pointer (some ((⟨g56, 0, none⟩ : Addr)))), (8, .int .i64 m), (24, .slice AS nS cS), (25, .int .i64 (nS : Int)), (26, .int .i64 (k : Int))])) _)
      have hzw74 := hB75.size
      have hl84 := hm77.lt
      have hl85 := hm78.lt
      have hl86 := hO80.len
      have hl87 := hO80.rd.bound
      have hq88 : JobOK o := hi81.2.2.1
      have hq89 : o.Tiles.length ≤ 8 := (job_rng hi81.2.2.1).1
      have hq90 : 0 ≤ m ∧ m ≤ (k : Int) := hi81.2.2.2
      refine W.seq ?_
      refine W.regS (SR.q' (r_lt rfl rfl) <| SR.nil ?_)
      refine W.seq ?_
      refine W.cond_d rfl (fun h91 => ?_) (fun h91 => ?_)
      · refine W.skip ?_
        refine W.seq ?_
        refine W.block ?_
        refine W.seq ?_
        have hx93 := (hm79).elem (i := k) (by omega)
        refine W.regS (SR.q' (r_ixR tsl61 (hm79) rfl rfl (by omega)) <| SR.q' (r_lda (l := encScanStep (gt S k)) agg60 rfl (fun _ _ hu => (hm79).cell hx93 hu) ((hm79).esz _)) <| SR.alloc (l := [.int .i64 0, .int .i64 0]) tz60 rfl ?_)
        intro g94 w95 hg96 hk97 hs98 hb99
        have hz100 := hk97.size
        have hB101 := hB75.lo hk97
        have hd102 : ¬ A71 = some ⟨g94, 0, none⟩ := fun e' => by have := (hO80).base_le e'; omega
        refine SR.store (o := 0) (vs := [.int .i64 ((gt S k).Kind), .int .i64 ((gt S k).Value)]) agg60.2 rfl rfl rfl rfl (hb99) (Nat.le_of_ble_eq_true rfl) rfl ?_
        intro w103 hk104 hs105 hb106
        have hz107 := hk104.size
        have hB108 := hB101.new hk104 (by omega)
        refine SR.nil ?_
        refine W.seq ?_
        refine W.regS (SR.q' (r_lda (l := [.int .i64 o.State, .slice A71 n71 c71, .int .i64 o.Next, .int .i64 o.Fails, .int .i64 o.Size]) agg57 rfl (fun _ _ hu => (((hm78).lo hk97).kp hk104 (fun e' => by have e'' : g56 = g94 := e'; omega)).cell hu) rfl) <| SR.q' (r_lda (l := [.int .i64 ((gt S k).Kind), .int .i64 ((gt S k).Value)]) agg60 rfl (fun _ _ hu => (hb106).cell hu) rfl) <| SR.call ent71 (c__impl_ScanJob__stepped w103 o (((((hO80).lo hk97).kp hk104 (fun b_ hb e' => hd102 (by have e'' : b_ = g94 := e'; rw [← e'']; exact hb))).rd)) (gt S k) (by assumption)) rfl ?_)
        rintro e w109 ⟨A111, n112, c113, rfl, hO114, hk110⟩
        refine ⟨_, rfl, ?_⟩
        have hz115 := hk110.size
        have hB116 := hB108.lo hk110
        have hl117 := hO114.len
        have hl118 := hO114.rd.bound
        refine SR.q' (r_mv (v := .tuple (List.toArray _)) rfl) <| SR.q' (r_ext (v := .agg (List.toArray _)) rfl rfl) <| SR.q' (r_ext (v := .bool _) rfl rfl) <| SR.alloc (l := [.int .i64 0, .slice none 0 0, .int .i64 0, .int .i64 0, .int .i64 0]) tz57 rfl ?_
        intro g119 w120 hg121 hk122 hs123 hb124
        have hz125 := hk122.size
        have hB126 := hB116.lo hk122
        have hd127 : ¬ A71 = some ⟨g119, 0, none⟩ := fun e' => by have := ((((hO80).lo hk97).kp hk104 (fun b_ hb e' => hd102 (by have e'' : b_ = g94 := e'; rw [← e'']; exact hb))).lo hk110).base_le e'; omega
        have hd128 : ¬ A111 = some ⟨g119, 0, none⟩ := fun e' => by have := (hO114).base_le e'; omega
        refine SR.store (o := 0) (vs := [.int .i64 (((impl_ScanJob_stepped o (gt S k)).1).State), .slice A111 n112 c113, .int .i64 (((impl_ScanJob_stepped o (gt S k)).1).Next), .int .i64 (((impl_ScanJob_stepped o (gt S k)).1).Fails), .int .i64 (((impl_ScanJob_stepped o (gt S k)).1).Size)]) agg57.2 rfl rfl rfl rfl (hb124) (Nat.le_of_ble_eq_true rfl) rfl ?_
        intro w129 hk130 hs131 hb132
        have hz133 := hk130.size
        have hB134 := hB126.new hk130 (by omega)
        refine SR.q' (r_as (v := .bool _) rfl) <| SR.nil ?_
        refine W.seq ?_
        refine W.regS (SR.q' (r_mv (v := .bool _) rfl) <| SR.nil ?_)
        refine W.cond_b rfl (fun h135 => ?_) (fun h135 => ?_)
        · refine W.seq ?_
          refine W.regS (SR.q' (r_lda (l := [.int .i64 (((impl_ScanJob_stepped o (gt S k)).1).State), .slice A111 n112 c113, .int .i64 (((impl_ScanJob_stepped o (gt S k)).1).Next), .int .i64 (((impl_ScanJob_stepped o (gt S k)).1).Fails), .int .i64 (((impl_ScanJob_stepped o (gt S k)).1).Size)]) agg57 rfl (fun _ _ hu => (hb132).cell hu) rfl) <| SR.store (o := 0) (vs := [.int .i64 (((impl_ScanJob_stepped o (gt S k)).1).State), .slice A111 n112 c113, .int .i64 (((impl_ScanJob_stepped o (gt S k)).1).Next), .int .i64 (((impl_ScanJob_stepped o (gt S k)).1).Fails), .int .i64 (((impl_ScanJob_stepped o (gt S k)).1).Size)]) agg57.2 rfl rfl rfl rfl ((((((hm78).lo hk97).kp hk104 (fun e' => by have e'' : g56 = g94 := e'; omega)).lo hk110).lo hk122).kp hk130 (fun e' => by have e'' : g56 = g119 := e'; omega)) (Nat.le_of_ble_eq_true rfl) rfl ?_)
          intro w136 hk137 hs138 hb139
          have hz140 := hk137.size
          have hB141 := hB134.new hk137 (by omega)
          refine SR.nil ?_
          refine W.regS (SR.q' (r_mv (v := .int .i64 _) rfl) <| SR.q' (r_add rfl rfl (by omega)) <| SR.q' (r_as (v := .int .i64 _) rfl) <| SR.nil ?_)
          refine W.regS (SR.q' (r_add rfl rfl (by omega)) <| SR.q' (r_mv (v := .int .i64 _) rfl) <| SR.nil ?_)
          refine ⟨(k + 1, ((impl_ScanJob_stepped o (gt S k)).1), m + 1, A111, n112, c113), _, rfl, ⟨rfl, rfl, rfl, rfl, rfl, rfl, rfl, rfl, trivial⟩, (show (Lo w w136) ∧ (Blk w136 g9 57 [.int .i64 0, .slice none 0 0, .int .i64 0, .int .i64 0, .int .i64 0]) ∧ (Blk w136 g56 57 [.int .i64 (((impl_ScanJob_stepped o (gt S k)).1).State), .slice A111 n112 c113, .int .i64 (((impl_ScanJob_stepped o (gt S k)).1).Next), .int .i64 (((impl_ScanJob_stepped o (gt S k)).1).Fails), .int .i64 (((impl_ScanJob_stepped o (gt S k)).1).Size)]) ∧ (SlR w136 BS encScanStep 2 AS nS cS S) ∧ (SlO w136 w.heap.size encI 1 3 A111 n112 c113 (((impl_ScanJob_stepped o (gt S k)).1).Tiles)) ∧ (¬ A111 = some ⟨g9, 0, none⟩) ∧ (¬ A111 = some ⟨g56, 0, none⟩) ∧ (k + 1 ≤ nS ∧ runToJ x S (k + 1) = (((impl_ScanJob_stepped o (gt S k)).1), m + 1) ∧ JobOK ((impl_ScanJob_stepped o (gt S k)).1) ∧ 0 ≤ m + 1 ∧ m + 1 ≤ (k + 1 : Int)) from ⟨hB141, ((((((hm77).lo hk97).kp hk104 (fun e' => by have e'' : g9 = g94 := e'; omega)).lo hk110).lo hk122).kp hk130 (fun e' => by have e'' : g9 = g119 := e'; omega)).kp hk137 (fun e' => by have e'' : g9 = g56 := e'; omega), (hb139), ((((((hm79).lo hk97).kp hk104 (fun b_ hb e' => by have e'' : b_ = g94 := e'; omega)).lo hk110).lo hk122).kp hk130 (fun b_ hb e' => by have e'' : b_ = g119 := e'; omega)).kp hk137 (fun b_ hb e' => by have e'' : b_ = g56 := e'; omega), (((((hO114).lo hk122).kp hk130 (fun b_ hb e' => hd128 (by have e'' : b_ = g119 := e'; rw [← e'']; exact hb))).kp hk137 (fun b_ hb e' => by have e'' : b_ = g56 := e'; have := (((hO114).lo hk122).kp hk130 (fun b_ hb e' => hd128 (by have e'' : b_ = g119 := e'; rw [← e'']; exact hb))).base_le hb; omega)).down (by omega)), (fun e' => by have := ((((hO114).lo hk122).kp hk130 (fun b_ hb e' => hd128 (by have e'' : b_ = g119 := e'; rw [← e'']; exact hb))).kp hk137 (fun b_ hb e' => by have e'' : b_ = g56 := e'; have := (((hO114).lo hk122).kp hk130 (fun b_ hb e' => hd128 (by have e'' : b_ = g119 := e'; rw [← e'']; exact hb))).base_le hb; omega)).base_le e'; omega), (fun e' => by have := ((((hO114).lo hk122).kp hk130 (fun b_ hb e' => hd128 (by have e'' : b_ = g119 := e'; rw [← e'']; exact hb))).kp hk137 (fun b_ hb e' => by have e'' : b_ = g56 := e'; have := (((hO114).lo hk122).kp hk130 (fun b_ hb e' => hd128 (by have e'' : b_ = g119 := e'; rw [← e'']; exact hb))).base_le hb; omega)).base_le e'; omega), ?_⟩), ?_⟩
          · exact (z_c_impl_RunScan_142 x nx_Tiles hbdx_Tiles hlex_Tiles S nS hbdS hleS h29 hq43 hq44 hq45 n49 hl54 hl55 k o m n71 c71 hi81 hl86 hq88 hq89 hq90 h91 hx93 n112 hl117 hl118 h135)
          · exact (z_c_impl_RunScan_143 x nx_Tiles hbdx_Tiles hlex_Tiles S nS hbdS hleS h29 hq43 hq44 hq45 n49 hl54 hl55 k o m n71 c71 hi81 hl86 hq88 hq89 hq90 h91 hx93 n112 hl117 hl118 h135)
        · refine W.skip ?_
          refine W.regS (SR.q' (r_add rfl rfl (by omega)) <| SR.q' (r_mv (v := .int .i64 _) rfl) <| SR.nil ?_)
          refine ⟨(k + 1, o, m, A71, n71, c71), _, rfl, ⟨rfl, rfl, rfl, rfl, rfl, rfl, rfl, rfl, trivial⟩, (show (Lo w w129) ∧ (Blk w129 g9 57 [.int .i64 0, .slice none 0 0, .int .i64 0, .int .i64 0, .int .i64 0]) ∧ (Blk w129 g56 57 [.int .i64 o.State, .slice A71 n71 c71, .int .i64 o.Next, .int .i64 o.Fails, .int .i64 o.Size]) ∧ (SlR w129 BS encScanStep 2 AS nS cS S) ∧ (SlO w129 w.heap.size encI 1 3 A71 n71 c71 o.Tiles) ∧ (¬ A71 = some ⟨g9, 0, none⟩) ∧ (¬ A71 = some ⟨g56, 0, none⟩) ∧ (k + 1 ≤ nS ∧ runToJ x S (k + 1) = (o, m) ∧ JobOK o ∧ 0 ≤ m ∧ m ≤ (k + 1 : Int)) from ⟨hB134, (((((hm77).lo hk97).kp hk104 (fun e' => by have e'' : g9 = g94 := e'; omega)).lo hk110).lo hk122).kp hk130 (fun e' => by have e'' : g9 = g119 := e'; omega), ((((((hm78).lo hk97).kp hk104 (fun e' => by have e'' : g56 = g94 := e'; omega)).lo hk110).lo hk122).kp hk130 (fun e' => by have e'' : g56 = g119 := e'; omega)), (((((hm79).lo hk97).kp hk104 (fun b_ hb e' => by have e'' : b_ = g94 := e'; omega)).lo hk110).lo hk122).kp hk130 (fun b_ hb e' => by have e'' : b_ = g119 := e'; omega), ((((((hO80).lo hk97).kp hk104 (fun b_ hb e' => hd102 (by have e'' : b_ = g94 := e'; rw [← e'']; exact hb))).lo hk110).lo hk122).kp hk130 (fun b_ hb e' => hd127 (by have e'' : b_ = g119 := e'; rw [← e'']; exact hb))), hd82, hd83, ?_⟩), ?_⟩
          · exact (z_c_impl_RunScan_144 x nx_Tiles hbdx_Tiles hlex_Tiles S nS hbdS hleS h29 hq43 hq44 hq45 n49 hl54 hl55 k o m n71 c71 hi81 hl86 hq88 hq89 hq90 h91 hx93 n112 hl117 hl118 h135)
          · exact (z_c_impl_RunScan_145 x nx_Tiles hbdx_Tiles hlex_Tiles S nS hbdS hleS h29 hq43 hq44 hq45 n49 hl54 hl55 k o m n71 c71 hi81 hl86 hq88 hq89 hq90 h91 hx93 n112 hl117 hl118 h135)
      · refine W.exit (xin_here ?_)
        refine W.seq ?_
        refine W.regS (SR.q' (r_lda (l := [.int .i64 o.State, .slice A71 n71 c71, .int .i64 o.Next, .int .i64 o.Fails, .int .i64 o.Size]) agg57 rfl (fun _ _ hu => (hm78).cell hu) rfl) <| SR.q' (r_mv (v := .int .i64 _) rfl) <| SR.store (o := 0) (vs := [.int .i64 o.State, .slice A71 n71 c71, .int .i64 o.Next, .int .i64 o.Fails, .int .i64 o.Size]) agg57.2 rfl rfl rfl rfl (hm77) (Nat.le_of_ble_eq_true rfl) rfl ?_)
        intro w146 hk147 hs148 hb149
        have hz150 := hk147.size
        have hB151 := hB75.new hk147 (by omega)
        refine SR.q' (r_as (v := .int .i64 _) rfl) <| SR.q' (r_as (v := .bool true) rfl) <| SR.nil ?_
        refine W.ret ?_
        refine retCTT rfl rfl agg57 (hb149) rfl (v := .int .i64 _) rfl (v' := .bool _) rfl ?_
        exact ⟨A71, n71, c71, eR (eT3 (eA (eC (eI (z_c_impl_RunScan_153 x nx_Tiles hbdx_Tiles hlex_Tiles S nS hbdS hleS h29 hq43 hq44 hq45 n49 hl54 hl55 k o m n71 c71 hi81 hl86 hq88 hq89 hq90 h91)) (eC rfl (eC (eI (z_c_impl_RunScan_154 x nx_Tiles hbdx_Tiles hlex_Tiles S nS hbdS hleS h29 hq43 hq44 hq45 n49 hl54 hl55 k o m n71 c71 hi81 hl86 hq88 hq89 hq90 h91)) (eC (eI (z_c_impl_RunScan_155 x nx_Tiles hbdx_Tiles hlex_Tiles S nS hbdS hleS h29 hq43 hq44 hq45 n49 hl54 hl55 k o m n71 c71 hi81 hl86 hq88 hq89 hq90 h91)) (eC (eI (z_c_impl_RunScan_156 x nx_Tiles hbdx_Tiles hlex_Tiles S nS hbdS hleS h29 hq43 hq44 hq45 n49 hl54 hl55 k o m n71 c71 hi81 hl86 hq88 hq89 hq90 h91)) rfl)))))) (eI (z_c_impl_RunScan_157 x nx_Tiles hbdx_Tiles hlex_Tiles S nS hbdS hleS h29 hq43 hq44 hq45 n49 hl54 hl55 k o m n71 c71 hi81 hl86 hq88 hq89 hq90 h91)) (eB (z_c_impl_RunScan_158 x nx_Tiles hbdx_Tiles hlex_Tiles S nS hbdS hleS h29 hq43 hq44 hq45 n49 hl54 hl55 k o m n71 c71 hi81 hl86 hq88 hq89 hq90 h91))), (SlO.eqv (((hO80).kp hk147 (fun b_ hb e' => hd82 (by have e'' : b_ = g9 := e'; rw [← e'']; exact hb))).down (by omega)) (z_c_impl_RunScan_152 x nx_Tiles hbdx_Tiles hlex_Tiles S nS hbdS hleS h29 hq43 hq44 hq45 n49 hl54 hl55 k o m n71 c71 hi81 hl86 hq88 hq89 hq90 h91)), hB151⟩
end Go.Proofs.YtlpapeeaghmjpaaDoor
