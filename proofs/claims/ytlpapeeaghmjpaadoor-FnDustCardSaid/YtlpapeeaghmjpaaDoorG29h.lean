/- Walks, printed by a program of this claim's author. -/
import Derived.Test.YtlpapeeaghmjpaaDoorChecked
import Derived.Test.YtlpapeeaghmjpaaDoorSa
import Derived.Test.YtlpapeeaghmjpaaDoorFu
import Derived.Test.YtlpapeeaghmjpaaDoorFs
import Derived.Test.YtlpapeeaghmjpaaDoorFq
import Derived.Test.YtlpapeeaghmjpaaDoorFo
import Derived.Test.YtlpapeeaghmjpaaDoorSc
import Derived.Test.YtlpapeeaghmjpaaDoorG29f
namespace Go.Proofs.YtlpapeeaghmjpaaDoor
open Go Go.RowKit Fw
set_option maxRecDepth 10000
set_option linter.unusedVariables false
theorem tsl53 : TSl Tryd.prog 53 48 2 := ⟨by kernel_rfl, fun _ => by kernel_rfl⟩
theorem tz48 : TZ Tryd.prog 48 (.agg (List.toArray [.int .i64 0, .int .i64 0])) := fun _ => by kernel_rfl
theorem und53 : Tryd.prog.underlying 53 = some (.slice 48) := by kernel_rfl

theorem z_c_impl_RunChest_37 (x : Chest) (nx_Stack : Nat) (hbdx_Stack : (nx_Stack : Int) ≤ 9223372036854775807) (hlex_Stack : nx_Stack = x.Stack.length) (S : List ChestStep) (nS : Nat) (hbdS : (nS : Int) ≤ 9223372036854775807) (hleS : nS = S.length) (h30 : (¬ (ChestOK x)) ∨ (40 < (nS : Int))) : ([] : List Int) = ((runF x S).1).Stack := by
  subst hleS
  first | (rw [runF_no ‹_›]; done) | (rw [runF_no ‹_›]; rfl) | (rw [runF_yes ‹_› (And.left (And.right ‹_ ∧ runTo _ _ _ = _ ∧ _›)) (by omega)]; done) | (rw [runF_yes ‹_› (And.left (And.right ‹_ ∧ runTo _ _ _ = _ ∧ _›)) (by omega)]; rfl)
theorem z_c_impl_RunChest_38 (x : Chest) (nx_Stack : Nat) (hbdx_Stack : (nx_Stack : Int) ≤ 9223372036854775807) (hlex_Stack : nx_Stack = x.Stack.length) (S : List ChestStep) (nS : Nat) (hbdS : (nS : Int) ≤ 9223372036854775807) (hleS : nS = S.length) (h30 : (¬ (ChestOK x)) ∨ (40 < (nS : Int))) : 0 = ((runF x S).1).State := by
  subst hleS
  first | (rw [runF_no ‹_›]; done) | (rw [runF_no ‹_›]; rfl) | (rw [runF_yes ‹_› (And.left (And.right ‹_ ∧ runTo _ _ _ = _ ∧ _›)) (by omega)]; done) | (rw [runF_yes ‹_› (And.left (And.right ‹_ ∧ runTo _ _ _ = _ ∧ _›)) (by omega)]; rfl)
theorem z_c_impl_RunChest_39 (x : Chest) (nx_Stack : Nat) (hbdx_Stack : (nx_Stack : Int) ≤ 9223372036854775807) (hlex_Stack : nx_Stack = x.Stack.length) (S : List ChestStep) (nS : Nat) (hbdS : (nS : Int) ≤ 9223372036854775807) (hleS : nS = S.length) (h30 : (¬ (ChestOK x)) ∨ (40 < (nS : Int))) : 0 = ((runF x S).1).Key := by
  subst hleS
  first | (rw [runF_no ‹_›]; done) | (rw [runF_no ‹_›]; rfl) | (rw [runF_yes ‹_› (And.left (And.right ‹_ ∧ runTo _ _ _ = _ ∧ _›)) (by omega)]; done) | (rw [runF_yes ‹_› (And.left (And.right ‹_ ∧ runTo _ _ _ = _ ∧ _›)) (by omega)]; rfl)
theorem z_c_impl_RunChest_40 (x : Chest) (nx_Stack : Nat) (hbdx_Stack : (nx_Stack : Int) ≤ 9223372036854775807) (hlex_Stack : nx_Stack = x.Stack.length) (S : List ChestStep) (nS : Nat) (hbdS : (nS : Int) ≤ 9223372036854775807) (hleS : nS = S.length) (h30 : (¬ (ChestOK x)) ∨ (40 < (nS : Int))) : 0 = ((runF x S).1).Dust := by
  subst hleS
  first | (rw [runF_no ‹_›]; done) | (rw [runF_no ‹_›]; rfl) | (rw [runF_yes ‹_› (And.left (And.right ‹_ ∧ runTo _ _ _ = _ ∧ _›)) (by omega)]; done) | (rw [runF_yes ‹_› (And.left (And.right ‹_ ∧ runTo _ _ _ = _ ∧ _›)) (by omega)]; rfl)
theorem z_c_impl_RunChest_41 (x : Chest) (nx_Stack : Nat) (hbdx_Stack : (nx_Stack : Int) ≤ 9223372036854775807) (hlex_Stack : nx_Stack = x.Stack.length) (S : List ChestStep) (nS : Nat) (hbdS : (nS : Int) ≤ 9223372036854775807) (hleS : nS = S.length) (h30 : (¬ (ChestOK x)) ∨ (40 < (nS : Int))) : 0 = ((runF x S).1).Laid := by
  subst hleS
  first | (rw [runF_no ‹_›]; done) | (rw [runF_no ‹_›]; rfl) | (rw [runF_yes ‹_› (And.left (And.right ‹_ ∧ runTo _ _ _ = _ ∧ _›)) (by omega)]; done) | (rw [runF_yes ‹_› (And.left (And.right ‹_ ∧ runTo _ _ _ = _ ∧ _›)) (by omega)]; rfl)
theorem z_c_impl_RunChest_42 (x : Chest) (nx_Stack : Nat) (hbdx_Stack : (nx_Stack : Int) ≤ 9223372036854775807) (hlex_Stack : nx_Stack = x.Stack.length) (S : List ChestStep) (nS : Nat) (hbdS : (nS : Int) ≤ 9223372036854775807) (hleS : nS = S.length) (h30 : (¬ (ChestOK x)) ∨ (40 < (nS : Int))) : 0 = ((runF x S).1).Given := by
  subst hleS
  first | (rw [runF_no ‹_›]; done) | (rw [runF_no ‹_›]; rfl) | (rw [runF_yes ‹_› (And.left (And.right ‹_ ∧ runTo _ _ _ = _ ∧ _›)) (by omega)]; done) | (rw [runF_yes ‹_› (And.left (And.right ‹_ ∧ runTo _ _ _ = _ ∧ _›)) (by omega)]; rfl)
theorem z_c_impl_RunChest_43 (x : Chest) (nx_Stack : Nat) (hbdx_Stack : (nx_Stack : Int) ≤ 9223372036854775807) (hlex_Stack : nx_Stack = x.Stack.length) (S : List ChestStep) (nS : Nat) (hbdS : (nS : Int) ≤ 9223372036854775807) (hleS : nS = S.length) (h30 : (¬ (ChestOK x)) ∨ (40 < (nS : Int))) : 0 = (runF x S).2.1 := by
  subst hleS
  first | (rw [runF_no ‹_›]; done) | (rw [runF_no ‹_›]; rfl) | (rw [runF_yes ‹_› (And.left (And.right ‹_ ∧ runTo _ _ _ = _ ∧ _›)) (by omega)]; done) | (rw [runF_yes ‹_› (And.left (And.right ‹_ ∧ runTo _ _ _ = _ ∧ _›)) (by omega)]; rfl)
theorem z_c_impl_RunChest_44 (x : Chest) (nx_Stack : Nat) (hbdx_Stack : (nx_Stack : Int) ≤ 9223372036854775807) (hlex_Stack : nx_Stack = x.Stack.length) (S : List ChestStep) (nS : Nat) (hbdS : (nS : Int) ≤ 9223372036854775807) (hleS : nS = S.length) (h30 : (¬ (ChestOK x)) ∨ (40 < (nS : Int))) : false = (runF x S).2.2 := by
  subst hleS
  first | (rw [runF_no ‹_›]; done) | (rw [runF_no ‹_›]; rfl) | (rw [runF_yes ‹_› (And.left (And.right ‹_ ∧ runTo _ _ _ = _ ∧ _›)) (by omega)]; done) | (rw [runF_yes ‹_› (And.left (And.right ‹_ ∧ runTo _ _ _ = _ ∧ _›)) (by omega)]; rfl)
theorem z_c_impl_RunChest_75 (x : Chest) (nx_Stack : Nat) (hbdx_Stack : (nx_Stack : Int) ≤ 9223372036854775807) (hlex_Stack : nx_Stack = x.Stack.length) (S : List ChestStep) (nS : Nat) (hbdS : (nS : Int) ≤ 9223372036854775807) (hleS : nS = S.length) (h30 : ¬ ((¬ (ChestOK x)) ∨ (40 < (nS : Int)))) (hq45 : ChestOK x) (hq46 : ¬ (40 < (nS : Int))) (hq47 : x.Stack.length ≤ 10) (hq48 : x.Stack.length ≤ 10 ∧ (0 ≤ x.State ∧ x.State ≤ 2) ∧ (0 ≤ x.Dust ∧ x.Dust ≤ 100) ∧ (0 ≤ x.Laid ∧ x.Laid ≤ 9999) ∧ (0 ≤ x.Given ∧ x.Given ≤ 9999) ∧ x.Laid - x.Given = (x.Stack.length : Int)) (n52 : Nat) (hl57 : n52 = (x.Stack).length) (hl58 : (n52 : Int) ≤ 9223372036854775807) : 0 ≤ nS ∧ runTo x S 0 = (x, (0 : Int)) ∧ ChestOK x ∧ 0 ≤ (0 : Int) ∧ (0 : Int) ≤ (0 : Int) := by
  exact ⟨Nat.zero_le _, rfl, ‹ChestOK x›, by omega, by omega⟩
theorem z_c_impl_RunChest_145 (x : Chest) (nx_Stack : Nat) (hbdx_Stack : (nx_Stack : Int) ≤ 9223372036854775807) (hlex_Stack : nx_Stack = x.Stack.length) (S : List ChestStep) (nS : Nat) (hbdS : (nS : Int) ≤ 9223372036854775807) (hleS : nS = S.length) (h30 : ¬ ((¬ (ChestOK x)) ∨ (40 < (nS : Int)))) (hq45 : ChestOK x) (hq46 : ¬ (40 < (nS : Int))) (hq47 : x.Stack.length ≤ 10) (hq48 : x.Stack.length ≤ 10 ∧ (0 ≤ x.State ∧ x.State ≤ 2) ∧ (0 ≤ x.Dust ∧ x.Dust ≤ 100) ∧ (0 ≤ x.Laid ∧ x.Laid ≤ 9999) ∧ (0 ≤ x.Given ∧ x.Given ≤ 9999) ∧ x.Laid - x.Given = (x.Stack.length : Int)) (n52 : Nat) (hl57 : n52 = (x.Stack).length) (hl58 : (n52 : Int) ≤ 9223372036854775807) (k : Nat) (o : Chest) (m : Int) (n74 : Nat) (c74 : Nat) (hi84 : k ≤ nS ∧ runTo x S k = (o, m) ∧ ChestOK o ∧ 0 ≤ m ∧ m ≤ (k : Int)) (hl89 : n74 = (o.Stack).length) (hq91 : ChestOK o) (hq92 : o.Stack.length ≤ 10) (hq93 : 0 ≤ m ∧ m ≤ (k : Int)) (h94 : (k : Int) < (nS : Int)) (hx96 : S[k]? = some (gt S k)) (n115 : Nat) (hl120 : n115 = (((impl_Chest_stepped o (gt S k)).1).Stack).length) (hl121 : (n115 : Int) ≤ 9223372036854775807) (h138 : ((impl_Chest_stepped o (gt S k)).2) = true) : k + 1 ≤ nS ∧ runTo x S (k + 1) = (((impl_Chest_stepped o (gt S k)).1), m + 1) ∧ ChestOK ((impl_Chest_stepped o (gt S k)).1) ∧ 0 ≤ m + 1 ∧ m + 1 ≤ (k + 1 : Int) := by
  have hh := ‹_ ∧ runTo _ _ _ = _ ∧ _›
  first | exact ⟨by omega, (run_yes hh.2.1 hh.2.2.1 ‹S[k]? = some _› ‹_›).1, (run_yes hh.2.1 hh.2.2.1 ‹S[k]? = some _› ‹_›).2, by omega, by omega⟩ | exact ⟨by omega, run_no hh.2.1 hh.2.2.1 ‹S[k]? = some _› ‹_›, hh.2.2.1, by omega, by omega⟩
theorem z_c_impl_RunChest_146 (x : Chest) (nx_Stack : Nat) (hbdx_Stack : (nx_Stack : Int) ≤ 9223372036854775807) (hlex_Stack : nx_Stack = x.Stack.length) (S : List ChestStep) (nS : Nat) (hbdS : (nS : Int) ≤ 9223372036854775807) (hleS : nS = S.length) (h30 : ¬ ((¬ (ChestOK x)) ∨ (40 < (nS : Int)))) (hq45 : ChestOK x) (hq46 : ¬ (40 < (nS : Int))) (hq47 : x.Stack.length ≤ 10) (hq48 : x.Stack.length ≤ 10 ∧ (0 ≤ x.State ∧ x.State ≤ 2) ∧ (0 ≤ x.Dust ∧ x.Dust ≤ 100) ∧ (0 ≤ x.Laid ∧ x.Laid ≤ 9999) ∧ (0 ≤ x.Given ∧ x.Given ≤ 9999) ∧ x.Laid - x.Given = (x.Stack.length : Int)) (n52 : Nat) (hl57 : n52 = (x.Stack).length) (hl58 : (n52 : Int) ≤ 9223372036854775807) (k : Nat) (o : Chest) (m : Int) (n74 : Nat) (c74 : Nat) (hi84 : k ≤ nS ∧ runTo x S k = (o, m) ∧ ChestOK o ∧ 0 ≤ m ∧ m ≤ (k : Int)) (hl89 : n74 = (o.Stack).length) (hq91 : ChestOK o) (hq92 : o.Stack.length ≤ 10) (hq93 : 0 ≤ m ∧ m ≤ (k : Int)) (h94 : (k : Int) < (nS : Int)) (hx96 : S[k]? = some (gt S k)) (n115 : Nat) (hl120 : n115 = (((impl_Chest_stepped o (gt S k)).1).Stack).length) (hl121 : (n115 : Int) ≤ 9223372036854775807) (h138 : ((impl_Chest_stepped o (gt S k)).2) = true) : nS - (k + 1) < nS - k := by
  omega
theorem z_c_impl_RunChest_147 (x : Chest) (nx_Stack : Nat) (hbdx_Stack : (nx_Stack : Int) ≤ 9223372036854775807) (hlex_Stack : nx_Stack = x.Stack.length) (S : List ChestStep) (nS : Nat) (hbdS : (nS : Int) ≤ 9223372036854775807) (hleS : nS = S.length) (h30 : ¬ ((¬ (ChestOK x)) ∨ (40 < (nS : Int)))) (hq45 : ChestOK x) (hq46 : ¬ (40 < (nS : Int))) (hq47 : x.Stack.length ≤ 10) (hq48 : x.Stack.length ≤ 10 ∧ (0 ≤ x.State ∧ x.State ≤ 2) ∧ (0 ≤ x.Dust ∧ x.Dust ≤ 100) ∧ (0 ≤ x.Laid ∧ x.Laid ≤ 9999) ∧ (0 ≤ x.Given ∧ x.Given ≤ 9999) ∧ x.Laid - x.Given = (x.Stack.length : Int)) (n52 : Nat) (hl57 : n52 = (x.Stack).length) (hl58 : (n52 : Int) ≤ 9223372036854775807) (k : Nat) (o : Chest) (m : Int) (n74 : Nat) (c74 : Nat) (hi84 : k ≤ nS ∧ runTo x S k = (o, m) ∧ ChestOK o ∧ 0 ≤ m ∧ m ≤ (k : Int)) (hl89 : n74 = (o.Stack).length) (hq91 : ChestOK o) (hq92 : o.Stack.length ≤ 10) (hq93 : 0 ≤ m ∧ m ≤ (k : Int)) (h94 : (k : Int) < (nS : Int)) (hx96 : S[k]? = some (gt S k)) (n115 : Nat) (hl120 : n115 = (((impl_Chest_stepped o (gt S k)).1).Stack).length) (hl121 : (n115 : Int) ≤ 9223372036854775807) (h138 : ((impl_Chest_stepped o (gt S k)).2) = false) : k + 1 ≤ nS ∧ runTo x S (k + 1) = (o, m) ∧ ChestOK o ∧ 0 ≤ m ∧ m ≤ (k + 1 : Int) := by
  have hh := ‹_ ∧ runTo _ _ _ = _ ∧ _›
  first | exact ⟨by omega, (run_yes hh.2.1 hh.2.2.1 ‹S[k]? = some _› ‹_›).1, (run_yes hh.2.1 hh.2.2.1 ‹S[k]? = some _› ‹_›).2, by omega, by omega⟩ | exact ⟨by omega, run_no hh.2.1 hh.2.2.1 ‹S[k]? = some _› ‹_›, hh.2.2.1, by omega, by omega⟩
theorem z_c_impl_RunChest_148 (x : Chest) (nx_Stack : Nat) (hbdx_Stack : (nx_Stack : Int) ≤ 9223372036854775807) (hlex_Stack : nx_Stack = x.Stack.length) (S : List ChestStep) (nS : Nat) (hbdS : (nS : Int) ≤ 9223372036854775807) (hleS : nS = S.length) (h30 : ¬ ((¬ (ChestOK x)) ∨ (40 < (nS : Int)))) (hq45 : ChestOK x) (hq46 : ¬ (40 < (nS : Int))) (hq47 : x.Stack.length ≤ 10) (hq48 : x.Stack.length ≤ 10 ∧ (0 ≤ x.State ∧ x.State ≤ 2) ∧ (0 ≤ x.Dust ∧ x.Dust ≤ 100) ∧ (0 ≤ x.Laid ∧ x.Laid ≤ 9999) ∧ (0 ≤ x.Given ∧ x.Given ≤ 9999) ∧ x.Laid - x.Given = (x.Stack.length : Int)) (n52 : Nat) (hl57 : n52 = (x.Stack).length) (hl58 : (n52 : Int) ≤ 9223372036854775807) (k : Nat) (o : Chest) (m : Int) (n74 : Nat) (c74 : Nat) (hi84 : k ≤ nS ∧ runTo x S k = (o, m) ∧ ChestOK o ∧ 0 ≤ m ∧ m ≤ (k : Int)) (hl89 : n74 = (o.Stack).length) (hq91 : ChestOK o) (hq92 : o.Stack.length ≤ 10) (hq93 : 0 ≤ m ∧ m ≤ (k : Int)) (h94 : (k : Int) < (nS : Int)) (hx96 : S[k]? = some (gt S k)) (n115 : Nat) (hl120 : n115 = (((impl_Chest_stepped o (gt S k)).1).Stack).length) (hl121 : (n115 : Int) ≤ 9223372036854775807) (h138 : ((impl_Chest_stepped o (gt S k)).2) = false) : nS - (k + 1) < nS - k := by
  omega
theorem z_c_impl_RunChest_155 (x : Chest) (nx_Stack : Nat) (hbdx_Stack : (nx_Stack : Int) ≤ 9223372036854775807) (hlex_Stack : nx_Stack = x.Stack.length) (S : List ChestStep) (nS : Nat) (hbdS : (nS : Int) ≤ 9223372036854775807) (hleS : nS = S.length) (h30 : ¬ ((¬ (ChestOK x)) ∨ (40 < (nS : Int)))) (hq45 : ChestOK x) (hq46 : ¬ (40 < (nS : Int))) (hq47 : x.Stack.length ≤ 10) (hq48 : x.Stack.length ≤ 10 ∧ (0 ≤ x.State ∧ x.State ≤ 2) ∧ (0 ≤ x.Dust ∧ x.Dust ≤ 100) ∧ (0 ≤ x.Laid ∧ x.Laid ≤ 9999) ∧ (0 ≤ x.Given ∧ x.Given ≤ 9999) ∧ x.Laid - x.Given = (x.Stack.length : Int)) (n52 : Nat) (hl57 : n52 = (x.Stack).length) (hl58 : (n52 : Int) ≤ 9223372036854775807) (k : Nat) (o : Chest) (m : Int) (n74 : Nat) (c74 : Nat) (hi84 : k ≤ nS ∧ runTo x S k = (o, m) ∧ ChestOK o ∧ 0 ≤ m ∧ m ≤ (k : Int)) (hl89 : n74 = (o.Stack).length) (hq91 : ChestOK o) (hq92 : o.Stack.length ≤ 10) (hq93 : 0 ≤ m ∧ m ≤ (k : Int)) (h94 : ¬ ((k : Int) < (nS : Int))) : o.Stack = ((runF x S).1).Stack := by
  subst hleS
  first | (rw [runF_no ‹_›]; done) | (rw [runF_no ‹_›]; rfl) | (rw [runF_yes ‹_› (And.left (And.right ‹_ ∧ runTo _ _ _ = _ ∧ _›)) (by omega)]; done) | (rw [runF_yes ‹_› (And.left (And.right ‹_ ∧ runTo _ _ _ = _ ∧ _›)) (by omega)]; rfl)
theorem z_c_impl_RunChest_156 (x : Chest) (nx_Stack : Nat) (hbdx_Stack : (nx_Stack : Int) ≤ 9223372036854775807) (hlex_Stack : nx_Stack = x.Stack.length) (S : List ChestStep) (nS : Nat) (hbdS : (nS : Int) ≤ 9223372036854775807) (hleS : nS = S.length) (h30 : ¬ ((¬ (ChestOK x)) ∨ (40 < (nS : Int)))) (hq45 : ChestOK x) (hq46 : ¬ (40 < (nS : Int))) (hq47 : x.Stack.length ≤ 10) (hq48 : x.Stack.length ≤ 10 ∧ (0 ≤ x.State ∧ x.State ≤ 2) ∧ (0 ≤ x.Dust ∧ x.Dust ≤ 100) ∧ (0 ≤ x.Laid ∧ x.Laid ≤ 9999) ∧ (0 ≤ x.Given ∧ x.Given ≤ 9999) ∧ x.Laid - x.Given = (x.Stack.length : Int)) (n52 : Nat) (hl57 : n52 = (x.Stack).length) (hl58 : (n52 : Int) ≤ 9223372036854775807) (k : Nat) (o : Chest) (m : Int) (n74 : Nat) (c74 : Nat) (hi84 : k ≤ nS ∧ runTo x S k = (o, m) ∧ ChestOK o ∧ 0 ≤ m ∧ m ≤ (k : Int)) (hl89 : n74 = (o.Stack).length) (hq91 : ChestOK o) (hq92 : o.Stack.length ≤ 10) (hq93 : 0 ≤ m ∧ m ≤ (k : Int)) (h94 : ¬ ((k : Int) < (nS : Int))) : o.State = ((runF x S).1).State := by
  subst hleS
  first | (rw [runF_no ‹_›]; done) | (rw [runF_no ‹_›]; rfl) | (rw [runF_yes ‹_› (And.left (And.right ‹_ ∧ runTo _ _ _ = _ ∧ _›)) (by omega)]; done) | (rw [runF_yes ‹_› (And.left (And.right ‹_ ∧ runTo _ _ _ = _ ∧ _›)) (by omega)]; rfl)
theorem z_c_impl_RunChest_157 (x : Chest) (nx_Stack : Nat) (hbdx_Stack : (nx_Stack : Int) ≤ 9223372036854775807) (hlex_Stack : nx_Stack = x.Stack.length) (S : List ChestStep) (nS : Nat) (hbdS : (nS : Int) ≤ 9223372036854775807) (hleS : nS = S.length) (h30 : ¬ ((¬ (ChestOK x)) ∨ (40 < (nS : Int)))) (hq45 : ChestOK x) (hq46 : ¬ (40 < (nS : Int))) (hq47 : x.Stack.length ≤ 10) (hq48 : x.Stack.length ≤ 10 ∧ (0 ≤ x.State ∧ x.State ≤ 2) ∧ (0 ≤ x.Dust ∧ x.Dust ≤ 100) ∧ (0 ≤ x.Laid ∧ x.Laid ≤ 9999) ∧ (0 ≤ x.Given ∧ x.Given ≤ 9999) ∧ x.Laid - x.Given = (x.Stack.length : Int)) (n52 : Nat) (hl57 : n52 = (x.Stack).length) (hl58 : (n52 : Int) ≤ 9223372036854775807) (k : Nat) (o : Chest) (m : Int) (n74 : Nat) (c74 : Nat) (hi84 : k ≤ nS ∧ runTo x S k = (o, m) ∧ ChestOK o ∧ 0 ≤ m ∧ m ≤ (k : Int)) (hl89 : n74 = (o.Stack).length) (hq91 : ChestOK o) (hq92 : o.Stack.length ≤ 10) (hq93 : 0 ≤ m ∧ m ≤ (k : Int)) (h94 : ¬ ((k : Int) < (nS : Int))) : o.Key = ((runF x S).1).Key := by
  subst hleS
  first | (rw [runF_no ‹_›]; done) | (rw [runF_no ‹_›]; rfl) | (rw [runF_yes ‹_› (And.left (And.right ‹_ ∧ runTo _ _ _ = _ ∧ _›)) (by omega)]; done) | (rw [runF_yes ‹_› (And.left (And.right ‹_ ∧ runTo _ _ _ = _ ∧ _›)) (by omega)]; rfl)
theorem z_c_impl_RunChest_158 (x : Chest) (nx_Stack : Nat) (hbdx_Stack : (nx_Stack : Int) ≤ 9223372036854775807) (hlex_Stack : nx_Stack = x.Stack.length) (S : List ChestStep) (nS : Nat) (hbdS : (nS : Int) ≤ 9223372036854775807) (hleS : nS = S.length) (h30 : ¬ ((¬ (ChestOK x)) ∨ (40 < (nS : Int)))) (hq45 : ChestOK x) (hq46 : ¬ (40 < (nS : Int))) (hq47 : x.Stack.length ≤ 10) (hq48 : x.Stack.length ≤ 10 ∧ (0 ≤ x.State ∧ x.State ≤ 2) ∧ (0 ≤ x.Dust ∧ x.Dust ≤ 100) ∧ (0 ≤ x.Laid ∧ x.Laid ≤ 9999) ∧ (0 ≤ x.Given ∧ x.Given ≤ 9999) ∧ x.Laid - x.Given = (x.Stack.length : Int)) (n52 : Nat) (hl57 : n52 = (x.Stack).length) (hl58 : (n52 : Int) ≤ 9223372036854775807) (k : Nat) (o : Chest) (m : Int) (n74 : Nat) (c74 : Nat) (hi84 : k ≤ nS ∧ runTo x S k = (o, m) ∧ ChestOK o ∧ 0 ≤ m ∧ m ≤ (k : Int)) (hl89 : n74 = (o.Stack).length) (hq91 : ChestOK o) (hq92 : o.Stack.length ≤ 10) (hq93 : 0 ≤ m ∧ m ≤ (k : Int)) (h94 : ¬ ((k : Int) < (nS : Int))) : o.Dust = ((runF x S).1).Dust := by
  subst hleS
  first | (rw [runF_no ‹_›]; done) | (rw [runF_no ‹_›]; rfl) | (rw [runF_yes ‹_› (And.left (And.right ‹_ ∧ runTo _ _ _ = _ ∧ _›)) (by omega)]; done) | (rw [runF_yes ‹_› (And.left (And.right ‹_ ∧ runTo _ _ _ = _ ∧ _›)) (by omega)]; rfl)
theorem z_c_impl_RunChest_159 (x : Chest) (nx_Stack : Nat) (hbdx_Stack : (nx_Stack : Int) ≤ 9223372036854775807) (hlex_Stack : nx_Stack = x.Stack.length) (S : List ChestStep) (nS : Nat) (hbdS : (nS : Int) ≤ 9223372036854775807) (hleS : nS = S.length) (h30 : ¬ ((¬ (ChestOK x)) ∨ (40 < (nS : Int)))) (hq45 : ChestOK x) (hq46 : ¬ (40 < (nS : Int))) (hq47 : x.Stack.length ≤ 10) (hq48 : x.Stack.length ≤ 10 ∧ (0 ≤ x.State ∧ x.State ≤ 2) ∧ (0 ≤ x.Dust ∧ x.Dust ≤ 100) ∧ (0 ≤ x.Laid ∧ x.Laid ≤ 9999) ∧ (0 ≤ x.Given ∧ x.Given ≤ 9999) ∧ x.Laid - x.Given = (x.Stack.length : Int)) (n52 : Nat) (hl57 : n52 = (x.Stack).length) (hl58 : (n52 : Int) ≤ 9223372036854775807) (k : Nat) (o : Chest) (m : Int) (n74 : Nat) (c74 : Nat) (hi84 : k ≤ nS ∧ runTo x S k = (o, m) ∧ ChestOK o ∧ 0 ≤ m ∧ m ≤ (k : Int)) (hl89 : n74 = (o.Stack).length) (hq91 : ChestOK o) (hq92 : o.Stack.length ≤ 10) (hq93 : 0 ≤ m ∧ m ≤ (k : Int)) (h94 : ¬ ((k : Int) < (nS : Int))) : o.Laid = ((runF x S).1).Laid := by
  subst hleS
  first | (rw [runF_no ‹_›]; done) | (rw [runF_no ‹_›]; rfl) | (rw [runF_yes ‹_› (And.left (And.right ‹_ ∧ runTo _ _ _ = _ ∧ _›)) (by omega)]; done) | (rw [runF_yes ‹_› (And.left (And.right ‹_ ∧ runTo _ _ _ = _ ∧ _›)) (by omega)]; rfl)
theorem z_c_impl_RunChest_160 (x : Chest) (nx_Stack : Nat) (hbdx_Stack : (nx_Stack : Int) ≤ 9223372036854775807) (hlex_Stack : nx_Stack = x.Stack.length) (S : List ChestStep) (nS : Nat) (hbdS : (nS : Int) ≤ 9223372036854775807) (hleS : nS = S.length) (h30 : ¬ ((¬ (ChestOK x)) ∨ (40 < (nS : Int)))) (hq45 : ChestOK x) (hq46 : ¬ (40 < (nS : Int))) (hq47 : x.Stack.length ≤ 10) (hq48 : x.Stack.length ≤ 10 ∧ (0 ≤ x.State ∧ x.State ≤ 2) ∧ (0 ≤ x.Dust ∧ x.Dust ≤ 100) ∧ (0 ≤ x.Laid ∧ x.Laid ≤ 9999) ∧ (0 ≤ x.Given ∧ x.Given ≤ 9999) ∧ x.Laid - x.Given = (x.Stack.length : Int)) (n52 : Nat) (hl57 : n52 = (x.Stack).length) (hl58 : (n52 : Int) ≤ 9223372036854775807) (k : Nat) (o : Chest) (m : Int) (n74 : Nat) (c74 : Nat) (hi84 : k ≤ nS ∧ runTo x S k = (o, m) ∧ ChestOK o ∧ 0 ≤ m ∧ m ≤ (k : Int)) (hl89 : n74 = (o.Stack).length) (hq91 : ChestOK o) (hq92 : o.Stack.length ≤ 10) (hq93 : 0 ≤ m ∧ m ≤ (k : Int)) (h94 : ¬ ((k : Int) < (nS : Int))) : o.Given = ((runF x S).1).Given := by
  subst hleS
  first | (rw [runF_no ‹_›]; done) | (rw [runF_no ‹_›]; rfl) | (rw [runF_yes ‹_› (And.left (And.right ‹_ ∧ runTo _ _ _ = _ ∧ _›)) (by omega)]; done) | (rw [runF_yes ‹_› (And.left (And.right ‹_ ∧ runTo _ _ _ = _ ∧ _›)) (by omega)]; rfl)
theorem z_c_impl_RunChest_161 (x : Chest) (nx_Stack : Nat) (hbdx_Stack : (nx_Stack : Int) ≤ 9223372036854775807) (hlex_Stack : nx_Stack = x.Stack.length) (S : List ChestStep) (nS : Nat) (hbdS : (nS : Int) ≤ 9223372036854775807) (hleS : nS = S.length) (h30 : ¬ ((¬ (ChestOK x)) ∨ (40 < (nS : Int)))) (hq45 : ChestOK x) (hq46 : ¬ (40 < (nS : Int))) (hq47 : x.Stack.length ≤ 10) (hq48 : x.Stack.length ≤ 10 ∧ (0 ≤ x.State ∧ x.State ≤ 2) ∧ (0 ≤ x.Dust ∧ x.Dust ≤ 100) ∧ (0 ≤ x.Laid ∧ x.Laid ≤ 9999) ∧ (0 ≤ x.Given ∧ x.Given ≤ 9999) ∧ x.Laid - x.Given = (x.Stack.length : Int)) (n52 : Nat) (hl57 : n52 = (x.Stack).length) (hl58 : (n52 : Int) ≤ 9223372036854775807) (k : Nat) (o : Chest) (m : Int) (n74 : Nat) (c74 : Nat) (hi84 : k ≤ nS ∧ runTo x S k = (o, m) ∧ ChestOK o ∧ 0 ≤ m ∧ m ≤ (k : Int)) (hl89 : n74 = (o.Stack).length) (hq91 : ChestOK o) (hq92 : o.Stack.length ≤ 10) (hq93 : 0 ≤ m ∧ m ≤ (k : Int)) (h94 : ¬ ((k : Int) < (nS : Int))) : m = (runF x S).2.1 := by
  subst hleS
  first | (rw [runF_no ‹_›]; done) | (rw [runF_no ‹_›]; rfl) | (rw [runF_yes ‹_› (And.left (And.right ‹_ ∧ runTo _ _ _ = _ ∧ _›)) (by omega)]; done) | (rw [runF_yes ‹_› (And.left (And.right ‹_ ∧ runTo _ _ _ = _ ∧ _›)) (by omega)]; rfl)
theorem z_c_impl_RunChest_162 (x : Chest) (nx_Stack : Nat) (hbdx_Stack : (nx_Stack : Int) ≤ 9223372036854775807) (hlex_Stack : nx_Stack = x.Stack.length) (S : List ChestStep) (nS : Nat) (hbdS : (nS : Int) ≤ 9223372036854775807) (hleS : nS = S.length) (h30 : ¬ ((¬ (ChestOK x)) ∨ (40 < (nS : Int)))) (hq45 : ChestOK x) (hq46 : ¬ (40 < (nS : Int))) (hq47 : x.Stack.length ≤ 10) (hq48 : x.Stack.length ≤ 10 ∧ (0 ≤ x.State ∧ x.State ≤ 2) ∧ (0 ≤ x.Dust ∧ x.Dust ≤ 100) ∧ (0 ≤ x.Laid ∧ x.Laid ≤ 9999) ∧ (0 ≤ x.Given ∧ x.Given ≤ 9999) ∧ x.Laid - x.Given = (x.Stack.length : Int)) (n52 : Nat) (hl57 : n52 = (x.Stack).length) (hl58 : (n52 : Int) ≤ 9223372036854775807) (k : Nat) (o : Chest) (m : Int) (n74 : Nat) (c74 : Nat) (hi84 : k ≤ nS ∧ runTo x S k = (o, m) ∧ ChestOK o ∧ 0 ≤ m ∧ m ≤ (k : Int)) (hl89 : n74 = (o.Stack).length) (hq91 : ChestOK o) (hq92 : o.Stack.length ≤ 10) (hq93 : 0 ≤ m ∧ m ≤ (k : Int)) (h94 : ¬ ((k : Int) < (nS : Int))) : true = (runF x S).2.2 := by
  subst hleS
  first | (rw [runF_no ‹_›]; done) | (rw [runF_no ‹_›]; rfl) | (rw [runF_yes ‹_› (And.left (And.right ‹_ ∧ runTo _ _ _ = _ ∧ _›)) (by omega)]; done) | (rw [runF_yes ‹_› (And.left (And.right ‹_ ∧ runTo _ _ _ = _ ∧ _›)) (by omega)]; rfl)
theorem c_impl_RunChest (w : World) (x : Chest) {Ax_Stack : Option Addr} {nx_Stack cx_Stack Bx_Stack : Nat} (hx_Stack : SlR w Bx_Stack encI 1 Ax_Stack nx_Stack cx_Stack x.Stack) {AS : Option Addr} {nS cS BS : Nat}  (S : List ChestStep) (hS : SlR w BS encChestStep 2 AS nS cS S) : Calls Tryd.prog 19 #[.agg (List.toArray [.int .i64 x.State, .int .i64 x.Key, .slice Ax_Stack nx_Stack cx_Stack, .int .i64 x.Dust, .int .i64 x.Laid, .int .i64 x.Given]), .slice AS nS cS] w fun e w' => ∃ (A1' : Option Addr) (n1' c1' : Nat), e = .returned (.tuple (List.toArray [.agg (List.toArray [.int .i64 (((runF x S).1).State), .int .i64 (((runF x S).1).Key), .slice A1' n1' c1', .int .i64 (((runF x S).1).Dust), .int .i64 (((runF x S).1).Laid), .int .i64 (((runF x S).1).Given)]), .int .i64 ((runF x S).2.1), .bool ((runF x S).2.2)])) ∧ SlO w' w.heap.size encI 1 3 A1' n1' c1' (((runF x S).1).Stack) ∧ Lo w w' := by
  refine calls_W 43 Tryd.func19 rfl rfl rfl ?_
  have hbdx_Stack := hx_Stack.bound
  have hlex_Stack := hx_Stack.len
  have hBbx_Stack := hx_Stack.bd
  have hbdS := hS.bound
  have hleS := hS.len
  have hBbS := hS.bd
  refine W.seq ?_
  refine W.regS (SR.box (v := .agg (List.toArray _)) (l := [.int .i64 x.State, .int .i64 x.Key, .slice Ax_Stack nx_Stack cx_Stack, .int .i64 x.Dust, .int .i64 x.Laid, .int .i64 x.Given]) rfl rfl ?_)
  intro g1 w2 hg3 hk4 hs5 hb6
  have hz7 := hk4.size
  have hB8 := (Lo.refl w).lo hk4
  refine SR.alloc (l := [.int .i64 0, .int .i64 0, .slice none 0 0, .int .i64 0, .int .i64 0, .int .i64 0]) tz40 rfl ?_
  intro g9 w10 hg11 hk12 hs13 hb14
  have hz15 := hk12.size
  have hB16 := hB8.lo hk12
  refine SR.q' (r_as (v := .int .i64 0) rfl) <| SR.q' (r_as (v := .bool false) rfl) <| SR.nil ?_
  refine W.seq ?_
  refine W.seq ?_
  refine W.regJS (fun f' w' => At f' [(1, .slice AS nS cS), (2, .pointer (some ((⟨g1, 0, none⟩ : Addr)))), (4, .pointer (some ((⟨g9, 0, none⟩ : Addr)))), (5, .int .i64 0), (6, .bool false), (20, .bool (decide ((¬ (ChestOK x)) ∨ (40 < (nS : Int)))))] ∧ Lo w10 w') ?_ ?_
  · refine SR.q' (r_lda (l := [.int .i64 x.State, .int .i64 x.Key, .slice Ax_Stack nx_Stack cx_Stack, .int .i64 x.Dust, .int .i64 x.Laid, .int .i64 x.Given]) agg40 rfl (fun _ _ hu => ((hb6).lo hk12).cell hu) rfl) <| SR.call ent26 (c_impl_IsChest w10 x ((((hx_Stack).lo hk4).lo hk12))) rfl ?_
    rintro e w17 ⟨rfl, hk18⟩
    refine ⟨_, rfl, ?_⟩
    have hz19 := hk18.size
    have hB20 := hB16.lo hk18
    refine SR.q' (r_not rfl) <| SR.q' (r_mv (v := .bool _) rfl) <| SR.splitN (fun h21 => ?_) (fun h21 => ?_)
    · refine SR.s' rfl <| SR.s' rfl <| SR.s' rfl <| SR.q' (r_pick true rfl (v := .bool true) rfl) <| SR.nil ?_
      exact ⟨_, rfl, ⟨⟨rfl, rfl, rfl, rfl, rfl, (eDT ((jmf h21).1 trivial)), trivial⟩, (hk18)⟩⟩
    · have hq22 := chest_len h21
      have hq23 := chest_rng h21
      refine SR.g' rfl (r_mv (v := .slice _ _ _) rfl) <| SR.g' rfl (r_len und53 rfl) <| SR.g' rfl (r_gt rfl rfl) <| SR.q' (r_pick false rfl (v := .bool _) rfl) <| SR.nil ?_
      exact ⟨_, rfl, ⟨⟨rfl, rfl, rfl, rfl, rfl, (eDD (jmt h21)), trivial⟩, (hk18)⟩⟩
  rintro f24 w25 ⟨hat26, hk27⟩
  rw [← sets_of_at hat26]
  have hz28 := hk27.size
  have hB29 := hB16.lo hk27
  refine W.cond_d rfl (fun h30 => ?_) (fun h30 => ?_)
  · refine W.seq ?_
    refine W.regS (SR.q' (r_build (vs := []) rfl (bld40_)) <| SR.store (o := 0) (vs := [.int .i64 0, .int .i64 0, .slice none 0 0, .int .i64 0, .int .i64 0, .int .i64 0]) agg40.2 rfl rfl rfl rfl ((hb14).lo hk27) (Nat.le_of_ble_eq_true rfl) rfl ?_)
    intro w31 hk32 hs33 hb34
    have hz35 := hk32.size
    have hB36 := hB29.new hk32 (by omega)
    refine SR.q' (r_as (v := .int .i64 0) rfl) <| SR.q' (r_as (v := .bool false) rfl) <| SR.nil ?_
    refine W.ret ?_
    refine retCTT rfl rfl agg40 (hb34) rfl (v := .int .i64 _) rfl (v' := .bool _) rfl ?_
    exact ⟨none, 0, 0, eR (eT3 (eA (eC (eI (z_c_impl_RunChest_38 x nx_Stack hbdx_Stack hlex_Stack S nS hbdS hleS h30)) (eC (eI (z_c_impl_RunChest_39 x nx_Stack hbdx_Stack hlex_Stack S nS hbdS hleS h30)) (eC rfl (eC (eI (z_c_impl_RunChest_40 x nx_Stack hbdx_Stack hlex_Stack S nS hbdS hleS h30)) (eC (eI (z_c_impl_RunChest_41 x nx_Stack hbdx_Stack hlex_Stack S nS hbdS hleS h30)) (eC (eI (z_c_impl_RunChest_42 x nx_Stack hbdx_Stack hlex_Stack S nS hbdS hleS h30)) rfl))))))) (eI (z_c_impl_RunChest_43 x nx_Stack hbdx_Stack hlex_Stack S nS hbdS hleS h30)) (eB (z_c_impl_RunChest_44 x nx_Stack hbdx_Stack hlex_Stack S nS hbdS hleS h30))), (SlO.eqv (SlO.nil (e := 3) (enc := encI) (fun _ => rfl) (by omega)) (z_c_impl_RunChest_37 x nx_Stack hbdx_Stack hlex_Stack S nS hbdS hleS h30)), hB36⟩
  · have hq45 : ChestOK x := (Classical.not_not.1 (not_or.1 h30).1)
    have hq46 : ¬ (40 < (nS : Int)) := (not_or.1 h30).2
    have hq47 := chest_len hq45
    have hq48 := chest_rng hq45
    refine W.skip ?_
    refine W.seq ?_
    refine W.regS (SR.q' (r_lda (l := [.int .i64 x.State, .int .i64 x.Key, .slice Ax_Stack nx_Stack cx_Stack, .int .i64 x.Dust, .int .i64 x.Laid, .int .i64 x.Given]) agg40 rfl (fun _ _ hu => (((hb6).lo hk12).lo hk27).cell hu) rfl) <| SR.call ent62 (c__impl_Chest__own w25 x (((((hx_Stack).lo hk4).lo hk12).lo hk27)) (by omega)) rfl ?_)
    rintro e w49 ⟨A51, n52, c53, rfl, hO54, hk50⟩
    refine ⟨_, rfl, ?_⟩
    have hz55 := hk50.size
    have hB56 := hB29.lo hk50
    have hl57 := hO54.len
    have hl58 := hO54.rd.bound
    refine SR.alloc (l := [.int .i64 0, .int .i64 0, .slice none 0 0, .int .i64 0, .int .i64 0, .int .i64 0]) tz40 rfl ?_
    intro g59 w60 hg61 hk62 hs63 hb64
    have hz65 := hk62.size
    have hB66 := hB56.lo hk62
    have hd67 : ¬ A51 = some ⟨g59, 0, none⟩ := fun e' => by have := (hO54).base_le e'; omega
    refine SR.store (o := 0) (vs := [.int .i64 x.State, .int .i64 x.Key, .slice A51 n52 c53, .int .i64 x.Dust, .int .i64 x.Laid, .int .i64 x.Given]) agg40.2 rfl rfl rfl rfl (hb64) (Nat.le_of_ble_eq_true rfl) rfl ?_
    intro w68 hk69 hs70 hb71
    have hz72 := hk69.size
    have hB73 := hB66.new hk69 (by omega)
    refine SR.q' (r_as (v := .int .i64 0) rfl) <| SR.nil ?_
    refine W.seq ?_
    refine W.seq ?_
    refine W.regS (SR.q' (r_mv (v := .slice _ _ _) rfl) <| SR.q' (r_len und53 rfl) <| SR.q' (r_mv (v := .int .i64 0) rfl) <| SR.nil ?_)
    refine W.block ?_
    refine W.loop (σ := Nat × Chest × Int × (Option Addr) × Nat × Nat) (fun g => [(4, .pointer (some ((⟨g9, 0, none⟩ : Addr)))), (5, .int .i64 0), (6, .bool false), (7, .pointer (some ((⟨g59, 0, none⟩ : Addr)))), (8, .int .i64 g.2.2.1), (24, .slice AS nS cS), (25, .int .i64 (nS : Int)), (26, .int .i64 (g.1 : Int))]) (fun g w' => (Lo w w') ∧ (Blk w' g9 40 [.int .i64 0, .int .i64 0, .slice none 0 0, .int .i64 0, .int .i64 0, .int .i64 0]) ∧ (Blk w' g59 40 [.int .i64 g.2.1.State, .int .i64 g.2.1.Key, .slice g.2.2.2.1 g.2.2.2.2.1 g.2.2.2.2.2, .int .i64 g.2.1.Dust, .int .i64 g.2.1.Laid, .int .i64 g.2.1.Given]) ∧ (SlR w' BS encChestStep 2 AS nS cS S) ∧ (SlO w' w.heap.size encI 1 3 g.2.2.2.1 g.2.2.2.2.1 g.2.2.2.2.2 g.2.1.Stack) ∧ (¬ g.2.2.2.1 = some ⟨g9, 0, none⟩) ∧ (¬ g.2.2.2.1 = some ⟨g59, 0, none⟩) ∧ (g.1 ≤ nS ∧ runTo x S g.1 = (g.2.1, g.2.2.1) ∧ ChestOK g.2.1 ∧ 0 ≤ g.2.2.1 ∧ g.2.2.1 ≤ (g.1 : Int))) (fun g => nS - g.1) (0, x, (0 : Int), A51, n52, c53) ?_ ?_ ?_
    · exact ⟨rfl, rfl, rfl, rfl, rfl, rfl, rfl, rfl, trivial⟩
    · show (Lo w w68) ∧ (Blk w68 g9 40 [.int .i64 0, .int .i64 0, .slice none 0 0, .int .i64 0, .int .i64 0, .int .i64 0]) ∧ (Blk w68 g59 40 [.int .i64 x.State, .int .i64 x.Key, .slice A51 n52 c53, .int .i64 x.Dust, .int .i64 x.Laid, .int .i64 x.Given]) ∧ (SlR w68 BS encChestStep 2 AS nS cS S) ∧ (SlO w68 w.heap.size encI 1 3 A51 n52 c53 x.Stack) ∧ (¬ A51 = some ⟨g9, 0, none⟩) ∧ (¬ A51 = some ⟨g59, 0, none⟩) ∧ (0 ≤ nS ∧ runTo x S 0 = (x, (0 : Int)) ∧ ChestOK x ∧ 0 ≤ (0 : Int) ∧ (0 : Int) ≤ (0 : Int))
      exact ⟨hB73, ((((hb14).lo hk27).lo hk50).lo hk62).kp hk69 (fun e' => by have e'' : g9 = g59 := e'; omega), (hb71), ((((((hS).lo hk4).lo hk12).lo hk27).lo hk50).lo hk62).kp hk69 (fun b_ hb e' => by have e'' : b_ = g59 := e'; omega), ((((hO54).lo hk62).kp hk69 (fun b_ hb e' => hd67 (by have e'' : b_ = g59 := e'; rw [← e'']; exact hb))).down (by omega)), (fun e' => by have := (((hO54).lo hk62).kp hk69 (fun b_ hb e' => hd67 (by have e'' : b_ = g59 := e'; rw [← e'']; exact hb))).base_le e'; omega), hd67, (z_c_impl_RunChest_75 x nx_Stack hbdx_Stack hlex_Stack S nS hbdS hleS h30 hq45 hq46 hq47 hq48 n52 hl57 hl58)⟩
    · rintro ⟨k, o, m, A74, n74, c74⟩ f76 w77 hP79
      obtain ⟨hB78, hm80, hm81, hm82, hO83, hd85, hd86, hi84⟩ : (Lo w w77) ∧ (Blk w77 g9 40 [.int .i64 0, .int .i64 0, .slice none 0 0, .int .i64 0, .int .i64 0, .int .i64 0]) ∧ (Blk w77 g59 40 [.int .i64 o.State, .int .i64 o.Key, .slice A74 n74 c74, .int .i64 o.Dust, .int .i64 o.Laid, .int .i64 o.Given]) ∧ (SlR w77 BS encChestStep 2 AS nS cS S) ∧ (SlO w77 w.heap.size encI 1 3 A74 n74 c74 o.Stack) ∧ (¬ A74 = some ⟨g9, 0, none⟩) ∧ (¬ A74 = some ⟨g59, 0, none⟩) ∧ (k ≤ nS ∧ runTo x S k = (o, m) ∧ ChestOK o ∧ 0 ≤ m ∧ m ≤ (k : Int)) := hP79
      refine (?_ : W _ _ _ _ _ (act _ (sets f76 [(4, .pointer (some ((⟨g9, 0, none⟩ : Addr)))), (5, .int .i64 0), (6, .bool false), (7, .pointer (some ((⟨g59, 0, none⟩ : Addr)))), (8, .int .i64 m), (24, .slice AS nS cS), (25, .int .i64 (nS : Int)), (26, .int .i64 (k : Int))])) _)
      have hzw77 := hB78.size
      have hl87 := hm80.lt
      have hl88 := hm81.lt
      have hl89 := hO83.len
      have hl90 := hO83.rd.bound
      have hq91 : ChestOK o := hi84.2.2.1
      have hq92 : o.Stack.length ≤ 10 := (chest_rng hi84.2.2.1).1
      have hq93 : 0 ≤ m ∧ m ≤ (k : Int) := hi84.2.2.2
      refine W.seq ?_
      refine W.regS (SR.q' (r_lt rfl rfl) <| SR.nil ?_)
      refine W.seq ?_
      refine W.cond_d rfl (fun h94 => ?_) (fun h94 => ?_)
      · refine W.skip ?_
        refine W.seq ?_
        refine W.block ?_
        refine W.seq ?_
        have hx96 := (hm82).elem (i := k) (by omega)
        refine W.regS (SR.q' (r_ixR tsl53 (hm82) rfl rfl (by omega)) <| SR.q' (r_lda (l := encChestStep (gt S k)) agg48 rfl (fun _ _ hu => (hm82).cell hx96 hu) ((hm82).esz _)) <| SR.alloc (l := [.int .i64 0, .int .i64 0]) tz48 rfl ?_)
        intro g97 w98 hg99 hk100 hs101 hb102
        have hz103 := hk100.size
        have hB104 := hB78.lo hk100
        have hd105 : ¬ A74 = some ⟨g97, 0, none⟩ := fun e' => by have := (hO83).base_le e'; omega
        refine SR.store (o := 0) (vs := [.int .i64 ((gt S k).Kind), .int .i64 ((gt S k).Value)]) agg48.2 rfl rfl rfl rfl (hb102) (Nat.le_of_ble_eq_true rfl) rfl ?_
        intro w106 hk107 hs108 hb109
        have hz110 := hk107.size
        have hB111 := hB104.new hk107 (by omega)
        refine SR.nil ?_
        refine W.seq ?_
        refine W.regS (SR.q' (r_lda (l := [.int .i64 o.State, .int .i64 o.Key, .slice A74 n74 c74, .int .i64 o.Dust, .int .i64 o.Laid, .int .i64 o.Given]) agg40 rfl (fun _ _ hu => (((hm81).lo hk100).kp hk107 (fun e' => by have e'' : g59 = g97 := e'; omega)).cell hu) rfl) <| SR.q' (r_lda (l := [.int .i64 ((gt S k).Kind), .int .i64 ((gt S k).Value)]) agg48 rfl (fun _ _ hu => (hb109).cell hu) rfl) <| SR.call ent60 (c__impl_Chest__stepped w106 o (((((hO83).lo hk100).kp hk107 (fun b_ hb e' => hd105 (by have e'' : b_ = g97 := e'; rw [← e'']; exact hb))).rd)) (gt S k) (by assumption)) rfl ?_)
        rintro e w112 ⟨A114, n115, c116, rfl, hO117, hk113⟩
        refine ⟨_, rfl, ?_⟩
        have hz118 := hk113.size
        have hB119 := hB111.lo hk113
        have hl120 := hO117.len
        have hl121 := hO117.rd.bound
        refine SR.q' (r_mv (v := .tuple (List.toArray _)) rfl) <| SR.q' (r_ext (v := .agg (List.toArray _)) rfl rfl) <| SR.q' (r_ext (v := .bool _) rfl rfl) <| SR.alloc (l := [.int .i64 0, .int .i64 0, .slice none 0 0, .int .i64 0, .int .i64 0, .int .i64 0]) tz40 rfl ?_
        intro g122 w123 hg124 hk125 hs126 hb127
        have hz128 := hk125.size
        have hB129 := hB119.lo hk125
        have hd130 : ¬ A74 = some ⟨g122, 0, none⟩ := fun e' => by have := ((((hO83).lo hk100).kp hk107 (fun b_ hb e' => hd105 (by have e'' : b_ = g97 := e'; rw [← e'']; exact hb))).lo hk113).base_le e'; omega
        have hd131 : ¬ A114 = some ⟨g122, 0, none⟩ := fun e' => by have := (hO117).base_le e'; omega
        refine SR.store (o := 0) (vs := [.int .i64 (((impl_Chest_stepped o (gt S k)).1).State), .int .i64 (((impl_Chest_stepped o (gt S k)).1).Key), .slice A114 n115 c116, .int .i64 (((impl_Chest_stepped o (gt S k)).1).Dust), .int .i64 (((impl_Chest_stepped o (gt S k)).1).Laid), .int .i64 (((impl_Chest_stepped o (gt S k)).1).Given)]) agg40.2 rfl rfl rfl rfl (hb127) (Nat.le_of_ble_eq_true rfl) rfl ?_
        intro w132 hk133 hs134 hb135
        have hz136 := hk133.size
        have hB137 := hB129.new hk133 (by omega)
        refine SR.q' (r_as (v := .bool _) rfl) <| SR.nil ?_
        refine W.seq ?_
        refine W.regS (SR.q' (r_mv (v := .bool _) rfl) <| SR.nil ?_)
        refine W.cond_b rfl (fun h138 => ?_) (fun h138 => ?_)
        · refine W.seq ?_
          refine W.regS (SR.q' (r_lda (l := [.int .i64 (((impl_Chest_stepped o (gt S k)).1).State), .int .i64 (((impl_Chest_stepped o (gt S k)).1).Key), .slice A114 n115 c116, .int .i64 (((impl_Chest_stepped o (gt S k)).1).Dust), .int .i64 (((impl_Chest_stepped o (gt S k)).1).Laid), .int .i64 (((impl_Chest_stepped o (gt S k)).1).Given)]) agg40 rfl (fun _ _ hu => (hb135).cell hu) rfl) <| SR.store (o := 0) (vs := [.int .i64 (((impl_Chest_stepped o (gt S k)).1).State), .int .i64 (((impl_Chest_stepped o (gt S k)).1).Key), .slice A114 n115 c116, .int .i64 (((impl_Chest_stepped o (gt S k)).1).Dust), .int .i64 (((impl_Chest_stepped o (gt S k)).1).Laid), .int .i64 (((impl_Chest_stepped o (gt S k)).1).Given)]) agg40.2 rfl rfl rfl rfl ((((((hm81).lo hk100).kp hk107 (fun e' => by have e'' : g59 = g97 := e'; omega)).lo hk113).lo hk125).kp hk133 (fun e' => by have e'' : g59 = g122 := e'; omega)) (Nat.le_of_ble_eq_true rfl) rfl ?_)
          intro w139 hk140 hs141 hb142
          have hz143 := hk140.size
          have hB144 := hB137.new hk140 (by omega)
          refine SR.nil ?_
          refine W.regS (SR.q' (r_mv (v := .int .i64 _) rfl) <| SR.q' (r_add rfl rfl (by omega)) <| SR.q' (r_as (v := .int .i64 _) rfl) <| SR.nil ?_)
          refine W.regS (SR.q' (r_add rfl rfl (by omega)) <| SR.q' (r_mv (v := .int .i64 _) rfl) <| SR.nil ?_)
          refine ⟨(k + 1, ((impl_Chest_stepped o (gt S k)).1), m + 1, A114, n115, c116), _, rfl, ⟨rfl, rfl, rfl, rfl, rfl, rfl, rfl, rfl, trivial⟩, (show (Lo w w139) ∧ (Blk w139 g9 40 [.int .i64 0, .int .i64 0, .slice none 0 0, .int .i64 0, .int .i64 0, .int .i64 0]) ∧ (Blk w139 g59 40 [.int .i64 (((impl_Chest_stepped o (gt S k)).1).State), .int .i64 (((impl_Chest_stepped o (gt S k)).1).Key), .slice A114 n115 c116, .int .i64 (((impl_Chest_stepped o (gt S k)).1).Dust), .int .i64 (((impl_Chest_stepped o (gt S k)).1).Laid), .int .i64 (((impl_Chest_stepped o (gt S k)).1).Given)]) ∧ (SlR w139 BS encChestStep 2 AS nS cS S) ∧ (SlO w139 w.heap.size encI 1 3 A114 n115 c116 (((impl_Chest_stepped o (gt S k)).1).Stack)) ∧ (¬ A114 = some ⟨g9, 0, none⟩) ∧ (¬ A114 = some ⟨g59, 0, none⟩) ∧ (k + 1 ≤ nS ∧ runTo x S (k + 1) = (((impl_Chest_stepped o (gt S k)).1), m + 1) ∧ ChestOK ((impl_Chest_stepped o (gt S k)).1) ∧ 0 ≤ m + 1 ∧ m + 1 ≤ (k + 1 : Int)) from ⟨hB144, ((((((hm80).lo hk100).kp hk107 (fun e' => by have e'' : g9 = g97 := e'; omega)).lo hk113).lo hk125).kp hk133 (fun e' => by have e'' : g9 = g122 := e'; omega)).kp hk140 (fun e' => by have e'' : g9 = g59 := e'; omega), (hb142), ((((((hm82).lo hk100).kp hk107 (fun b_ hb e' => by have e'' : b_ = g97 := e'; omega)).lo hk113).lo hk125).kp hk133 (fun b_ hb e' => by have e'' : b_ = g122 := e'; omega)).kp hk140 (fun b_ hb e' => by have e'' : b_ = g59 := e'; omega), (((((hO117).lo hk125).kp hk133 (fun b_ hb e' => hd131 (by have e'' : b_ = g122 := e'; rw [← e'']; exact hb))).kp hk140 (fun b_ hb e' => by have e'' : b_ = g59 := e'; have := (((hO117).lo hk125).kp hk133 (fun b_ hb e' => hd131 (by have e'' : b_ = g122 := e'; rw [← e'']; exact hb))).base_le hb; omega)).down (by omega)), (fun e' => by have := ((((hO117).lo hk125).kp hk133 (fun b_ hb e' => hd131 (by have e'' : b_ = g122 := e'; rw [← e'']; exact hb))).kp hk140 (fun b_ hb e' => by have e'' : b_ = g59 := e'; have := (((hO117).lo hk125).kp hk133 (fun b_ hb e' => hd131 (by have e'' : b_ = g122 := e'; rw [← e'']; exact hb))).base_le hb; omega)).base_le e'; omega), (fun e' => by have := ((((hO117).lo hk125).kp hk133 (fun b_ hb e' => hd131 (by have e'' : b_ = g122 := e'; rw [← e'']; exact hb))).kp hk140 (fun b_ hb e' => by have e'' : b_ = g59 := e'; have := (((hO117).lo hk125).kp hk133 (fun b_ hb e' => hd131 (by have e'' : b_ = g122 := e'; rw [← e'']; exact hb))).base_le hb; omega)).base_le e'; omega), ?_⟩), ?_⟩
          · exact (z_c_impl_RunChest_145 x nx_Stack hbdx_Stack hlex_Stack S nS hbdS hleS h30 hq45 hq46 hq47 hq48 n52 hl57 hl58 k o m n74 c74 hi84 hl89 hq91 hq92 hq93 h94 hx96 n115 hl120 hl121 h138)
          · exact (z_c_impl_RunChest_146 x nx_Stack hbdx_Stack hlex_Stack S nS hbdS hleS h30 hq45 hq46 hq47 hq48 n52 hl57 hl58 k o m n74 c74 hi84 hl89 hq91 hq92 hq93 h94 hx96 n115 hl120 hl121 h138)
        · refine W.skip ?_
          refine W.regS (SR.q' (r_add rfl rfl (by omega)) <| SR.q' (r_mv (v := .int .i64 _) rfl) <| SR.nil ?_)
          refine ⟨(k + 1, o, m, A74, n74, c74), _, rfl, ⟨rfl, rfl, rfl, rfl, rfl, rfl, rfl, rfl, trivial⟩, (show (Lo w w132) ∧ (Blk w132 g9 40 [.int .i64 0, .int .i64 0, .slice none 0 0, .int .i64 0, .int .i64 0, .int .i64 0]) ∧ (Blk w132 g59 40 [.int .i64 o.State, .int .i64 o.Key, .slice A74 n74 c74, .int .i64 o.Dust, .int .i64 o.Laid, .int .i64 o.Given]) ∧ (SlR w132 BS encChestStep 2 AS nS cS S) ∧ (SlO w132 w.heap.size encI 1 3 A74 n74 c74 o.Stack) ∧ (¬ A74 = some ⟨g9, 0, none⟩) ∧ (¬ A74 = some ⟨g59, 0, none⟩) ∧ (k + 1 ≤ nS ∧ runTo x S (k + 1) = (o, m) ∧ ChestOK o ∧ 0 ≤ m ∧ m ≤ (k + 1 : Int)) from ⟨hB137, (((((hm80).lo hk100).kp hk107 (fun e' => by have e'' : g9 = g97 := e'; omega)).lo hk113).lo hk125).kp hk133 (fun e' => by have e'' : g9 = g122 := e'; omega), ((((((hm81).lo hk100).kp hk107 (fun e' => by have e'' : g59 = g97 := e'; omega)).lo hk113).lo hk125).kp hk133 (fun e' => by have e'' : g59 = g122 := e'; omega)), (((((hm82).lo hk100).kp hk107 (fun b_ hb e' => by have e'' : b_ = g97 := e'; omega)).lo hk113).lo hk125).kp hk133 (fun b_ hb e' => by have e'' : b_ = g122 := e'; omega), ((((((hO83).lo hk100).kp hk107 (fun b_ hb e' => hd105 (by have e'' : b_ = g97 := e'; rw [← e'']; exact hb))).lo hk113).lo hk125).kp hk133 (fun b_ hb e' => hd130 (by have e'' : b_ = g122 := e'; rw [← e'']; exact hb))), hd85, hd86, ?_⟩), ?_⟩
          · exact (z_c_impl_RunChest_147 x nx_Stack hbdx_Stack hlex_Stack S nS hbdS hleS h30 hq45 hq46 hq47 hq48 n52 hl57 hl58 k o m n74 c74 hi84 hl89 hq91 hq92 hq93 h94 hx96 n115 hl120 hl121 h138)
          · exact (z_c_impl_RunChest_148 x nx_Stack hbdx_Stack hlex_Stack S nS hbdS hleS h30 hq45 hq46 hq47 hq48 n52 hl57 hl58 k o m n74 c74 hi84 hl89 hq91 hq92 hq93 h94 hx96 n115 hl120 hl121 h138)
      · refine W.exit (xin_here ?_)
        refine W.seq ?_
        refine W.regS (SR.q' (r_lda (l := [.int .i64 o.State, .int .i64 o.Key, .slice A74 n74 c74, .int .i64 o.Dust, .int .i64 o.Laid, .int .i64 o.Given]) agg40 rfl (fun _ _ hu => (hm81).cell hu) rfl) <| SR.q' (r_mv (v := .int .i64 _) rfl) <| SR.store (o := 0) (vs := [.int .i64 o.State, .int .i64 o.Key, .slice A74 n74 c74, .int .i64 o.Dust, .int .i64 o.Laid, .int .i64 o.Given]) agg40.2 rfl rfl rfl rfl (hm80) (Nat.le_of_ble_eq_true rfl) rfl ?_)
        intro w149 hk150 hs151 hb152
        have hz153 := hk150.size
        have hB154 := hB78.new hk150 (by omega)
        refine SR.q' (r_as (v := .int .i64 _) rfl) <| SR.q' (r_as (v := .bool true) rfl) <| SR.nil ?_
        refine W.ret ?_
        refine retCTT rfl rfl agg40 (hb152) rfl (v := .int .i64 _) rfl (v' := .bool _) rfl ?_
        exact ⟨A74, n74, c74, eR (eT3 (eA (eC (eI (z_c_impl_RunChest_156 x nx_Stack hbdx_Stack hlex_Stack S nS hbdS hleS h30 hq45 hq46 hq47 hq48 n52 hl57 hl58 k o m n74 c74 hi84 hl89 hq91 hq92 hq93 h94)) (eC (eI (z_c_impl_RunChest_157 x nx_Stack hbdx_Stack hlex_Stack S nS hbdS hleS h30 hq45 hq46 hq47 hq48 n52 hl57 hl58 k o m n74 c74 hi84 hl89 hq91 hq92 hq93 h94)) (eC rfl (eC (eI (z_c_impl_RunChest_158 x nx_Stack hbdx_Stack hlex_Stack S nS hbdS hleS h30 hq45 hq46 hq47 hq48 n52 hl57 hl58 k o m n74 c74 hi84 hl89 hq91 hq92 hq93 h94)) (eC (eI (z_c_impl_RunChest_159 x nx_Stack hbdx_Stack hlex_Stack S nS hbdS hleS h30 hq45 hq46 hq47 hq48 n52 hl57 hl58 k o m n74 c74 hi84 hl89 hq91 hq92 hq93 h94)) (eC (eI (z_c_impl_RunChest_160 x nx_Stack hbdx_Stack hlex_Stack S nS hbdS hleS h30 hq45 hq46 hq47 hq48 n52 hl57 hl58 k o m n74 c74 hi84 hl89 hq91 hq92 hq93 h94)) rfl))))))) (eI (z_c_impl_RunChest_161 x nx_Stack hbdx_Stack hlex_Stack S nS hbdS hleS h30 hq45 hq46 hq47 hq48 n52 hl57 hl58 k o m n74 c74 hi84 hl89 hq91 hq92 hq93 h94)) (eB (z_c_impl_RunChest_162 x nx_Stack hbdx_Stack hlex_Stack S nS hbdS hleS h30 hq45 hq46 hq47 hq48 n52 hl57 hl58 k o m n74 c74 hi84 hl89 hq91 hq92 hq93 h94))), (SlO.eqv (((hO83).kp hk150 (fun b_ hb e' => hd85 (by have e'' : b_ = g9 := e'; rw [← e'']; exact hb))).down (by omega)) (z_c_impl_RunChest_155 x nx_Stack hbdx_Stack hlex_Stack S nS hbdS hleS h30 hq45 hq46 hq47 hq48 n52 hl57 hl58 k o m n74 c74 hi84 hl89 hq91 hq92 hq93 h94)), hB154⟩

open Classical in
noncomputable def impl_TopMap (x : Chest) : Int × Bool :=
  if (¬ (ChestOK x)) ∨ ((x.Stack.length : Int) = 0) then (0, false) else ((gt x.Stack (x.Stack.length - 1)), true)
theorem c_impl_TopMap (w : World) (x : Chest) {Ax_Stack : Option Addr} {nx_Stack cx_Stack Bx_Stack : Nat} (hx_Stack : SlR w Bx_Stack encI 1 Ax_Stack nx_Stack cx_Stack x.Stack) : Calls Tryd.prog 21 #[.agg (List.toArray [.int .i64 x.State, .int .i64 x.Key, .slice Ax_Stack nx_Stack cx_Stack, .int .i64 x.Dust, .int .i64 x.Laid, .int .i64 x.Given])] w fun e w' => e = .returned (.tuple (List.toArray [.int .i64 ((impl_TopMap x).1), .bool ((impl_TopMap x).2)])) ∧ Lo w w' := by
  refine calls_W 21 Tryd.func21 rfl rfl rfl ?_
  have hbdx_Stack := hx_Stack.bound
  have hlex_Stack := hx_Stack.len
  have hBbx_Stack := hx_Stack.bd
  have hbdx_Stack := hx_Stack.bound
  have hlex_Stack := hx_Stack.len
  have hBbx_Stack := hx_Stack.bd
  refine W.seq ?_
  refine W.regS (SR.box (v := .agg (List.toArray _)) (l := [.int .i64 x.State, .int .i64 x.Key, .slice Ax_Stack nx_Stack cx_Stack, .int .i64 x.Dust, .int .i64 x.Laid, .int .i64 x.Given]) rfl rfl ?_)
  intro g1 w2 hg3 hk4 hs5 hb6
  have hz7 := hk4.size
  have hB8 := (Lo.refl w).lo hk4
  refine SR.q' (r_as (v := .int .i64 0) rfl) <| SR.q' (r_as (v := .bool false) rfl) <| SR.nil ?_
  refine W.seq ?_
  refine W.seq ?_
  refine W.regJS (fun f' w' => At f' [(1, .pointer (some ((⟨g1, 0, none⟩ : Addr)))), (2, .int .i64 0), (3, .bool false), (12, .bool (decide ((¬ (ChestOK x)) ∨ ((nx_Stack : Int) = 0))))] ∧ Lo w2 w') ?_ ?_
  · refine SR.q' (r_lda (l := [.int .i64 x.State, .int .i64 x.Key, .slice Ax_Stack nx_Stack cx_Stack, .int .i64 x.Dust, .int .i64 x.Laid, .int .i64 x.Given]) agg40 rfl (fun _ _ hu => (hb6).cell hu) rfl) <| SR.call ent26 (c_impl_IsChest w2 x (((hx_Stack).lo hk4))) rfl ?_
    rintro e w9 ⟨rfl, hk10⟩
    refine ⟨_, rfl, ?_⟩
    have hz11 := hk10.size
    have hB12 := hB8.lo hk10
    refine SR.q' (r_not rfl) <| SR.q' (r_mv (v := .bool _) rfl) <| SR.splitN (fun h13 => ?_) (fun h13 => ?_)
    · refine SR.s' rfl <| SR.s' rfl <| SR.s' rfl <| SR.s' rfl <| SR.q' (r_pick true rfl (v := .bool true) rfl) <| SR.nil ?_
      exact ⟨_, rfl, ⟨⟨rfl, rfl, rfl, (eDT ((jmf h13).1 trivial)), trivial⟩, (hk10)⟩⟩
    · have hq14 := chest_len h13
      have hq15 := chest_rng h13
      refine SR.g' rfl (r_fa fa40_2 rfl) <| SR.g' rfl (r_ld (v := .slice Ax_Stack nx_Stack cx_Stack) sca38 rfl (((hb6).lo hk10).cell rfl)) <| SR.g' rfl (r_len und38 rfl) <| SR.g' rfl (r_eq rfl rfl) <| SR.q' (r_pick false rfl (v := .bool _) rfl) <| SR.nil ?_
      exact ⟨_, rfl, ⟨⟨rfl, rfl, rfl, (eDD (jmt h13)), trivial⟩, (hk10)⟩⟩
  rintro f16 w17 ⟨hat18, hk19⟩
  rw [← sets_of_at hat18]
  have hz20 := hk19.size
  have hB21 := hB8.lo hk19
  refine W.cond_d rfl (fun h22 => ?_) (fun h22 => ?_)
  · refine W.seq ?_
    refine W.regS (SR.q' (r_as (v := .int .i64 0) rfl) <| SR.q' (r_as (v := .bool false) rfl) <| SR.nil ?_)
    refine W.ret ?_
    refine ret2 rfl (v := .int .i64 _) (v' := .bool _) rfl rfl ?_
    exact ⟨eR (eT2 (eI (by subst hlex_Stack; unfold impl_TopMap; rw [if_pos h22] <;> rfl)) (eB (by subst hlex_Stack; unfold impl_TopMap; rw [if_pos h22] <;> rfl))), hB21⟩
  · have hq23 : ChestOK x := (Classical.not_not.1 (not_or.1 h22).1)
    have hq24 : ¬ ((nx_Stack : Int) = 0) := (not_or.1 h22).2
    have hq25 := chest_len hq23
    have hq26 := chest_rng hq23
    refine W.skip ?_
    refine W.seq ?_
    refine W.regS (SR.q' (r_fa fa40_2 rfl) <| SR.q' (r_ld (v := .slice Ax_Stack nx_Stack cx_Stack) sca38 rfl (((hb6).lo hk19).cell rfl)) <| SR.q' (r_fa fa40_2 rfl) <| SR.q' (r_ld (v := .slice Ax_Stack nx_Stack cx_Stack) sca38 rfl (((hb6).lo hk19).cell rfl)) <| SR.q' (r_len und38 rfl) <| SR.q' (r_sub rfl rfl (by omega)) <| ?_)
    have hx28 := (((hx_Stack).lo hk4).lo hk19).elem (i := ((nx_Stack : Int) - 1).toNat) (by omega)
    rw [show ((nx_Stack : Int) - 1).toNat = nx_Stack - 1 from by omega] at hx28
    have hx29 : x.Stack[((nx_Stack : Int) - 1).toNat]? = some (gt x.Stack (nx_Stack - 1)) := (show ((nx_Stack : Int) - 1).toNat = nx_Stack - 1 from by omega) ▸ hx28
    refine SR.q' (r_ixR tsl38 (((hx_Stack).lo hk4).lo hk19) rfl rfl (by omega)) <| SR.q' (r_ld (v := .int .i64 (gt x.Stack (nx_Stack - 1))) sca3 rfl ((((hx_Stack).lo hk4).lo hk19).cell0 hx29 rfl)) <| SR.q' (r_as (v := .int .i64 _) rfl) <| SR.q' (r_as (v := .bool true) rfl) <| SR.nil ?_
    refine W.ret ?_
    refine ret2 rfl (v := .int .i64 _) (v' := .bool _) rfl rfl ?_
    exact ⟨eR (eT2 (eI (by subst hlex_Stack; unfold impl_TopMap; rw [if_neg h22] <;> rfl)) (eB (by subst hlex_Stack; unfold impl_TopMap; rw [if_neg h22] <;> rfl))), hB21⟩

open Classical in
noncomputable def spec_TopMap (x : Chest) : Int × Bool :=
  if (¬ (ChestOK x)) ∨ ((x.Stack.length : Int) = 0) then (0, false) else ((gt x.Stack (x.Stack.length - 1)), true)
theorem c_spec_TopMap (w : World) (x : Chest) {Ax_Stack : Option Addr} {nx_Stack cx_Stack Bx_Stack : Nat} (hx_Stack : SlR w Bx_Stack encI 1 Ax_Stack nx_Stack cx_Stack x.Stack) : Calls Tryd.prog 22 #[.agg (List.toArray [.int .i64 x.State, .int .i64 x.Key, .slice Ax_Stack nx_Stack cx_Stack, .int .i64 x.Dust, .int .i64 x.Laid, .int .i64 x.Given])] w fun e w' => e = .returned (.tuple (List.toArray [.int .i64 ((spec_TopMap x).1), .bool ((spec_TopMap x).2)])) ∧ Lo w w' := by
  refine calls_W 21 Tryd.func22 rfl rfl rfl ?_
  have hbdx_Stack := hx_Stack.bound
  have hlex_Stack := hx_Stack.len
  have hBbx_Stack := hx_Stack.bd
  have hbdx_Stack := hx_Stack.bound
  have hlex_Stack := hx_Stack.len
  have hBbx_Stack := hx_Stack.bd
  refine W.seq ?_
  refine W.regS (SR.box (v := .agg (List.toArray _)) (l := [.int .i64 x.State, .int .i64 x.Key, .slice Ax_Stack nx_Stack cx_Stack, .int .i64 x.Dust, .int .i64 x.Laid, .int .i64 x.Given]) rfl rfl ?_)
  intro g1 w2 hg3 hk4 hs5 hb6
  have hz7 := hk4.size
  have hB8 := (Lo.refl w).lo hk4
  refine SR.q' (r_as (v := .int .i64 0) rfl) <| SR.q' (r_as (v := .bool false) rfl) <| SR.nil ?_
  refine W.seq ?_
  refine W.seq ?_
  refine W.regJS (fun f' w' => At f' [(1, .pointer (some ((⟨g1, 0, none⟩ : Addr)))), (2, .int .i64 0), (3, .bool false), (12, .bool (decide ((¬ (ChestOK x)) ∨ ((nx_Stack : Int) = 0))))] ∧ Lo w2 w') ?_ ?_
  · refine SR.q' (r_lda (l := [.int .i64 x.State, .int .i64 x.Key, .slice Ax_Stack nx_Stack cx_Stack, .int .i64 x.Dust, .int .i64 x.Laid, .int .i64 x.Given]) agg40 rfl (fun _ _ hu => (hb6).cell hu) rfl) <| SR.call ent57 (c_spec_l21Good w2 x (((hx_Stack).lo hk4))) rfl ?_
    rintro e w9 ⟨rfl, hk10⟩
    refine ⟨_, rfl, ?_⟩
    have hz11 := hk10.size
    have hB12 := hB8.lo hk10
    refine SR.q' (r_not rfl) <| SR.q' (r_mv (v := .bool _) rfl) <| SR.splitN (fun h13 => ?_) (fun h13 => ?_)
    · refine SR.s' rfl <| SR.s' rfl <| SR.s' rfl <| SR.s' rfl <| SR.q' (r_pick true rfl (v := .bool true) rfl) <| SR.nil ?_
      exact ⟨_, rfl, ⟨⟨rfl, rfl, rfl, (eDT ((jmf h13).1 trivial)), trivial⟩, (hk10)⟩⟩
    · have hq14 := chest_len h13
      have hq15 := chest_rng h13
      refine SR.g' rfl (r_fa fa40_2 rfl) <| SR.g' rfl (r_ld (v := .slice Ax_Stack nx_Stack cx_Stack) sca38 rfl (((hb6).lo hk10).cell rfl)) <| SR.g' rfl (r_len und38 rfl) <| SR.g' rfl (r_eq rfl rfl) <| SR.q' (r_pick false rfl (v := .bool _) rfl) <| SR.nil ?_
      exact ⟨_, rfl, ⟨⟨rfl, rfl, rfl, (eDD (jmt h13)), trivial⟩, (hk10)⟩⟩
  rintro f16 w17 ⟨hat18, hk19⟩
  rw [← sets_of_at hat18]
  have hz20 := hk19.size
  have hB21 := hB8.lo hk19
  refine W.cond_d rfl (fun h22 => ?_) (fun h22 => ?_)
  · refine W.seq ?_
    refine W.regS (SR.q' (r_as (v := .int .i64 0) rfl) <| SR.q' (r_as (v := .bool false) rfl) <| SR.nil ?_)
    refine W.ret ?_
    refine ret2 rfl (v := .int .i64 _) (v' := .bool _) rfl rfl ?_
    exact ⟨eR (eT2 (eI (by subst hlex_Stack; unfold spec_TopMap; rw [if_pos h22] <;> rfl)) (eB (by subst hlex_Stack; unfold spec_TopMap; rw [if_pos h22] <;> rfl))), hB21⟩
  · have hq23 : ChestOK x := (Classical.not_not.1 (not_or.1 h22).1)
    have hq24 : ¬ ((nx_Stack : Int) = 0) := (not_or.1 h22).2
    have hq25 := chest_len hq23
    have hq26 := chest_rng hq23
    refine W.skip ?_
    refine W.seq ?_
    refine W.regS (SR.q' (r_fa fa40_2 rfl) <| SR.q' (r_ld (v := .slice Ax_Stack nx_Stack cx_Stack) sca38 rfl (((hb6).lo hk19).cell rfl)) <| SR.q' (r_fa fa40_2 rfl) <| SR.q' (r_ld (v := .slice Ax_Stack nx_Stack cx_Stack) sca38 rfl (((hb6).lo hk19).cell rfl)) <| SR.q' (r_len und38 rfl) <| SR.q' (r_sub rfl rfl (by omega)) <| ?_)
    have hx28 := (((hx_Stack).lo hk4).lo hk19).elem (i := ((nx_Stack : Int) - 1).toNat) (by omega)
    rw [show ((nx_Stack : Int) - 1).toNat = nx_Stack - 1 from by omega] at hx28
    have hx29 : x.Stack[((nx_Stack : Int) - 1).toNat]? = some (gt x.Stack (nx_Stack - 1)) := (show ((nx_Stack : Int) - 1).toNat = nx_Stack - 1 from by omega) ▸ hx28
    refine SR.q' (r_ixR tsl38 (((hx_Stack).lo hk4).lo hk19) rfl rfl (by omega)) <| SR.q' (r_ld (v := .int .i64 (gt x.Stack (nx_Stack - 1))) sca3 rfl ((((hx_Stack).lo hk4).lo hk19).cell0 hx29 rfl)) <| SR.q' (r_as (v := .int .i64 _) rfl) <| SR.q' (r_as (v := .bool true) rfl) <| SR.nil ?_
    refine W.ret ?_
    refine ret2 rfl (v := .int .i64 _) (v' := .bool _) rfl rfl ?_
    exact ⟨eR (eT2 (eI (by subst hlex_Stack; unfold spec_TopMap; rw [if_neg h22] <;> rfl)) (eB (by subst hlex_Stack; unfold spec_TopMap; rw [if_neg h22] <;> rfl))), hB21⟩
end Go.Proofs.YtlpapeeaghmjpaaDoor
