/- Walks, printed by a program of this claim's author. -/
import Derived.Test.YtlpapeeaghmjpaaChecked
import Derived.Test.YtlpapeeaghmjpaaSa
import Derived.Test.YtlpapeeaghmjpaaFu
import Derived.Test.YtlpapeeaghmjpaaFs
import Derived.Test.YtlpapeeaghmjpaaFq
import Derived.Test.YtlpapeeaghmjpaaFo
import Derived.Test.YtlpapeeaghmjpaaSc
import Derived.Test.YtlpapeeaghmjpaaG29f
namespace Go.Proofs.Ytlpapeeaghmjpaa
open Go Go.RowKit Fw
set_option maxRecDepth 10000
set_option linter.unusedVariables false
theorem tsl54 : TSl Try.prog 54 32 2 := ⟨by kernel_rfl, fun _ => by kernel_rfl⟩
theorem tz32 : TZ Try.prog 32 (.agg (List.toArray [.int .i64 0, .int .i64 0])) := fun _ => by kernel_rfl
theorem und54 : Try.prog.underlying 54 = some (.slice 32) := by kernel_rfl

theorem z_c_impl_RunChest_36 (x : Chest) (nx_Stack : Nat) (hbdx_Stack : (nx_Stack : Int) ≤ 9223372036854775807) (hlex_Stack : nx_Stack = x.Stack.length) (S : List ChestStep) (nS : Nat) (hbdS : (nS : Int) ≤ 9223372036854775807) (hleS : nS = S.length) (h29 : (¬ (ChestOK x)) ∨ (40 < (nS : Int))) : ([] : List Int) = ((runF x S).1).Stack := by
  subst hleS
  first | (rw [runF_no ‹_›]; done) | (rw [runF_no ‹_›]; rfl) | (rw [runF_yes ‹_› (And.left (And.right ‹_ ∧ runTo _ _ _ = _ ∧ _›)) (by omega)]; done) | (rw [runF_yes ‹_› (And.left (And.right ‹_ ∧ runTo _ _ _ = _ ∧ _›)) (by omega)]; rfl)
theorem z_c_impl_RunChest_37 (x : Chest) (nx_Stack : Nat) (hbdx_Stack : (nx_Stack : Int) ≤ 9223372036854775807) (hlex_Stack : nx_Stack = x.Stack.length) (S : List ChestStep) (nS : Nat) (hbdS : (nS : Int) ≤ 9223372036854775807) (hleS : nS = S.length) (h29 : (¬ (ChestOK x)) ∨ (40 < (nS : Int))) : 0 = ((runF x S).1).State := by
  subst hleS
  first | (rw [runF_no ‹_›]; done) | (rw [runF_no ‹_›]; rfl) | (rw [runF_yes ‹_› (And.left (And.right ‹_ ∧ runTo _ _ _ = _ ∧ _›)) (by omega)]; done) | (rw [runF_yes ‹_› (And.left (And.right ‹_ ∧ runTo _ _ _ = _ ∧ _›)) (by omega)]; rfl)
theorem z_c_impl_RunChest_38 (x : Chest) (nx_Stack : Nat) (hbdx_Stack : (nx_Stack : Int) ≤ 9223372036854775807) (hlex_Stack : nx_Stack = x.Stack.length) (S : List ChestStep) (nS : Nat) (hbdS : (nS : Int) ≤ 9223372036854775807) (hleS : nS = S.length) (h29 : (¬ (ChestOK x)) ∨ (40 < (nS : Int))) : 0 = ((runF x S).1).Key := by
  subst hleS
  first | (rw [runF_no ‹_›]; done) | (rw [runF_no ‹_›]; rfl) | (rw [runF_yes ‹_› (And.left (And.right ‹_ ∧ runTo _ _ _ = _ ∧ _›)) (by omega)]; done) | (rw [runF_yes ‹_› (And.left (And.right ‹_ ∧ runTo _ _ _ = _ ∧ _›)) (by omega)]; rfl)
theorem z_c_impl_RunChest_39 (x : Chest) (nx_Stack : Nat) (hbdx_Stack : (nx_Stack : Int) ≤ 9223372036854775807) (hlex_Stack : nx_Stack = x.Stack.length) (S : List ChestStep) (nS : Nat) (hbdS : (nS : Int) ≤ 9223372036854775807) (hleS : nS = S.length) (h29 : (¬ (ChestOK x)) ∨ (40 < (nS : Int))) : 0 = ((runF x S).1).Dust := by
  subst hleS
  first | (rw [runF_no ‹_›]; done) | (rw [runF_no ‹_›]; rfl) | (rw [runF_yes ‹_› (And.left (And.right ‹_ ∧ runTo _ _ _ = _ ∧ _›)) (by omega)]; done) | (rw [runF_yes ‹_› (And.left (And.right ‹_ ∧ runTo _ _ _ = _ ∧ _›)) (by omega)]; rfl)
theorem z_c_impl_RunChest_40 (x : Chest) (nx_Stack : Nat) (hbdx_Stack : (nx_Stack : Int) ≤ 9223372036854775807) (hlex_Stack : nx_Stack = x.Stack.length) (S : List ChestStep) (nS : Nat) (hbdS : (nS : Int) ≤ 9223372036854775807) (hleS : nS = S.length) (h29 : (¬ (ChestOK x)) ∨ (40 < (nS : Int))) : 0 = ((runF x S).1).Laid := by
  subst hleS
  first | (rw [runF_no ‹_›]; done) | (rw [runF_no ‹_›]; rfl) | (rw [runF_yes ‹_› (And.left (And.right ‹_ ∧ runTo _ _ _ = _ ∧ _›)) (by omega)]; done) | (rw [runF_yes ‹_› (And.left (And.right ‹_ ∧ runTo _ _ _ = _ ∧ _›)) (by omega)]; rfl)
theorem z_c_impl_RunChest_41 (x : Chest) (nx_Stack : Nat) (hbdx_Stack : (nx_Stack : Int) ≤ 9223372036854775807) (hlex_Stack : nx_Stack = x.Stack.length) (S : List ChestStep) (nS : Nat) (hbdS : (nS : Int) ≤ 9223372036854775807) (hleS : nS = S.length) (h29 : (¬ (ChestOK x)) ∨ (40 < (nS : Int))) : 0 = ((runF x S).1).Given := by
  subst hleS
  first | (rw [runF_no ‹_›]; done) | (rw [runF_no ‹_›]; rfl) | (rw [runF_yes ‹_› (And.left (And.right ‹_ ∧ runTo _ _ _ = _ ∧ _›)) (by omega)]; done) | (rw [runF_yes ‹_› (And.left (And.right ‹_ ∧ runTo _ _ _ = _ ∧ _›)) (by omega)]; rfl)
theorem z_c_impl_RunChest_42 (x : Chest) (nx_Stack : Nat) (hbdx_Stack : (nx_Stack : Int) ≤ 9223372036854775807) (hlex_Stack : nx_Stack = x.Stack.length) (S : List ChestStep) (nS : Nat) (hbdS : (nS : Int) ≤ 9223372036854775807) (hleS : nS = S.length) (h29 : (¬ (ChestOK x)) ∨ (40 < (nS : Int))) : 0 = (runF x S).2.1 := by
  subst hleS
  first | (rw [runF_no ‹_›]; done) | (rw [runF_no ‹_›]; rfl) | (rw [runF_yes ‹_› (And.left (And.right ‹_ ∧ runTo _ _ _ = _ ∧ _›)) (by omega)]; done) | (rw [runF_yes ‹_› (And.left (And.right ‹_ ∧ runTo _ _ _ = _ ∧ _›)) (by omega)]; rfl)
theorem z_c_impl_RunChest_43 (x : Chest) (nx_Stack : Nat) (hbdx_Stack : (nx_Stack : Int) ≤ 9223372036854775807) (hlex_Stack : nx_Stack = x.Stack.length) (S : List ChestStep) (nS : Nat) (hbdS : (nS : Int) ≤ 9223372036854775807) (hleS : nS = S.length) (h29 : (¬ (ChestOK x)) ∨ (40 < (nS : Int))) : false = (runF x S).2.2 := by
  subst hleS
  first | (rw [runF_no ‹_›]; done) | (rw [runF_no ‹_›]; rfl) | (rw [runF_yes ‹_› (And.left (And.right ‹_ ∧ runTo _ _ _ = _ ∧ _›)) (by omega)]; done) | (rw [runF_yes ‹_› (And.left (And.right ‹_ ∧ runTo _ _ _ = _ ∧ _›)) (by omega)]; rfl)
theorem z_c_impl_RunChest_73 (x : Chest) (nx_Stack : Nat) (hbdx_Stack : (nx_Stack : Int) ≤ 9223372036854775807) (hlex_Stack : nx_Stack = x.Stack.length) (S : List ChestStep) (nS : Nat) (hbdS : (nS : Int) ≤ 9223372036854775807) (hleS : nS = S.length) (h29 : ¬ ((¬ (ChestOK x)) ∨ (40 < (nS : Int)))) (hq44 : ChestOK x) (hq45 : ¬ (40 < (nS : Int))) (hq46 : x.Stack.length ≤ 10) (n50 : Nat) (hl55 : n50 = (x.Stack).length) (hl56 : (n50 : Int) ≤ 9223372036854775807) : 0 ≤ nS ∧ runTo x S 0 = (x, (0 : Int)) ∧ ChestOK x ∧ 0 ≤ (0 : Int) ∧ (0 : Int) ≤ (0 : Int) := by
  exact ⟨Nat.zero_le _, rfl, ‹ChestOK x›, by omega, by omega⟩
theorem z_c_impl_RunChest_143 (x : Chest) (nx_Stack : Nat) (hbdx_Stack : (nx_Stack : Int) ≤ 9223372036854775807) (hlex_Stack : nx_Stack = x.Stack.length) (S : List ChestStep) (nS : Nat) (hbdS : (nS : Int) ≤ 9223372036854775807) (hleS : nS = S.length) (h29 : ¬ ((¬ (ChestOK x)) ∨ (40 < (nS : Int)))) (hq44 : ChestOK x) (hq45 : ¬ (40 < (nS : Int))) (hq46 : x.Stack.length ≤ 10) (n50 : Nat) (hl55 : n50 = (x.Stack).length) (hl56 : (n50 : Int) ≤ 9223372036854775807) (k : Nat) (o : Chest) (m : Int) (n72 : Nat) (c72 : Nat) (hi82 : k ≤ nS ∧ runTo x S k = (o, m) ∧ ChestOK o ∧ 0 ≤ m ∧ m ≤ (k : Int)) (hl87 : n72 = (o.Stack).length) (hq89 : ChestOK o) (hq90 : o.Stack.length ≤ 10) (hq91 : 0 ≤ m ∧ m ≤ (k : Int)) (h92 : (k : Int) < (nS : Int)) (hx94 : S[k]? = some (gt S k)) (n113 : Nat) (hl118 : n113 = (((impl_Chest_stepped o (gt S k)).1).Stack).length) (hl119 : (n113 : Int) ≤ 9223372036854775807) (h136 : ((impl_Chest_stepped o (gt S k)).2) = true) : k + 1 ≤ nS ∧ runTo x S (k + 1) = (((impl_Chest_stepped o (gt S k)).1), m + 1) ∧ ChestOK ((impl_Chest_stepped o (gt S k)).1) ∧ 0 ≤ m + 1 ∧ m + 1 ≤ (k + 1 : Int) := by
  have hh := ‹_ ∧ runTo _ _ _ = _ ∧ _›
  first | exact ⟨by omega, (run_yes hh.2.1 hh.2.2.1 ‹S[k]? = some _› ‹_›).1, (run_yes hh.2.1 hh.2.2.1 ‹S[k]? = some _› ‹_›).2, by omega, by omega⟩ | exact ⟨by omega, run_no hh.2.1 hh.2.2.1 ‹S[k]? = some _› ‹_›, hh.2.2.1, by omega, by omega⟩
theorem z_c_impl_RunChest_144 (x : Chest) (nx_Stack : Nat) (hbdx_Stack : (nx_Stack : Int) ≤ 9223372036854775807) (hlex_Stack : nx_Stack = x.Stack.length) (S : List ChestStep) (nS : Nat) (hbdS : (nS : Int) ≤ 9223372036854775807) (hleS : nS = S.length) (h29 : ¬ ((¬ (ChestOK x)) ∨ (40 < (nS : Int)))) (hq44 : ChestOK x) (hq45 : ¬ (40 < (nS : Int))) (hq46 : x.Stack.length ≤ 10) (n50 : Nat) (hl55 : n50 = (x.Stack).length) (hl56 : (n50 : Int) ≤ 9223372036854775807) (k : Nat) (o : Chest) (m : Int) (n72 : Nat) (c72 : Nat) (hi82 : k ≤ nS ∧ runTo x S k = (o, m) ∧ ChestOK o ∧ 0 ≤ m ∧ m ≤ (k : Int)) (hl87 : n72 = (o.Stack).length) (hq89 : ChestOK o) (hq90 : o.Stack.length ≤ 10) (hq91 : 0 ≤ m ∧ m ≤ (k : Int)) (h92 : (k : Int) < (nS : Int)) (hx94 : S[k]? = some (gt S k)) (n113 : Nat) (hl118 : n113 = (((impl_Chest_stepped o (gt S k)).1).Stack).length) (hl119 : (n113 : Int) ≤ 9223372036854775807) (h136 : ((impl_Chest_stepped o (gt S k)).2) = true) : nS - (k + 1) < nS - k := by
  omega
theorem z_c_impl_RunChest_145 (x : Chest) (nx_Stack : Nat) (hbdx_Stack : (nx_Stack : Int) ≤ 9223372036854775807) (hlex_Stack : nx_Stack = x.Stack.length) (S : List ChestStep) (nS : Nat) (hbdS : (nS : Int) ≤ 9223372036854775807) (hleS : nS = S.length) (h29 : ¬ ((¬ (ChestOK x)) ∨ (40 < (nS : Int)))) (hq44 : ChestOK x) (hq45 : ¬ (40 < (nS : Int))) (hq46 : x.Stack.length ≤ 10) (n50 : Nat) (hl55 : n50 = (x.Stack).length) (hl56 : (n50 : Int) ≤ 9223372036854775807) (k : Nat) (o : Chest) (m : Int) (n72 : Nat) (c72 : Nat) (hi82 : k ≤ nS ∧ runTo x S k = (o, m) ∧ ChestOK o ∧ 0 ≤ m ∧ m ≤ (k : Int)) (hl87 : n72 = (o.Stack).length) (hq89 : ChestOK o) (hq90 : o.Stack.length ≤ 10) (hq91 : 0 ≤ m ∧ m ≤ (k : Int)) (h92 : (k : Int) < (nS : Int)) (hx94 : S[k]? = some (gt S k)) (n113 : Nat) (hl118 : n113 = (((impl_Chest_stepped o (gt S k)).1).Stack).length) (hl119 : (n113 : Int) ≤ 9223372036854775807) (h136 : ((impl_Chest_stepped o (gt S k)).2) = false) : k + 1 ≤ nS ∧ runTo x S (k + 1) = (o, m) ∧ ChestOK o ∧ 0 ≤ m ∧ m ≤ (k + 1 : Int) := by
  have hh := ‹_ ∧ runTo _ _ _ = _ ∧ _›
  first | exact ⟨by omega, (run_yes hh.2.1 hh.2.2.1 ‹S[k]? = some _› ‹_›).1, (run_yes hh.2.1 hh.2.2.1 ‹S[k]? = some _› ‹_›).2, by omega, by omega⟩ | exact ⟨by omega, run_no hh.2.1 hh.2.2.1 ‹S[k]? = some _› ‹_›, hh.2.2.1, by omega, by omega⟩
theorem z_c_impl_RunChest_146 (x : Chest) (nx_Stack : Nat) (hbdx_Stack : (nx_Stack : Int) ≤ 9223372036854775807) (hlex_Stack : nx_Stack = x.Stack.length) (S : List ChestStep) (nS : Nat) (hbdS : (nS : Int) ≤ 9223372036854775807) (hleS : nS = S.length) (h29 : ¬ ((¬ (ChestOK x)) ∨ (40 < (nS : Int)))) (hq44 : ChestOK x) (hq45 : ¬ (40 < (nS : Int))) (hq46 : x.Stack.length ≤ 10) (n50 : Nat) (hl55 : n50 = (x.Stack).length) (hl56 : (n50 : Int) ≤ 9223372036854775807) (k : Nat) (o : Chest) (m : Int) (n72 : Nat) (c72 : Nat) (hi82 : k ≤ nS ∧ runTo x S k = (o, m) ∧ ChestOK o ∧ 0 ≤ m ∧ m ≤ (k : Int)) (hl87 : n72 = (o.Stack).length) (hq89 : ChestOK o) (hq90 : o.Stack.length ≤ 10) (hq91 : 0 ≤ m ∧ m ≤ (k : Int)) (h92 : (k : Int) < (nS : Int)) (hx94 : S[k]? = some (gt S k)) (n113 : Nat) (hl118 : n113 = (((impl_Chest_stepped o (gt S k)).1).Stack).length) (hl119 : (n113 : Int) ≤ 9223372036854775807) (h136 : ((impl_Chest_stepped o (gt S k)).2) = false) : nS - (k + 1) < nS - k := by
  omega
theorem z_c_impl_RunChest_153 (x : Chest) (nx_Stack : Nat) (hbdx_Stack : (nx_Stack : Int) ≤ 9223372036854775807) (hlex_Stack : nx_Stack = x.Stack.length) (S : List ChestStep) (nS : Nat) (hbdS : (nS : Int) ≤ 9223372036854775807) (hleS : nS = S.length) (h29 : ¬ ((¬ (ChestOK x)) ∨ (40 < (nS : Int)))) (hq44 : ChestOK x) (hq45 : ¬ (40 < (nS : Int))) (hq46 : x.Stack.length ≤ 10) (n50 : Nat) (hl55 : n50 = (x.Stack).length) (hl56 : (n50 : Int) ≤ 9223372036854775807) (k : Nat) (o : Chest) (m : Int) (n72 : Nat) (c72 : Nat) (hi82 : k ≤ nS ∧ runTo x S k = (o, m) ∧ ChestOK o ∧ 0 ≤ m ∧ m ≤ (k : Int)) (hl87 : n72 = (o.Stack).length) (hq89 : ChestOK o) (hq90 : o.Stack.length ≤ 10) (hq91 : 0 ≤ m ∧ m ≤ (k : Int)) (h92 : ¬ ((k : Int) < (nS : Int))) : o.Stack = ((runF x S).1).Stack := by
  subst hleS
  first | (rw [runF_no ‹_›]; done) | (rw [runF_no ‹_›]; rfl) | (rw [runF_yes ‹_› (And.left (And.right ‹_ ∧ runTo _ _ _ = _ ∧ _›)) (by omega)]; done) | (rw [runF_yes ‹_› (And.left (And.right ‹_ ∧ runTo _ _ _ = _ ∧ _›)) (by omega)]; rfl)
theorem z_c_impl_RunChest_154 (x : Chest) (nx_Stack : Nat) (hbdx_Stack : (nx_Stack : Int) ≤ 9223372036854775807) (hlex_Stack : nx_Stack = x.Stack.length) (S : List ChestStep) (nS : Nat) (hbdS : (nS : Int) ≤ 9223372036854775807) (hleS : nS = S.length) (h29 : ¬ ((¬ (ChestOK x)) ∨ (40 < (nS : Int)))) (hq44 : ChestOK x) (hq45 : ¬ (40 < (nS : Int))) (hq46 : x.Stack.length ≤ 10) (n50 : Nat) (hl55 : n50 = (x.Stack).length) (hl56 : (n50 : Int) ≤ 9223372036854775807) (k : Nat) (o : Chest) (m : Int) (n72 : Nat) (c72 : Nat) (hi82 : k ≤ nS ∧ runTo x S k = (o, m) ∧ ChestOK o ∧ 0 ≤ m ∧ m ≤ (k : Int)) (hl87 : n72 = (o.Stack).length) (hq89 : ChestOK o) (hq90 : o.Stack.length ≤ 10) (hq91 : 0 ≤ m ∧ m ≤ (k : Int)) (h92 : ¬ ((k : Int) < (nS : Int))) : o.State = ((runF x S).1).State := by
  subst hleS
  first | (rw [runF_no ‹_›]; done) | (rw [runF_no ‹_›]; rfl) | (rw [runF_yes ‹_› (And.left (And.right ‹_ ∧ runTo _ _ _ = _ ∧ _›)) (by omega)]; done) | (rw [runF_yes ‹_› (And.left (And.right ‹_ ∧ runTo _ _ _ = _ ∧ _›)) (by omega)]; rfl)
theorem z_c_impl_RunChest_155 (x : Chest) (nx_Stack : Nat) (hbdx_Stack : (nx_Stack : Int) ≤ 9223372036854775807) (hlex_Stack : nx_Stack = x.Stack.length) (S : List ChestStep) (nS : Nat) (hbdS : (nS : Int) ≤ 9223372036854775807) (hleS : nS = S.length) (h29 : ¬ ((¬ (ChestOK x)) ∨ (40 < (nS : Int)))) (hq44 : ChestOK x) (hq45 : ¬ (40 < (nS : Int))) (hq46 : x.Stack.length ≤ 10) (n50 : Nat) (hl55 : n50 = (x.Stack).length) (hl56 : (n50 : Int) ≤ 9223372036854775807) (k : Nat) (o : Chest) (m : Int) (n72 : Nat) (c72 : Nat) (hi82 : k ≤ nS ∧ runTo x S k = (o, m) ∧ ChestOK o ∧ 0 ≤ m ∧ m ≤ (k : Int)) (hl87 : n72 = (o.Stack).length) (hq89 : ChestOK o) (hq90 : o.Stack.length ≤ 10) (hq91 : 0 ≤ m ∧ m ≤ (k : Int)) (h92 : ¬ ((k : Int) < (nS : Int))) : o.Key = ((runF x S).1).Key := by
  subst hleS
  first | (rw [runF_no ‹_›]; done) | (rw [runF_no ‹_›]; rfl) | (rw [runF_yes ‹_› (And.left (And.right ‹_ ∧ runTo _ _ _ = _ ∧ _›)) (by omega)]; done) | (rw [runF_yes ‹_› (And.left (And.right ‹_ ∧ runTo _ _ _ = _ ∧ _›)) (by omega)]; rfl)
theorem z_c_impl_RunChest_156 (x : Chest) (nx_Stack : Nat) (hbdx_Stack : (nx_Stack : Int) ≤ 9223372036854775807) (hlex_Stack : nx_Stack = x.Stack.length) (S : List ChestStep) (nS : Nat) (hbdS : (nS : Int) ≤ 9223372036854775807) (hleS : nS = S.length) (h29 : ¬ ((¬ (ChestOK x)) ∨ (40 < (nS : Int)))) (hq44 : ChestOK x) (hq45 : ¬ (40 < (nS : Int))) (hq46 : x.Stack.length ≤ 10) (n50 : Nat) (hl55 : n50 = (x.Stack).length) (hl56 : (n50 : Int) ≤ 9223372036854775807) (k : Nat) (o : Chest) (m : Int) (n72 : Nat) (c72 : Nat) (hi82 : k ≤ nS ∧ runTo x S k = (o, m) ∧ ChestOK o ∧ 0 ≤ m ∧ m ≤ (k : Int)) (hl87 : n72 = (o.Stack).length) (hq89 : ChestOK o) (hq90 : o.Stack.length ≤ 10) (hq91 : 0 ≤ m ∧ m ≤ (k : Int)) (h92 : ¬ ((k : Int) < (nS : Int))) : o.Dust = ((runF x S).1).Dust := by
  subst hleS
  first | (rw [runF_no ‹_›]; done) | (rw [runF_no ‹_›]; rfl) | (rw [runF_yes ‹_› (And.left (And.right ‹_ ∧ runTo _ _ _ = _ ∧ _›)) (by omega)]; done) | (rw [runF_yes ‹_› (And.left (And.right ‹_ ∧ runTo _ _ _ = _ ∧ _›)) (by omega)]; rfl)
theorem z_c_impl_RunChest_157 (x : Chest) (nx_Stack : Nat) (hbdx_Stack : (nx_Stack : Int) ≤ 9223372036854775807) (hlex_Stack : nx_Stack = x.Stack.length) (S : List ChestStep) (nS : Nat) (hbdS : (nS : Int) ≤ 9223372036854775807) (hleS : nS = S.length) (h29 : ¬ ((¬ (ChestOK x)) ∨ (40 < (nS : Int)))) (hq44 : ChestOK x) (hq45 : ¬ (40 < (nS : Int))) (hq46 : x.Stack.length ≤ 10) (n50 : Nat) (hl55 : n50 = (x.Stack).length) (hl56 : (n50 : Int) ≤ 9223372036854775807) (k : Nat) (o : Chest) (m : Int) (n72 : Nat) (c72 : Nat) (hi82 : k ≤ nS ∧ runTo x S k = (o, m) ∧ ChestOK o ∧ 0 ≤ m ∧ m ≤ (k : Int)) (hl87 : n72 = (o.Stack).length) (hq89 : ChestOK o) (hq90 : o.Stack.length ≤ 10) (hq91 : 0 ≤ m ∧ m ≤ (k : Int)) (h92 : ¬ ((k : Int) < (nS : Int))) : o.Laid = ((runF x S).1).Laid := by
  subst hleS
  first | (rw [runF_no ‹_›]; done) | (rw [runF_no ‹_›]; rfl) | (rw [runF_yes ‹_› (And.left (And.right ‹_ ∧ runTo _ _ _ = _ ∧ _›)) (by omega)]; done) | (rw [runF_yes ‹_› (And.left (And.right ‹_ ∧ runTo _ _ _ = _ ∧ _›)) (by omega)]; rfl)
theorem z_c_impl_RunChest_158 (x : Chest) (nx_Stack : Nat) (hbdx_Stack : (nx_Stack : Int) ≤ 9223372036854775807) (hlex_Stack : nx_Stack = x.Stack.length) (S : List ChestStep) (nS : Nat) (hbdS : (nS : Int) ≤ 9223372036854775807) (hleS : nS = S.length) (h29 : ¬ ((¬ (ChestOK x)) ∨ (40 < (nS : Int)))) (hq44 : ChestOK x) (hq45 : ¬ (40 < (nS : Int))) (hq46 : x.Stack.length ≤ 10) (n50 : Nat) (hl55 : n50 = (x.Stack).length) (hl56 : (n50 : Int) ≤ 9223372036854775807) (k : Nat) (o : Chest) (m : Int) (n72 : Nat) (c72 : Nat) (hi82 : k ≤ nS ∧ runTo x S k = (o, m) ∧ ChestOK o ∧ 0 ≤ m ∧ m ≤ (k : Int)) (hl87 : n72 = (o.Stack).length) (hq89 : ChestOK o) (hq90 : o.Stack.length ≤ 10) (hq91 : 0 ≤ m ∧ m ≤ (k : Int)) (h92 : ¬ ((k : Int) < (nS : Int))) : o.Given = ((runF x S).1).Given := by
  subst hleS
  first | (rw [runF_no ‹_›]; done) | (rw [runF_no ‹_›]; rfl) | (rw [runF_yes ‹_› (And.left (And.right ‹_ ∧ runTo _ _ _ = _ ∧ _›)) (by omega)]; done) | (rw [runF_yes ‹_› (And.left (And.right ‹_ ∧ runTo _ _ _ = _ ∧ _›)) (by omega)]; rfl)
theorem z_c_impl_RunChest_159 (x : Chest) (nx_Stack : Nat) (hbdx_Stack : (nx_Stack : Int) ≤ 9223372036854775807) (hlex_Stack : nx_Stack = x.Stack.length) (S : List ChestStep) (nS : Nat) (hbdS : (nS : Int) ≤ 9223372036854775807) (hleS : nS = S.length) (h29 : ¬ ((¬ (ChestOK x)) ∨ (40 < (nS : Int)))) (hq44 : ChestOK x) (hq45 : ¬ (40 < (nS : Int))) (hq46 : x.Stack.length ≤ 10) (n50 : Nat) (hl55 : n50 = (x.Stack).length) (hl56 : (n50 : Int) ≤ 9223372036854775807) (k : Nat) (o : Chest) (m : Int) (n72 : Nat) (c72 : Nat) (hi82 : k ≤ nS ∧ runTo x S k = (o, m) ∧ ChestOK o ∧ 0 ≤ m ∧ m ≤ (k : Int)) (hl87 : n72 = (o.Stack).length) (hq89 : ChestOK o) (hq90 : o.Stack.length ≤ 10) (hq91 : 0 ≤ m ∧ m ≤ (k : Int)) (h92 : ¬ ((k : Int) < (nS : Int))) : m = (runF x S).2.1 := by
  subst hleS
  first | (rw [runF_no ‹_›]; done) | (rw [runF_no ‹_›]; rfl) | (rw [runF_yes ‹_› (And.left (And.right ‹_ ∧ runTo _ _ _ = _ ∧ _›)) (by omega)]; done) | (rw [runF_yes ‹_› (And.left (And.right ‹_ ∧ runTo _ _ _ = _ ∧ _›)) (by omega)]; rfl)
theorem z_c_impl_RunChest_160 (x : Chest) (nx_Stack : Nat) (hbdx_Stack : (nx_Stack : Int) ≤ 9223372036854775807) (hlex_Stack : nx_Stack = x.Stack.length) (S : List ChestStep) (nS : Nat) (hbdS : (nS : Int) ≤ 9223372036854775807) (hleS : nS = S.length) (h29 : ¬ ((¬ (ChestOK x)) ∨ (40 < (nS : Int)))) (hq44 : ChestOK x) (hq45 : ¬ (40 < (nS : Int))) (hq46 : x.Stack.length ≤ 10) (n50 : Nat) (hl55 : n50 = (x.Stack).length) (hl56 : (n50 : Int) ≤ 9223372036854775807) (k : Nat) (o : Chest) (m : Int) (n72 : Nat) (c72 : Nat) (hi82 : k ≤ nS ∧ runTo x S k = (o, m) ∧ ChestOK o ∧ 0 ≤ m ∧ m ≤ (k : Int)) (hl87 : n72 = (o.Stack).length) (hq89 : ChestOK o) (hq90 : o.Stack.length ≤ 10) (hq91 : 0 ≤ m ∧ m ≤ (k : Int)) (h92 : ¬ ((k : Int) < (nS : Int))) : true = (runF x S).2.2 := by
  subst hleS
  first | (rw [runF_no ‹_›]; done) | (rw [runF_no ‹_›]; rfl) | (rw [runF_yes ‹_› (And.left (And.right ‹_ ∧ runTo _ _ _ = _ ∧ _›)) (by omega)]; done) | (rw [runF_yes ‹_› (And.left (And.right ‹_ ∧ runTo _ _ _ = _ ∧ _›)) (by omega)]; rfl)
theorem c_impl_RunChest (w : World) (x : Chest) {Ax_Stack : Option Addr} {nx_Stack cx_Stack Bx_Stack : Nat} (hx_Stack : SlR w Bx_Stack encI 1 Ax_Stack nx_Stack cx_Stack x.Stack) {AS : Option Addr} {nS cS BS : Nat}  (S : List ChestStep) (hS : SlR w BS encChestStep 2 AS nS cS S) : Calls Try.prog 28 #[.agg (List.toArray [.int .i64 x.State, .int .i64 x.Key, .slice Ax_Stack nx_Stack cx_Stack, .int .i64 x.Dust, .int .i64 x.Laid, .int .i64 x.Given]), .slice AS nS cS] w fun e w' => ∃ (A1' : Option Addr) (n1' c1' : Nat), e = .returned (.tuple (List.toArray [.agg (List.toArray [.int .i64 (((runF x S).1).State), .int .i64 (((runF x S).1).Key), .slice A1' n1' c1', .int .i64 (((runF x S).1).Dust), .int .i64 (((runF x S).1).Laid), .int .i64 (((runF x S).1).Given)]), .int .i64 ((runF x S).2.1), .bool ((runF x S).2.2)])) ∧ SlO w' w.heap.size encI 1 3 A1' n1' c1' (((runF x S).1).Stack) ∧ Lo w w' := by
  refine calls_W 43 Try.func28 rfl rfl rfl ?_
  have hbdx_Stack := hx_Stack.bound
  have hlex_Stack := hx_Stack.len
  have hBbx_Stack := hx_Stack.bd
  have hbdS := hS.bound
  have hleS := hS.len
  have hBbS := hS.bd
  refine W.seq ?_
  refine W.regS (SR.box (v := .agg (List.toArray _)) (l := [.int .i64 x.State, .int .i64 x.Key, .slice Ax_Stack nx_Stack cx_Stack, .int .i64 x.Dust, .int .i64 x.Laid, .int .i64 x.Given]) rfl rfl ?_)
  intro g1 w2 hg3 hk4 hs5 hb6
  have hz7 := hk4.size
  have hB8 := (Lo.refl w).lo hk4
  refine SR.alloc (l := [.int .i64 0, .int .i64 0, .slice none 0 0, .int .i64 0, .int .i64 0, .int .i64 0]) tz28 rfl ?_
  intro g9 w10 hg11 hk12 hs13 hb14
  have hz15 := hk12.size
  have hB16 := hB8.lo hk12
  refine SR.q' (r_as (v := .int .i64 0) rfl) <| SR.q' (r_as (v := .bool false) rfl) <| SR.nil ?_
  refine W.seq ?_
  refine W.seq ?_
  refine W.regJS (fun f' w' => At f' [(1, .slice AS nS cS), (2, .pointer (some ((⟨g1, 0, none⟩ : Addr)))), (4, .pointer (some ((⟨g9, 0, none⟩ : Addr)))), (5, .int .i64 0), (6, .bool false), (20, .bool (decide ((¬ (ChestOK x)) ∨ (40 < (nS : Int)))))] ∧ Lo w10 w') ?_ ?_
  · refine SR.q' (r_lda (l := [.int .i64 x.State, .int .i64 x.Key, .slice Ax_Stack nx_Stack cx_Stack, .int .i64 x.Dust, .int .i64 x.Laid, .int .i64 x.Given]) agg28 rfl (fun _ _ hu => ((hb6).lo hk12).cell hu) rfl) <| SR.call ent49 (c_impl_IsChest w10 x ((((hx_Stack).lo hk4).lo hk12))) rfl ?_
    rintro e w17 ⟨rfl, hk18⟩
    refine ⟨_, rfl, ?_⟩
    have hz19 := hk18.size
    have hB20 := hB16.lo hk18
    refine SR.q' (r_not rfl) <| SR.q' (r_mv (v := .bool _) rfl) <| SR.splitN (fun h21 => ?_) (fun h21 => ?_)
    · refine SR.s' rfl <| SR.s' rfl <| SR.s' rfl <| SR.q' (r_pick true rfl (v := .bool true) rfl) <| SR.nil ?_
      exact ⟨_, rfl, ⟨⟨rfl, rfl, rfl, rfl, rfl, (eDT ((jmf h21).1 trivial)), trivial⟩, (hk18)⟩⟩
    · have hq22 := chest_len h21
      refine SR.g' rfl (r_mv (v := .slice _ _ _) rfl) <| SR.g' rfl (r_len und54 rfl) <| SR.g' rfl (r_gt rfl rfl) <| SR.q' (r_pick false rfl (v := .bool _) rfl) <| SR.nil ?_
      exact ⟨_, rfl, ⟨⟨rfl, rfl, rfl, rfl, rfl, (eDD (jmt h21)), trivial⟩, (hk18)⟩⟩
  rintro f23 w24 ⟨hat25, hk26⟩
  rw [← sets_of_at hat25]
  have hz27 := hk26.size
  have hB28 := hB16.lo hk26
  refine W.cond_d rfl (fun h29 => ?_) (fun h29 => ?_)
  · refine W.seq ?_
    refine W.regS (SR.q' (r_build (vs := []) rfl (bld28_)) <| SR.store (o := 0) (vs := [.int .i64 0, .int .i64 0, .slice none 0 0, .int .i64 0, .int .i64 0, .int .i64 0]) agg28.2 rfl rfl rfl rfl ((hb14).lo hk26) (Nat.le_of_ble_eq_true rfl) rfl ?_)
    intro w30 hk31 hs32 hb33
    have hz34 := hk31.size
    have hB35 := hB28.new hk31 (by omega)
    refine SR.q' (r_as (v := .int .i64 0) rfl) <| SR.q' (r_as (v := .bool false) rfl) <| SR.nil ?_
    refine W.ret ?_
    refine retCTT rfl rfl agg28 (hb33) rfl (v := .int .i64 _) rfl (v' := .bool _) rfl ?_
    exact ⟨none, 0, 0, eR (eT3 (eA (eC (eI (z_c_impl_RunChest_37 x nx_Stack hbdx_Stack hlex_Stack S nS hbdS hleS h29)) (eC (eI (z_c_impl_RunChest_38 x nx_Stack hbdx_Stack hlex_Stack S nS hbdS hleS h29)) (eC rfl (eC (eI (z_c_impl_RunChest_39 x nx_Stack hbdx_Stack hlex_Stack S nS hbdS hleS h29)) (eC (eI (z_c_impl_RunChest_40 x nx_Stack hbdx_Stack hlex_Stack S nS hbdS hleS h29)) (eC (eI (z_c_impl_RunChest_41 x nx_Stack hbdx_Stack hlex_Stack S nS hbdS hleS h29)) rfl))))))) (eI (z_c_impl_RunChest_42 x nx_Stack hbdx_Stack hlex_Stack S nS hbdS hleS h29)) (eB (z_c_impl_RunChest_43 x nx_Stack hbdx_Stack hlex_Stack S nS hbdS hleS h29))), (SlO.eqv (SlO.nil (e := 3) (enc := encI) (fun _ => rfl) (by omega)) (z_c_impl_RunChest_36 x nx_Stack hbdx_Stack hlex_Stack S nS hbdS hleS h29)), hB35⟩
  · have hq44 : ChestOK x := (Classical.not_not.1 (not_or.1 h29).1)
    have hq45 : ¬ (40 < (nS : Int)) := (not_or.1 h29).2
    have hq46 := chest_len hq44
    refine W.skip ?_
    refine W.seq ?_
    refine W.regS (SR.q' (r_lda (l := [.int .i64 x.State, .int .i64 x.Key, .slice Ax_Stack nx_Stack cx_Stack, .int .i64 x.Dust, .int .i64 x.Laid, .int .i64 x.Given]) agg28 rfl (fun _ _ hu => (((hb6).lo hk12).lo hk26).cell hu) rfl) <| SR.call ent71 (c__impl_Chest__own w24 x (((((hx_Stack).lo hk4).lo hk12).lo hk26)) (by omega)) rfl ?_)
    rintro e w47 ⟨A49, n50, c51, rfl, hO52, hk48⟩
    refine ⟨_, rfl, ?_⟩
    have hz53 := hk48.size
    have hB54 := hB28.lo hk48
    have hl55 := hO52.len
    have hl56 := hO52.rd.bound
    refine SR.alloc (l := [.int .i64 0, .int .i64 0, .slice none 0 0, .int .i64 0, .int .i64 0, .int .i64 0]) tz28 rfl ?_
    intro g57 w58 hg59 hk60 hs61 hb62
    have hz63 := hk60.size
    have hB64 := hB54.lo hk60
    have hd65 : ¬ A49 = some ⟨g57, 0, none⟩ := fun e' => by have := (hO52).base_le e'; omega
    refine SR.store (o := 0) (vs := [.int .i64 x.State, .int .i64 x.Key, .slice A49 n50 c51, .int .i64 x.Dust, .int .i64 x.Laid, .int .i64 x.Given]) agg28.2 rfl rfl rfl rfl (hb62) (Nat.le_of_ble_eq_true rfl) rfl ?_
    intro w66 hk67 hs68 hb69
    have hz70 := hk67.size
    have hB71 := hB64.new hk67 (by omega)
    refine SR.q' (r_as (v := .int .i64 0) rfl) <| SR.nil ?_
    refine W.seq ?_
    refine W.seq ?_
    refine W.regS (SR.q' (r_mv (v := .slice _ _ _) rfl) <| SR.q' (r_len und54 rfl) <| SR.q' (r_mv (v := .int .i64 0) rfl) <| SR.nil ?_)
    refine W.block ?_
    refine W.loop (σ := Nat × Chest × Int × (Option Addr) × Nat × Nat) (fun g => [(4, .pointer (some ((⟨g9, 0, none⟩ : Addr)))), (5, .int .i64 0), (6, .bool false), (7, .pointer (some ((⟨g57, 0, none⟩ : Addr)))), (8, .int .i64 g.2.2.1), (24, .slice AS nS cS), (25, .int .i64 (nS : Int)), (26, .int .i64 (g.1 : Int))]) (fun g w' => (Lo w w') ∧ (Blk w' g9 28 [.int .i64 0, .int .i64 0, .slice none 0 0, .int .i64 0, .int .i64 0, .int .i64 0]) ∧ (Blk w' g57 28 [.int .i64 g.2.1.State, .int .i64 g.2.1.Key, .slice g.2.2.2.1 g.2.2.2.2.1 g.2.2.2.2.2, .int .i64 g.2.1.Dust, .int .i64 g.2.1.Laid, .int .i64 g.2.1.Given]) ∧ (SlR w' BS encChestStep 2 AS nS cS S) ∧ (SlO w' w.heap.size encI 1 3 g.2.2.2.1 g.2.2.2.2.1 g.2.2.2.2.2 g.2.1.Stack) ∧ (¬ g.2.2.2.1 = some ⟨g9, 0, none⟩) ∧ (¬ g.2.2.2.1 = some ⟨g57, 0, none⟩) ∧ (g.1 ≤ nS ∧ runTo x S g.1 = (g.2.1, g.2.2.1) ∧ ChestOK g.2.1 ∧ 0 ≤ g.2.2.1 ∧ g.2.2.1 ≤ (g.1 : Int))) (fun g => nS - g.1) (0, x, (0 : Int), A49, n50, c51) ?_ ?_ ?_
    · exact ⟨rfl, rfl, rfl, rfl, rfl, rfl, rfl, rfl, trivial⟩
    · show (Lo w w66) ∧ (Blk w66 g9 28 [.int .i64 0, .int .i64 0, .slice none 0 0, .int .i64 0, .int .i64 0, .int .i64 0]) ∧ (Blk w66 g57 28 [.int .i64 x.State, .int .i64 x.Key, .slice A49 n50 c51, .int .i64 x.Dust, .int .i64 x.Laid, .int .i64 x.Given]) ∧ (SlR w66 BS encChestStep 2 AS nS cS S) ∧ (SlO w66 w.heap.size encI 1 3 A49 n50 c51 x.Stack) ∧ (¬ A49 = some ⟨g9, 0, none⟩) ∧ (¬ A49 = some ⟨g57, 0, none⟩) ∧ (0 ≤ nS ∧ runTo x S 0 = (x, (0 : Int)) ∧ ChestOK x ∧ 0 ≤ (0 : Int) ∧ (0 : Int) ≤ (0 : Int))
      exact ⟨hB71, ((((hb14).lo hk26).lo hk48).lo hk60).kp hk67 (fun e' => by have e'' : g9 = g57 := e'; omega), (hb69), ((((((hS).lo hk4).lo hk12).lo hk26).lo hk48).lo hk60).kp hk67 (fun b_ hb e' => by have e'' : b_ = g57 := e'; omega), ((((hO52).lo hk60).kp hk67 (fun b_ hb e' => hd65 (by have e'' : b_ = g57 := e'; rw [← e'']; exact hb))).down (by omega)), (fun e' => by have := (((hO52).lo hk60).kp hk67 (fun b_ hb e' => hd65 (by have e'' : b_ = g57 := e'; rw [← e'']; exact hb))).base_le e'; omega), hd65, (z_c_impl_RunChest_73 x nx_Stack hbdx_Stack hlex_Stack S nS hbdS hleS h29 hq44 hq45 hq46 n50 hl55 hl56)⟩
    · rintro ⟨k, o, m, A72, n72, c72⟩ f74 w75 hP77
      obtain ⟨hB76, hm78, hm79, hm80, hO81, hd83, hd84, hi82⟩ : (Lo w w75) ∧ (Blk w75 g9 28 [.int .i64 0, .int .i64 0, .slice none 0 0, .int .i64 0, .int .i64 0, .int .i64 0]) ∧ (Blk w75 g57 28 [.int .i64 o.State, .int .i64 o.Key, .slice A72 n72 c72, .int .i64 o.Dust, .int .i64 o.Laid, .int .i64 o.Given]) ∧ (SlR w75 BS encChestStep 2 AS nS cS S) ∧ (SlO w75 w.heap.size encI 1 3 A72 n72 c72 o.Stack) ∧ (¬ A72 = some ⟨g9, 0, none⟩) ∧ (¬ A72 = some ⟨g57, 0, none⟩) ∧ (k ≤ nS ∧ runTo x S k = (o, m) ∧ ChestOK o ∧ 0 ≤ m ∧ m ≤ (k : Int)) := hP77
      refine (?_ : W _ _ _ _ _ (act _ (sets f74 [(4, .pointer (some ((⟨g9, 0, none⟩ : Addr)))), (5, .int .i64 0), (6, .bool false), (7, .pointer (some ((⟨g57, 0, none⟩ : Addr)))), (8, .int .i64 m), (24, .slice AS nS cS), (25, .int .i64 (nS : Int)), (26, .int .i64 (k : Int))])) _)
      have hzw75 := hB76.size
      have hl85 := hm78.lt
      have hl86 := hm79.lt
      have hl87 := hO81.len
      have hl88 := hO81.rd.bound
      have hq89 : ChestOK o := hi82.2.2.1
      have hq90 : o.Stack.length ≤ 10 := (chest_rng hi82.2.2.1).1
      have hq91 : 0 ≤ m ∧ m ≤ (k : Int) := hi82.2.2.2
      refine W.seq ?_
      refine W.regS (SR.q' (r_lt rfl rfl) <| SR.nil ?_)
      refine W.seq ?_
      refine W.cond_d rfl (fun h92 => ?_) (fun h92 => ?_)
      · refine W.skip ?_
        refine W.seq ?_
        refine W.block ?_
        refine W.seq ?_
        have hx94 := (hm80).elem (i := k) (by omega)
        refine W.regS (SR.q' (r_ixR tsl54 (hm80) rfl rfl (by omega)) <| SR.q' (r_lda (l := encChestStep (gt S k)) agg32 rfl (fun _ _ hu => (hm80).cell hx94 hu) ((hm80).esz _)) <| SR.alloc (l := [.int .i64 0, .int .i64 0]) tz32 rfl ?_)
        intro g95 w96 hg97 hk98 hs99 hb100
        have hz101 := hk98.size
        have hB102 := hB76.lo hk98
        have hd103 : ¬ A72 = some ⟨g95, 0, none⟩ := fun e' => by have := (hO81).base_le e'; omega
        refine SR.store (o := 0) (vs := [.int .i64 ((gt S k).Kind), .int .i64 ((gt S k).Value)]) agg32.2 rfl rfl rfl rfl (hb100) (Nat.le_of_ble_eq_true rfl) rfl ?_
        intro w104 hk105 hs106 hb107
        have hz108 := hk105.size
        have hB109 := hB102.new hk105 (by omega)
        refine SR.nil ?_
        refine W.seq ?_
        refine W.regS (SR.q' (r_lda (l := [.int .i64 o.State, .int .i64 o.Key, .slice A72 n72 c72, .int .i64 o.Dust, .int .i64 o.Laid, .int .i64 o.Given]) agg28 rfl (fun _ _ hu => (((hm79).lo hk98).kp hk105 (fun e' => by have e'' : g57 = g95 := e'; omega)).cell hu) rfl) <| SR.q' (r_lda (l := [.int .i64 ((gt S k).Kind), .int .i64 ((gt S k).Value)]) agg32 rfl (fun _ _ hu => (hb107).cell hu) rfl) <| SR.call ent62 (c__impl_Chest__stepped w104 o (((((hO81).lo hk98).kp hk105 (fun b_ hb e' => hd103 (by have e'' : b_ = g95 := e'; rw [← e'']; exact hb))).rd)) (gt S k) (by assumption)) rfl ?_)
        rintro e w110 ⟨A112, n113, c114, rfl, hO115, hk111⟩
        refine ⟨_, rfl, ?_⟩
        have hz116 := hk111.size
        have hB117 := hB109.lo hk111
        have hl118 := hO115.len
        have hl119 := hO115.rd.bound
        refine SR.q' (r_mv (v := .tuple (List.toArray _)) rfl) <| SR.q' (r_ext (v := .agg (List.toArray _)) rfl rfl) <| SR.q' (r_ext (v := .bool _) rfl rfl) <| SR.alloc (l := [.int .i64 0, .int .i64 0, .slice none 0 0, .int .i64 0, .int .i64 0, .int .i64 0]) tz28 rfl ?_
        intro g120 w121 hg122 hk123 hs124 hb125
        have hz126 := hk123.size
        have hB127 := hB117.lo hk123
        have hd128 : ¬ A72 = some ⟨g120, 0, none⟩ := fun e' => by have := ((((hO81).lo hk98).kp hk105 (fun b_ hb e' => hd103 (by have e'' : b_ = g95 := e'; rw [← e'']; exact hb))).lo hk111).base_le e'; omega
        have hd129 : ¬ A112 = some ⟨g120, 0, none⟩ := fun e' => by have := (hO115).base_le e'; omega
        refine SR.store (o := 0) (vs := [.int .i64 (((impl_Chest_stepped o (gt S k)).1).State), .int .i64 (((impl_Chest_stepped o (gt S k)).1).Key), .slice A112 n113 c114, .int .i64 (((impl_Chest_stepped o (gt S k)).1).Dust), .int .i64 (((impl_Chest_stepped o (gt S k)).1).Laid), .int .i64 (((impl_Chest_stepped o (gt S k)).1).Given)]) agg28.2 rfl rfl rfl rfl (hb125) (Nat.le_of_ble_eq_true rfl) rfl ?_
        intro w130 hk131 hs132 hb133
        have hz134 := hk131.size
        have hB135 := hB127.new hk131 (by omega)
        refine SR.q' (r_as (v := .bool _) rfl) <| SR.nil ?_
        refine W.seq ?_
        refine W.regS (SR.q' (r_mv (v := .bool _) rfl) <| SR.nil ?_)
        refine W.cond_b rfl (fun h136 => ?_) (fun h136 => ?_)
        · refine W.seq ?_
          refine W.regS (SR.q' (r_lda (l := [.int .i64 (((impl_Chest_stepped o (gt S k)).1).State), .int .i64 (((impl_Chest_stepped o (gt S k)).1).Key), .slice A112 n113 c114, .int .i64 (((impl_Chest_stepped o (gt S k)).1).Dust), .int .i64 (((impl_Chest_stepped o (gt S k)).1).Laid), .int .i64 (((impl_Chest_stepped o (gt S k)).1).Given)]) agg28 rfl (fun _ _ hu => (hb133).cell hu) rfl) <| SR.store (o := 0) (vs := [.int .i64 (((impl_Chest_stepped o (gt S k)).1).State), .int .i64 (((impl_Chest_stepped o (gt S k)).1).Key), .slice A112 n113 c114, .int .i64 (((impl_Chest_stepped o (gt S k)).1).Dust), .int .i64 (((impl_Chest_stepped o (gt S k)).1).Laid), .int .i64 (((impl_Chest_stepped o (gt S k)).1).Given)]) agg28.2 rfl rfl rfl rfl ((((((hm79).lo hk98).kp hk105 (fun e' => by have e'' : g57 = g95 := e'; omega)).lo hk111).lo hk123).kp hk131 (fun e' => by have e'' : g57 = g120 := e'; omega)) (Nat.le_of_ble_eq_true rfl) rfl ?_)
          intro w137 hk138 hs139 hb140
          have hz141 := hk138.size
          have hB142 := hB135.new hk138 (by omega)
          refine SR.nil ?_
          refine W.regS (SR.q' (r_mv (v := .int .i64 _) rfl) <| SR.q' (r_add rfl rfl (by omega)) <| SR.q' (r_as (v := .int .i64 _) rfl) <| SR.nil ?_)
          refine W.regS (SR.q' (r_add rfl rfl (by omega)) <| SR.q' (r_mv (v := .int .i64 _) rfl) <| SR.nil ?_)
          refine ⟨(k + 1, ((impl_Chest_stepped o (gt S k)).1), m + 1, A112, n113, c114), _, rfl, ⟨rfl, rfl, rfl, rfl, rfl, rfl, rfl, rfl, trivial⟩, (show (Lo w w137) ∧ (Blk w137 g9 28 [.int .i64 0, .int .i64 0, .slice none 0 0, .int .i64 0, .int .i64 0, .int .i64 0]) ∧ (Blk w137 g57 28 [.int .i64 (((impl_Chest_stepped o (gt S k)).1).State), .int .i64 (((impl_Chest_stepped o (gt S k)).1).Key), .slice A112 n113 c114, .int .i64 (((impl_Chest_stepped o (gt S k)).1).Dust), .int .i64 (((impl_Chest_stepped o (gt S k)).1).Laid), .int .i64 (((impl_Chest_stepped o (gt S k)).1).Given)]) ∧ (SlR w137 BS encChestStep 2 AS nS cS S) ∧ (SlO w137 w.heap.size encI 1 3 A112 n113 c114 (((impl_Chest_stepped o (gt S k)).1).Stack)) ∧ (¬ A112 = some ⟨g9, 0, none⟩) ∧ (¬ A112 = some ⟨g57, 0, none⟩) ∧ (k + 1 ≤ nS ∧ runTo x S (k + 1) = (((impl_Chest_stepped o (gt S k)).1), m + 1) ∧ ChestOK ((impl_Chest_stepped o (gt S k)).1) ∧ 0 ≤ m + 1 ∧ m + 1 ≤ (k + 1 : Int)) from ⟨hB142, ((((((hm78).lo hk98).kp hk105 (fun e' => by have e'' : g9 = g95 := e'; omega)).lo hk111).lo hk123).kp hk131 (fun e' => by have e'' : g9 = g120 := e'; omega)).kp hk138 (fun e' => by have e'' : g9 = g57 := e'; omega), (hb140), ((((((hm80).lo hk98).kp hk105 (fun b_ hb e' => by have e'' : b_ = g95 := e'; omega)).lo hk111).lo hk123).kp hk131 (fun b_ hb e' => by have e'' : b_ = g120 := e'; omega)).kp hk138 (fun b_ hb e' => by have e'' : b_ = g57 := e'; omega), (((((hO115).lo hk123).kp hk131 (fun b_ hb e' => hd129 (by have e'' : b_ = g120 := e'; rw [← e'']; exact hb))).kp hk138 (fun b_ hb e' => by have e'' : b_ = g57 := e'; have := (((hO115).lo hk123).kp hk131 (fun b_ hb e' => hd129 (by have e'' : b_ = g120 := e'; rw [← e'']; exact hb))).base_le hb; omega)).down (by omega)), (fun e' => by have := ((((hO115).lo hk123).kp hk131 (fun b_ hb e' => hd129 (by have e'' : b_ = g120 := e'; rw [← e'']; exact hb))).kp hk138 (fun b_ hb e' => by have e'' : b_ = g57 := e'; have := (((hO115).lo hk123).kp hk131 (fun b_ hb e' => hd129 (by have e'' : b_ = g120 := e'; rw [← e'']; exact hb))).base_le hb; omega)).base_le e'; omega), (fun e' => by have := ((((hO115).lo hk123).kp hk131 (fun b_ hb e' => hd129 (by have e'' : b_ = g120 := e'; rw [← e'']; exact hb))).kp hk138 (fun b_ hb e' => by have e'' : b_ = g57 := e'; have := (((hO115).lo hk123).kp hk131 (fun b_ hb e' => hd129 (by have e'' : b_ = g120 := e'; rw [← e'']; exact hb))).base_le hb; omega)).base_le e'; omega), ?_⟩), ?_⟩
          · exact (z_c_impl_RunChest_143 x nx_Stack hbdx_Stack hlex_Stack S nS hbdS hleS h29 hq44 hq45 hq46 n50 hl55 hl56 k o m n72 c72 hi82 hl87 hq89 hq90 hq91 h92 hx94 n113 hl118 hl119 h136)
          · exact (z_c_impl_RunChest_144 x nx_Stack hbdx_Stack hlex_Stack S nS hbdS hleS h29 hq44 hq45 hq46 n50 hl55 hl56 k o m n72 c72 hi82 hl87 hq89 hq90 hq91 h92 hx94 n113 hl118 hl119 h136)
        · refine W.skip ?_
          refine W.regS (SR.q' (r_add rfl rfl (by omega)) <| SR.q' (r_mv (v := .int .i64 _) rfl) <| SR.nil ?_)
          refine ⟨(k + 1, o, m, A72, n72, c72), _, rfl, ⟨rfl, rfl, rfl, rfl, rfl, rfl, rfl, rfl, trivial⟩, (show (Lo w w130) ∧ (Blk w130 g9 28 [.int .i64 0, .int .i64 0, .slice none 0 0, .int .i64 0, .int .i64 0, .int .i64 0]) ∧ (Blk w130 g57 28 [.int .i64 o.State, .int .i64 o.Key, .slice A72 n72 c72, .int .i64 o.Dust, .int .i64 o.Laid, .int .i64 o.Given]) ∧ (SlR w130 BS encChestStep 2 AS nS cS S) ∧ (SlO w130 w.heap.size encI 1 3 A72 n72 c72 o.Stack) ∧ (¬ A72 = some ⟨g9, 0, none⟩) ∧ (¬ A72 = some ⟨g57, 0, none⟩) ∧ (k + 1 ≤ nS ∧ runTo x S (k + 1) = (o, m) ∧ ChestOK o ∧ 0 ≤ m ∧ m ≤ (k + 1 : Int)) from ⟨hB135, (((((hm78).lo hk98).kp hk105 (fun e' => by have e'' : g9 = g95 := e'; omega)).lo hk111).lo hk123).kp hk131 (fun e' => by have e'' : g9 = g120 := e'; omega), ((((((hm79).lo hk98).kp hk105 (fun e' => by have e'' : g57 = g95 := e'; omega)).lo hk111).lo hk123).kp hk131 (fun e' => by have e'' : g57 = g120 := e'; omega)), (((((hm80).lo hk98).kp hk105 (fun b_ hb e' => by have e'' : b_ = g95 := e'; omega)).lo hk111).lo hk123).kp hk131 (fun b_ hb e' => by have e'' : b_ = g120 := e'; omega), ((((((hO81).lo hk98).kp hk105 (fun b_ hb e' => hd103 (by have e'' : b_ = g95 := e'; rw [← e'']; exact hb))).lo hk111).lo hk123).kp hk131 (fun b_ hb e' => hd128 (by have e'' : b_ = g120 := e'; rw [← e'']; exact hb))), hd83, hd84, ?_⟩), ?_⟩
          · exact (z_c_impl_RunChest_145 x nx_Stack hbdx_Stack hlex_Stack S nS hbdS hleS h29 hq44 hq45 hq46 n50 hl55 hl56 k o m n72 c72 hi82 hl87 hq89 hq90 hq91 h92 hx94 n113 hl118 hl119 h136)
          · exact (z_c_impl_RunChest_146 x nx_Stack hbdx_Stack hlex_Stack S nS hbdS hleS h29 hq44 hq45 hq46 n50 hl55 hl56 k o m n72 c72 hi82 hl87 hq89 hq90 hq91 h92 hx94 n113 hl118 hl119 h136)
      · refine W.exit (xin_here ?_)
        refine W.seq ?_
        refine W.regS (SR.q' (r_lda (l := [.int .i64 o.State, .int .i64 o.Key, .slice A72 n72 c72, .int .i64 o.Dust, .int .i64 o.Laid, .int .i64 o.Given]) agg28 rfl (fun _ _ hu => (hm79).cell hu) rfl) <| SR.q' (r_mv (v := .int .i64 _) rfl) <| SR.store (o := 0) (vs := [.int .i64 o.State, .int .i64 o.Key, .slice A72 n72 c72, .int .i64 o.Dust, .int .i64 o.Laid, .int .i64 o.Given]) agg28.2 rfl rfl rfl rfl (hm78) (Nat.le_of_ble_eq_true rfl) rfl ?_)
        intro w147 hk148 hs149 hb150
        have hz151 := hk148.size
        have hB152 := hB76.new hk148 (by omega)
        refine SR.q' (r_as (v := .int .i64 _) rfl) <| SR.q' (r_as (v := .bool true) rfl) <| SR.nil ?_
        refine W.ret ?_
        refine retCTT rfl rfl agg28 (hb150) rfl (v := .int .i64 _) rfl (v' := .bool _) rfl ?_
        exact ⟨A72, n72, c72, eR (eT3 (eA (eC (eI (z_c_impl_RunChest_154 x nx_Stack hbdx_Stack hlex_Stack S nS hbdS hleS h29 hq44 hq45 hq46 n50 hl55 hl56 k o m n72 c72 hi82 hl87 hq89 hq90 hq91 h92)) (eC (eI (z_c_impl_RunChest_155 x nx_Stack hbdx_Stack hlex_Stack S nS hbdS hleS h29 hq44 hq45 hq46 n50 hl55 hl56 k o m n72 c72 hi82 hl87 hq89 hq90 hq91 h92)) (eC rfl (eC (eI (z_c_impl_RunChest_156 x nx_Stack hbdx_Stack hlex_Stack S nS hbdS hleS h29 hq44 hq45 hq46 n50 hl55 hl56 k o m n72 c72 hi82 hl87 hq89 hq90 hq91 h92)) (eC (eI (z_c_impl_RunChest_157 x nx_Stack hbdx_Stack hlex_Stack S nS hbdS hleS h29 hq44 hq45 hq46 n50 hl55 hl56 k o m n72 c72 hi82 hl87 hq89 hq90 hq91 h92)) (eC (eI (z_c_impl_RunChest_158 x nx_Stack hbdx_Stack hlex_Stack S nS hbdS hleS h29 hq44 hq45 hq46 n50 hl55 hl56 k o m n72 c72 hi82 hl87 hq89 hq90 hq91 h92)) rfl))))))) (eI (z_c_impl_RunChest_159 x nx_Stack hbdx_Stack hlex_Stack S nS hbdS hleS h29 hq44 hq45 hq46 n50 hl55 hl56 k o m n72 c72 hi82 hl87 hq89 hq90 hq91 h92)) (eB (z_c_impl_RunChest_160 x nx_Stack hbdx_Stack hlex_Stack S nS hbdS hleS h29 hq44 hq45 hq46 n50 hl55 hl56 k o m n72 c72 hi82 hl87 hq89 hq90 hq91 h92))), (SlO.eqv (((hO81).kp hk148 (fun b_ hb e' => hd83 (by have e'' : b_ = g9 := e'; rw [← e'']; exact hb))).down (by omega)) (z_c_impl_RunChest_153 x nx_Stack hbdx_Stack hlex_Stack S nS hbdS hleS h29 hq44 hq45 hq46 n50 hl55 hl56 k o m n72 c72 hi82 hl87 hq89 hq90 hq91 h92)), hB152⟩

theorem z_c_spec_RunChest_36 (x : Chest) (nx_Stack : Nat) (hbdx_Stack : (nx_Stack : Int) ≤ 9223372036854775807) (hlex_Stack : nx_Stack = x.Stack.length) (S : List ChestStep) (nS : Nat) (hbdS : (nS : Int) ≤ 9223372036854775807) (hleS : nS = S.length) (h29 : (¬ (ChestOK x)) ∨ (40 < (nS : Int))) : ([] : List Int) = ((runF x S).1).Stack := by
  subst hleS
  first | (rw [runF_no ‹_›]; done) | (rw [runF_no ‹_›]; rfl) | (rw [runF_yes ‹_› (And.left (And.right ‹_ ∧ runTo _ _ _ = _ ∧ _›)) (by omega)]; done) | (rw [runF_yes ‹_› (And.left (And.right ‹_ ∧ runTo _ _ _ = _ ∧ _›)) (by omega)]; rfl)
theorem z_c_spec_RunChest_37 (x : Chest) (nx_Stack : Nat) (hbdx_Stack : (nx_Stack : Int) ≤ 9223372036854775807) (hlex_Stack : nx_Stack = x.Stack.length) (S : List ChestStep) (nS : Nat) (hbdS : (nS : Int) ≤ 9223372036854775807) (hleS : nS = S.length) (h29 : (¬ (ChestOK x)) ∨ (40 < (nS : Int))) : 0 = ((runF x S).1).State := by
  subst hleS
  first | (rw [runF_no ‹_›]; done) | (rw [runF_no ‹_›]; rfl) | (rw [runF_yes ‹_› (And.left (And.right ‹_ ∧ runTo _ _ _ = _ ∧ _›)) (by omega)]; done) | (rw [runF_yes ‹_› (And.left (And.right ‹_ ∧ runTo _ _ _ = _ ∧ _›)) (by omega)]; rfl)
theorem z_c_spec_RunChest_38 (x : Chest) (nx_Stack : Nat) (hbdx_Stack : (nx_Stack : Int) ≤ 9223372036854775807) (hlex_Stack : nx_Stack = x.Stack.length) (S : List ChestStep) (nS : Nat) (hbdS : (nS : Int) ≤ 9223372036854775807) (hleS : nS = S.length) (h29 : (¬ (ChestOK x)) ∨ (40 < (nS : Int))) : 0 = ((runF x S).1).Key := by
  subst hleS
  first | (rw [runF_no ‹_›]; done) | (rw [runF_no ‹_›]; rfl) | (rw [runF_yes ‹_› (And.left (And.right ‹_ ∧ runTo _ _ _ = _ ∧ _›)) (by omega)]; done) | (rw [runF_yes ‹_› (And.left (And.right ‹_ ∧ runTo _ _ _ = _ ∧ _›)) (by omega)]; rfl)
theorem z_c_spec_RunChest_39 (x : Chest) (nx_Stack : Nat) (hbdx_Stack : (nx_Stack : Int) ≤ 9223372036854775807) (hlex_Stack : nx_Stack = x.Stack.length) (S : List ChestStep) (nS : Nat) (hbdS : (nS : Int) ≤ 9223372036854775807) (hleS : nS = S.length) (h29 : (¬ (ChestOK x)) ∨ (40 < (nS : Int))) : 0 = ((runF x S).1).Dust := by
  subst hleS
  first | (rw [runF_no ‹_›]; done) | (rw [runF_no ‹_›]; rfl) | (rw [runF_yes ‹_› (And.left (And.right ‹_ ∧ runTo _ _ _ = _ ∧ _›)) (by omega)]; done) | (rw [runF_yes ‹_› (And.left (And.right ‹_ ∧ runTo _ _ _ = _ ∧ _›)) (by omega)]; rfl)
theorem z_c_spec_RunChest_40 (x : Chest) (nx_Stack : Nat) (hbdx_Stack : (nx_Stack : Int) ≤ 9223372036854775807) (hlex_Stack : nx_Stack = x.Stack.length) (S : List ChestStep) (nS : Nat) (hbdS : (nS : Int) ≤ 9223372036854775807) (hleS : nS = S.length) (h29 : (¬ (ChestOK x)) ∨ (40 < (nS : Int))) : 0 = ((runF x S).1).Laid := by
  subst hleS
  first | (rw [runF_no ‹_›]; done) | (rw [runF_no ‹_›]; rfl) | (rw [runF_yes ‹_› (And.left (And.right ‹_ ∧ runTo _ _ _ = _ ∧ _›)) (by omega)]; done) | (rw [runF_yes ‹_› (And.left (And.right ‹_ ∧ runTo _ _ _ = _ ∧ _›)) (by omega)]; rfl)
theorem z_c_spec_RunChest_41 (x : Chest) (nx_Stack : Nat) (hbdx_Stack : (nx_Stack : Int) ≤ 9223372036854775807) (hlex_Stack : nx_Stack = x.Stack.length) (S : List ChestStep) (nS : Nat) (hbdS : (nS : Int) ≤ 9223372036854775807) (hleS : nS = S.length) (h29 : (¬ (ChestOK x)) ∨ (40 < (nS : Int))) : 0 = ((runF x S).1).Given := by
  subst hleS
  first | (rw [runF_no ‹_›]; done) | (rw [runF_no ‹_›]; rfl) | (rw [runF_yes ‹_› (And.left (And.right ‹_ ∧ runTo _ _ _ = _ ∧ _›)) (by omega)]; done) | (rw [runF_yes ‹_› (And.left (And.right ‹_ ∧ runTo _ _ _ = _ ∧ _›)) (by omega)]; rfl)
theorem z_c_spec_RunChest_42 (x : Chest) (nx_Stack : Nat) (hbdx_Stack : (nx_Stack : Int) ≤ 9223372036854775807) (hlex_Stack : nx_Stack = x.Stack.length) (S : List ChestStep) (nS : Nat) (hbdS : (nS : Int) ≤ 9223372036854775807) (hleS : nS = S.length) (h29 : (¬ (ChestOK x)) ∨ (40 < (nS : Int))) : 0 = (runF x S).2.1 := by
  subst hleS
  first | (rw [runF_no ‹_›]; done) | (rw [runF_no ‹_›]; rfl) | (rw [runF_yes ‹_› (And.left (And.right ‹_ ∧ runTo _ _ _ = _ ∧ _›)) (by omega)]; done) | (rw [runF_yes ‹_› (And.left (And.right ‹_ ∧ runTo _ _ _ = _ ∧ _›)) (by omega)]; rfl)
theorem z_c_spec_RunChest_43 (x : Chest) (nx_Stack : Nat) (hbdx_Stack : (nx_Stack : Int) ≤ 9223372036854775807) (hlex_Stack : nx_Stack = x.Stack.length) (S : List ChestStep) (nS : Nat) (hbdS : (nS : Int) ≤ 9223372036854775807) (hleS : nS = S.length) (h29 : (¬ (ChestOK x)) ∨ (40 < (nS : Int))) : false = (runF x S).2.2 := by
  subst hleS
  first | (rw [runF_no ‹_›]; done) | (rw [runF_no ‹_›]; rfl) | (rw [runF_yes ‹_› (And.left (And.right ‹_ ∧ runTo _ _ _ = _ ∧ _›)) (by omega)]; done) | (rw [runF_yes ‹_› (And.left (And.right ‹_ ∧ runTo _ _ _ = _ ∧ _›)) (by omega)]; rfl)
theorem z_c_spec_RunChest_73 (x : Chest) (nx_Stack : Nat) (hbdx_Stack : (nx_Stack : Int) ≤ 9223372036854775807) (hlex_Stack : nx_Stack = x.Stack.length) (S : List ChestStep) (nS : Nat) (hbdS : (nS : Int) ≤ 9223372036854775807) (hleS : nS = S.length) (h29 : ¬ ((¬ (ChestOK x)) ∨ (40 < (nS : Int)))) (hq44 : ChestOK x) (hq45 : ¬ (40 < (nS : Int))) (hq46 : x.Stack.length ≤ 10) (n50 : Nat) (hl55 : n50 = (x.Stack).length) (hl56 : (n50 : Int) ≤ 9223372036854775807) : 0 ≤ nS ∧ runTo x S 0 = (x, (0 : Int)) ∧ ChestOK x ∧ 0 ≤ (0 : Int) ∧ (0 : Int) ≤ (0 : Int) := by
  exact ⟨Nat.zero_le _, rfl, ‹ChestOK x›, by omega, by omega⟩
theorem z_c_spec_RunChest_101 (x : Chest) (nx_Stack : Nat) (hbdx_Stack : (nx_Stack : Int) ≤ 9223372036854775807) (hlex_Stack : nx_Stack = x.Stack.length) (S : List ChestStep) (nS : Nat) (hbdS : (nS : Int) ≤ 9223372036854775807) (hleS : nS = S.length) (h29 : ¬ ((¬ (ChestOK x)) ∨ (40 < (nS : Int)))) (hq44 : ChestOK x) (hq45 : ¬ (40 < (nS : Int))) (hq46 : x.Stack.length ≤ 10) (n50 : Nat) (hl55 : n50 = (x.Stack).length) (hl56 : (n50 : Int) ≤ 9223372036854775807) (k : Nat) (o : Chest) (m : Int) (n72 : Nat) (c72 : Nat) (hi82 : k ≤ nS ∧ runTo x S k = (o, m) ∧ ChestOK o ∧ 0 ≤ m ∧ m ≤ (k : Int)) (hl87 : n72 = (o.Stack).length) (hq89 : ChestOK o) (hq90 : o.Stack.length ≤ 10) (hq91 : 0 ≤ m ∧ m ≤ (k : Int)) (h92 : (k : Int) < (nS : Int)) (hx94 : S[k]? = some (gt S k)) (h99 : (!(spec_l21Step (gt S k))) = true) (hq100 : (spec_l21Step (gt S k)) = false) : k + 1 ≤ nS ∧ runTo x S (k + 1) = (o, m) ∧ ChestOK o ∧ 0 ≤ m ∧ m ≤ (k + 1 : Int) := by
  have hh := ‹_ ∧ runTo _ _ _ = _ ∧ _›
  first | exact ⟨by omega, (run_yesS hh.2.1 ‹S[k]? = some _› ‹_› ‹_›).1, (run_yesS hh.2.1 ‹S[k]? = some _› ‹_› ‹_›).2, by omega, by omega⟩ | exact ⟨by omega, run_noS hh.2.1 ‹S[k]? = some _› (by simp_all), hh.2.2.1, by omega, by omega⟩
theorem z_c_spec_RunChest_102 (x : Chest) (nx_Stack : Nat) (hbdx_Stack : (nx_Stack : Int) ≤ 9223372036854775807) (hlex_Stack : nx_Stack = x.Stack.length) (S : List ChestStep) (nS : Nat) (hbdS : (nS : Int) ≤ 9223372036854775807) (hleS : nS = S.length) (h29 : ¬ ((¬ (ChestOK x)) ∨ (40 < (nS : Int)))) (hq44 : ChestOK x) (hq45 : ¬ (40 < (nS : Int))) (hq46 : x.Stack.length ≤ 10) (n50 : Nat) (hl55 : n50 = (x.Stack).length) (hl56 : (n50 : Int) ≤ 9223372036854775807) (k : Nat) (o : Chest) (m : Int) (n72 : Nat) (c72 : Nat) (hi82 : k ≤ nS ∧ runTo x S k = (o, m) ∧ ChestOK o ∧ 0 ≤ m ∧ m ≤ (k : Int)) (hl87 : n72 = (o.Stack).length) (hq89 : ChestOK o) (hq90 : o.Stack.length ≤ 10) (hq91 : 0 ≤ m ∧ m ≤ (k : Int)) (h92 : (k : Int) < (nS : Int)) (hx94 : S[k]? = some (gt S k)) (h99 : (!(spec_l21Step (gt S k))) = true) (hq100 : (spec_l21Step (gt S k)) = false) : nS - (k + 1) < nS - k := by
  omega
theorem z_c_spec_RunChest_189 (x : Chest) (nx_Stack : Nat) (hbdx_Stack : (nx_Stack : Int) ≤ 9223372036854775807) (hlex_Stack : nx_Stack = x.Stack.length) (S : List ChestStep) (nS : Nat) (hbdS : (nS : Int) ≤ 9223372036854775807) (hleS : nS = S.length) (h29 : ¬ ((¬ (ChestOK x)) ∨ (40 < (nS : Int)))) (hq44 : ChestOK x) (hq45 : ¬ (40 < (nS : Int))) (hq46 : x.Stack.length ≤ 10) (n50 : Nat) (hl55 : n50 = (x.Stack).length) (hl56 : (n50 : Int) ≤ 9223372036854775807) (k : Nat) (o : Chest) (m : Int) (n72 : Nat) (c72 : Nat) (hi82 : k ≤ nS ∧ runTo x S k = (o, m) ∧ ChestOK o ∧ 0 ≤ m ∧ m ≤ (k : Int)) (hl87 : n72 = (o.Stack).length) (hq89 : ChestOK o) (hq90 : o.Stack.length ≤ 10) (hq91 : 0 ≤ m ∧ m ≤ (k : Int)) (h92 : (k : Int) < (nS : Int)) (hx94 : S[k]? = some (gt S k)) (h99 : (!(spec_l21Step (gt S k))) = false) (hq103 : (spec_l21Step (gt S k)) = true) (hq104 : (0 ≤ (gt S k).Value ∧ (gt S k).Value ≤ 9999) ∧ 1 ≤ (gt S k).Kind ∧ (gt S k).Kind ≤ 7) (n112 : Nat) (hl118 : n112 = (((spec_l21Make o (gt S k)).1).Stack).length) (hl119 : (n112 : Int) ≤ 9223372036854775807) (h182 : ((spec_l21Make o (gt S k)).2) = true) : k + 1 ≤ nS ∧ runTo x S (k + 1) = (((spec_l21Make o (gt S k)).1), m + 1) ∧ ChestOK ((spec_l21Make o (gt S k)).1) ∧ 0 ≤ m + 1 ∧ m + 1 ≤ (k + 1 : Int) := by
  have hh := ‹_ ∧ runTo _ _ _ = _ ∧ _›
  first | exact ⟨by omega, (run_yesS hh.2.1 ‹S[k]? = some _› ‹_› ‹_›).1, (run_yesS hh.2.1 ‹S[k]? = some _› ‹_› ‹_›).2, by omega, by omega⟩ | exact ⟨by omega, run_noS hh.2.1 ‹S[k]? = some _› (by simp_all), hh.2.2.1, by omega, by omega⟩
theorem z_c_spec_RunChest_190 (x : Chest) (nx_Stack : Nat) (hbdx_Stack : (nx_Stack : Int) ≤ 9223372036854775807) (hlex_Stack : nx_Stack = x.Stack.length) (S : List ChestStep) (nS : Nat) (hbdS : (nS : Int) ≤ 9223372036854775807) (hleS : nS = S.length) (h29 : ¬ ((¬ (ChestOK x)) ∨ (40 < (nS : Int)))) (hq44 : ChestOK x) (hq45 : ¬ (40 < (nS : Int))) (hq46 : x.Stack.length ≤ 10) (n50 : Nat) (hl55 : n50 = (x.Stack).length) (hl56 : (n50 : Int) ≤ 9223372036854775807) (k : Nat) (o : Chest) (m : Int) (n72 : Nat) (c72 : Nat) (hi82 : k ≤ nS ∧ runTo x S k = (o, m) ∧ ChestOK o ∧ 0 ≤ m ∧ m ≤ (k : Int)) (hl87 : n72 = (o.Stack).length) (hq89 : ChestOK o) (hq90 : o.Stack.length ≤ 10) (hq91 : 0 ≤ m ∧ m ≤ (k : Int)) (h92 : (k : Int) < (nS : Int)) (hx94 : S[k]? = some (gt S k)) (h99 : (!(spec_l21Step (gt S k))) = false) (hq103 : (spec_l21Step (gt S k)) = true) (hq104 : (0 ≤ (gt S k).Value ∧ (gt S k).Value ≤ 9999) ∧ 1 ≤ (gt S k).Kind ∧ (gt S k).Kind ≤ 7) (n112 : Nat) (hl118 : n112 = (((spec_l21Make o (gt S k)).1).Stack).length) (hl119 : (n112 : Int) ≤ 9223372036854775807) (h182 : ((spec_l21Make o (gt S k)).2) = true) : nS - (k + 1) < nS - k := by
  omega
theorem z_c_spec_RunChest_191 (x : Chest) (nx_Stack : Nat) (hbdx_Stack : (nx_Stack : Int) ≤ 9223372036854775807) (hlex_Stack : nx_Stack = x.Stack.length) (S : List ChestStep) (nS : Nat) (hbdS : (nS : Int) ≤ 9223372036854775807) (hleS : nS = S.length) (h29 : ¬ ((¬ (ChestOK x)) ∨ (40 < (nS : Int)))) (hq44 : ChestOK x) (hq45 : ¬ (40 < (nS : Int))) (hq46 : x.Stack.length ≤ 10) (n50 : Nat) (hl55 : n50 = (x.Stack).length) (hl56 : (n50 : Int) ≤ 9223372036854775807) (k : Nat) (o : Chest) (m : Int) (n72 : Nat) (c72 : Nat) (hi82 : k ≤ nS ∧ runTo x S k = (o, m) ∧ ChestOK o ∧ 0 ≤ m ∧ m ≤ (k : Int)) (hl87 : n72 = (o.Stack).length) (hq89 : ChestOK o) (hq90 : o.Stack.length ≤ 10) (hq91 : 0 ≤ m ∧ m ≤ (k : Int)) (h92 : (k : Int) < (nS : Int)) (hx94 : S[k]? = some (gt S k)) (h99 : (!(spec_l21Step (gt S k))) = false) (hq103 : (spec_l21Step (gt S k)) = true) (hq104 : (0 ≤ (gt S k).Value ∧ (gt S k).Value ≤ 9999) ∧ 1 ≤ (gt S k).Kind ∧ (gt S k).Kind ≤ 7) (n112 : Nat) (hl118 : n112 = (((spec_l21Make o (gt S k)).1).Stack).length) (hl119 : (n112 : Int) ≤ 9223372036854775807) (h182 : ((spec_l21Make o (gt S k)).2) = false) : k + 1 ≤ nS ∧ runTo x S (k + 1) = (o, m) ∧ ChestOK o ∧ 0 ≤ m ∧ m ≤ (k + 1 : Int) := by
  have hh := ‹_ ∧ runTo _ _ _ = _ ∧ _›
  first | exact ⟨by omega, (run_yesS hh.2.1 ‹S[k]? = some _› ‹_› ‹_›).1, (run_yesS hh.2.1 ‹S[k]? = some _› ‹_› ‹_›).2, by omega, by omega⟩ | exact ⟨by omega, run_noS hh.2.1 ‹S[k]? = some _› (by simp_all), hh.2.2.1, by omega, by omega⟩
theorem z_c_spec_RunChest_192 (x : Chest) (nx_Stack : Nat) (hbdx_Stack : (nx_Stack : Int) ≤ 9223372036854775807) (hlex_Stack : nx_Stack = x.Stack.length) (S : List ChestStep) (nS : Nat) (hbdS : (nS : Int) ≤ 9223372036854775807) (hleS : nS = S.length) (h29 : ¬ ((¬ (ChestOK x)) ∨ (40 < (nS : Int)))) (hq44 : ChestOK x) (hq45 : ¬ (40 < (nS : Int))) (hq46 : x.Stack.length ≤ 10) (n50 : Nat) (hl55 : n50 = (x.Stack).length) (hl56 : (n50 : Int) ≤ 9223372036854775807) (k : Nat) (o : Chest) (m : Int) (n72 : Nat) (c72 : Nat) (hi82 : k ≤ nS ∧ runTo x S k = (o, m) ∧ ChestOK o ∧ 0 ≤ m ∧ m ≤ (k : Int)) (hl87 : n72 = (o.Stack).length) (hq89 : ChestOK o) (hq90 : o.Stack.length ≤ 10) (hq91 : 0 ≤ m ∧ m ≤ (k : Int)) (h92 : (k : Int) < (nS : Int)) (hx94 : S[k]? = some (gt S k)) (h99 : (!(spec_l21Step (gt S k))) = false) (hq103 : (spec_l21Step (gt S k)) = true) (hq104 : (0 ≤ (gt S k).Value ∧ (gt S k).Value ≤ 9999) ∧ 1 ≤ (gt S k).Kind ∧ (gt S k).Kind ≤ 7) (n112 : Nat) (hl118 : n112 = (((spec_l21Make o (gt S k)).1).Stack).length) (hl119 : (n112 : Int) ≤ 9223372036854775807) (h182 : ((spec_l21Make o (gt S k)).2) = false) : nS - (k + 1) < nS - k := by
  omega
theorem z_c_spec_RunChest_199 (x : Chest) (nx_Stack : Nat) (hbdx_Stack : (nx_Stack : Int) ≤ 9223372036854775807) (hlex_Stack : nx_Stack = x.Stack.length) (S : List ChestStep) (nS : Nat) (hbdS : (nS : Int) ≤ 9223372036854775807) (hleS : nS = S.length) (h29 : ¬ ((¬ (ChestOK x)) ∨ (40 < (nS : Int)))) (hq44 : ChestOK x) (hq45 : ¬ (40 < (nS : Int))) (hq46 : x.Stack.length ≤ 10) (n50 : Nat) (hl55 : n50 = (x.Stack).length) (hl56 : (n50 : Int) ≤ 9223372036854775807) (k : Nat) (o : Chest) (m : Int) (n72 : Nat) (c72 : Nat) (hi82 : k ≤ nS ∧ runTo x S k = (o, m) ∧ ChestOK o ∧ 0 ≤ m ∧ m ≤ (k : Int)) (hl87 : n72 = (o.Stack).length) (hq89 : ChestOK o) (hq90 : o.Stack.length ≤ 10) (hq91 : 0 ≤ m ∧ m ≤ (k : Int)) (h92 : ¬ ((k : Int) < (nS : Int))) : o.Stack = ((runF x S).1).Stack := by
  subst hleS
  first | (rw [runF_no ‹_›]; done) | (rw [runF_no ‹_›]; rfl) | (rw [runF_yes ‹_› (And.left (And.right ‹_ ∧ runTo _ _ _ = _ ∧ _›)) (by omega)]; done) | (rw [runF_yes ‹_› (And.left (And.right ‹_ ∧ runTo _ _ _ = _ ∧ _›)) (by omega)]; rfl)
theorem z_c_spec_RunChest_200 (x : Chest) (nx_Stack : Nat) (hbdx_Stack : (nx_Stack : Int) ≤ 9223372036854775807) (hlex_Stack : nx_Stack = x.Stack.length) (S : List ChestStep) (nS : Nat) (hbdS : (nS : Int) ≤ 9223372036854775807) (hleS : nS = S.length) (h29 : ¬ ((¬ (ChestOK x)) ∨ (40 < (nS : Int)))) (hq44 : ChestOK x) (hq45 : ¬ (40 < (nS : Int))) (hq46 : x.Stack.length ≤ 10) (n50 : Nat) (hl55 : n50 = (x.Stack).length) (hl56 : (n50 : Int) ≤ 9223372036854775807) (k : Nat) (o : Chest) (m : Int) (n72 : Nat) (c72 : Nat) (hi82 : k ≤ nS ∧ runTo x S k = (o, m) ∧ ChestOK o ∧ 0 ≤ m ∧ m ≤ (k : Int)) (hl87 : n72 = (o.Stack).length) (hq89 : ChestOK o) (hq90 : o.Stack.length ≤ 10) (hq91 : 0 ≤ m ∧ m ≤ (k : Int)) (h92 : ¬ ((k : Int) < (nS : Int))) : o.State = ((runF x S).1).State := by
  subst hleS
  first | (rw [runF_no ‹_›]; done) | (rw [runF_no ‹_›]; rfl) | (rw [runF_yes ‹_› (And.left (And.right ‹_ ∧ runTo _ _ _ = _ ∧ _›)) (by omega)]; done) | (rw [runF_yes ‹_› (And.left (And.right ‹_ ∧ runTo _ _ _ = _ ∧ _›)) (by omega)]; rfl)
theorem z_c_spec_RunChest_201 (x : Chest) (nx_Stack : Nat) (hbdx_Stack : (nx_Stack : Int) ≤ 9223372036854775807) (hlex_Stack : nx_Stack = x.Stack.length) (S : List ChestStep) (nS : Nat) (hbdS : (nS : Int) ≤ 9223372036854775807) (hleS : nS = S.length) (h29 : ¬ ((¬ (ChestOK x)) ∨ (40 < (nS : Int)))) (hq44 : ChestOK x) (hq45 : ¬ (40 < (nS : Int))) (hq46 : x.Stack.length ≤ 10) (n50 : Nat) (hl55 : n50 = (x.Stack).length) (hl56 : (n50 : Int) ≤ 9223372036854775807) (k : Nat) (o : Chest) (m : Int) (n72 : Nat) (c72 : Nat) (hi82 : k ≤ nS ∧ runTo x S k = (o, m) ∧ ChestOK o ∧ 0 ≤ m ∧ m ≤ (k : Int)) (hl87 : n72 = (o.Stack).length) (hq89 : ChestOK o) (hq90 : o.Stack.length ≤ 10) (hq91 : 0 ≤ m ∧ m ≤ (k : Int)) (h92 : ¬ ((k : Int) < (nS : Int))) : o.Key = ((runF x S).1).Key := by
  subst hleS
  first | (rw [runF_no ‹_›]; done) | (rw [runF_no ‹_›]; rfl) | (rw [runF_yes ‹_› (And.left (And.right ‹_ ∧ runTo _ _ _ = _ ∧ _›)) (by omega)]; done) | (rw [runF_yes ‹_› (And.left (And.right ‹_ ∧ runTo _ _ _ = _ ∧ _›)) (by omega)]; rfl)
theorem z_c_spec_RunChest_202 (x : Chest) (nx_Stack : Nat) (hbdx_Stack : (nx_Stack : Int) ≤ 9223372036854775807) (hlex_Stack : nx_Stack = x.Stack.length) (S : List ChestStep) (nS : Nat) (hbdS : (nS : Int) ≤ 9223372036854775807) (hleS : nS = S.length) (h29 : ¬ ((¬ (ChestOK x)) ∨ (40 < (nS : Int)))) (hq44 : ChestOK x) (hq45 : ¬ (40 < (nS : Int))) (hq46 : x.Stack.length ≤ 10) (n50 : Nat) (hl55 : n50 = (x.Stack).length) (hl56 : (n50 : Int) ≤ 9223372036854775807) (k : Nat) (o : Chest) (m : Int) (n72 : Nat) (c72 : Nat) (hi82 : k ≤ nS ∧ runTo x S k = (o, m) ∧ ChestOK o ∧ 0 ≤ m ∧ m ≤ (k : Int)) (hl87 : n72 = (o.Stack).length) (hq89 : ChestOK o) (hq90 : o.Stack.length ≤ 10) (hq91 : 0 ≤ m ∧ m ≤ (k : Int)) (h92 : ¬ ((k : Int) < (nS : Int))) : o.Dust = ((runF x S).1).Dust := by
  subst hleS
  first | (rw [runF_no ‹_›]; done) | (rw [runF_no ‹_›]; rfl) | (rw [runF_yes ‹_› (And.left (And.right ‹_ ∧ runTo _ _ _ = _ ∧ _›)) (by omega)]; done) | (rw [runF_yes ‹_› (And.left (And.right ‹_ ∧ runTo _ _ _ = _ ∧ _›)) (by omega)]; rfl)
theorem z_c_spec_RunChest_203 (x : Chest) (nx_Stack : Nat) (hbdx_Stack : (nx_Stack : Int) ≤ 9223372036854775807) (hlex_Stack : nx_Stack = x.Stack.length) (S : List ChestStep) (nS : Nat) (hbdS : (nS : Int) ≤ 9223372036854775807) (hleS : nS = S.length) (h29 : ¬ ((¬ (ChestOK x)) ∨ (40 < (nS : Int)))) (hq44 : ChestOK x) (hq45 : ¬ (40 < (nS : Int))) (hq46 : x.Stack.length ≤ 10) (n50 : Nat) (hl55 : n50 = (x.Stack).length) (hl56 : (n50 : Int) ≤ 9223372036854775807) (k : Nat) (o : Chest) (m : Int) (n72 : Nat) (c72 : Nat) (hi82 : k ≤ nS ∧ runTo x S k = (o, m) ∧ ChestOK o ∧ 0 ≤ m ∧ m ≤ (k : Int)) (hl87 : n72 = (o.Stack).length) (hq89 : ChestOK o) (hq90 : o.Stack.length ≤ 10) (hq91 : 0 ≤ m ∧ m ≤ (k : Int)) (h92 : ¬ ((k : Int) < (nS : Int))) : o.Laid = ((runF x S).1).Laid := by
  subst hleS
  first | (rw [runF_no ‹_›]; done) | (rw [runF_no ‹_›]; rfl) | (rw [runF_yes ‹_› (And.left (And.right ‹_ ∧ runTo _ _ _ = _ ∧ _›)) (by omega)]; done) | (rw [runF_yes ‹_› (And.left (And.right ‹_ ∧ runTo _ _ _ = _ ∧ _›)) (by omega)]; rfl)
theorem z_c_spec_RunChest_204 (x : Chest) (nx_Stack : Nat) (hbdx_Stack : (nx_Stack : Int) ≤ 9223372036854775807) (hlex_Stack : nx_Stack = x.Stack.length) (S : List ChestStep) (nS : Nat) (hbdS : (nS : Int) ≤ 9223372036854775807) (hleS : nS = S.length) (h29 : ¬ ((¬ (ChestOK x)) ∨ (40 < (nS : Int)))) (hq44 : ChestOK x) (hq45 : ¬ (40 < (nS : Int))) (hq46 : x.Stack.length ≤ 10) (n50 : Nat) (hl55 : n50 = (x.Stack).length) (hl56 : (n50 : Int) ≤ 9223372036854775807) (k : Nat) (o : Chest) (m : Int) (n72 : Nat) (c72 : Nat) (hi82 : k ≤ nS ∧ runTo x S k = (o, m) ∧ ChestOK o ∧ 0 ≤ m ∧ m ≤ (k : Int)) (hl87 : n72 = (o.Stack).length) (hq89 : ChestOK o) (hq90 : o.Stack.length ≤ 10) (hq91 : 0 ≤ m ∧ m ≤ (k : Int)) (h92 : ¬ ((k : Int) < (nS : Int))) : o.Given = ((runF x S).1).Given := by
  subst hleS
  first | (rw [runF_no ‹_›]; done) | (rw [runF_no ‹_›]; rfl) | (rw [runF_yes ‹_› (And.left (And.right ‹_ ∧ runTo _ _ _ = _ ∧ _›)) (by omega)]; done) | (rw [runF_yes ‹_› (And.left (And.right ‹_ ∧ runTo _ _ _ = _ ∧ _›)) (by omega)]; rfl)
theorem z_c_spec_RunChest_205 (x : Chest) (nx_Stack : Nat) (hbdx_Stack : (nx_Stack : Int) ≤ 9223372036854775807) (hlex_Stack : nx_Stack = x.Stack.length) (S : List ChestStep) (nS : Nat) (hbdS : (nS : Int) ≤ 9223372036854775807) (hleS : nS = S.length) (h29 : ¬ ((¬ (ChestOK x)) ∨ (40 < (nS : Int)))) (hq44 : ChestOK x) (hq45 : ¬ (40 < (nS : Int))) (hq46 : x.Stack.length ≤ 10) (n50 : Nat) (hl55 : n50 = (x.Stack).length) (hl56 : (n50 : Int) ≤ 9223372036854775807) (k : Nat) (o : Chest) (m : Int) (n72 : Nat) (c72 : Nat) (hi82 : k ≤ nS ∧ runTo x S k = (o, m) ∧ ChestOK o ∧ 0 ≤ m ∧ m ≤ (k : Int)) (hl87 : n72 = (o.Stack).length) (hq89 : ChestOK o) (hq90 : o.Stack.length ≤ 10) (hq91 : 0 ≤ m ∧ m ≤ (k : Int)) (h92 : ¬ ((k : Int) < (nS : Int))) : m = (runF x S).2.1 := by
  subst hleS
  first | (rw [runF_no ‹_›]; done) | (rw [runF_no ‹_›]; rfl) | (rw [runF_yes ‹_› (And.left (And.right ‹_ ∧ runTo _ _ _ = _ ∧ _›)) (by omega)]; done) | (rw [runF_yes ‹_› (And.left (And.right ‹_ ∧ runTo _ _ _ = _ ∧ _›)) (by omega)]; rfl)
theorem z_c_spec_RunChest_206 (x : Chest) (nx_Stack : Nat) (hbdx_Stack : (nx_Stack : Int) ≤ 9223372036854775807) (hlex_Stack : nx_Stack = x.Stack.length) (S : List ChestStep) (nS : Nat) (hbdS : (nS : Int) ≤ 9223372036854775807) (hleS : nS = S.length) (h29 : ¬ ((¬ (ChestOK x)) ∨ (40 < (nS : Int)))) (hq44 : ChestOK x) (hq45 : ¬ (40 < (nS : Int))) (hq46 : x.Stack.length ≤ 10) (n50 : Nat) (hl55 : n50 = (x.Stack).length) (hl56 : (n50 : Int) ≤ 9223372036854775807) (k : Nat) (o : Chest) (m : Int) (n72 : Nat) (c72 : Nat) (hi82 : k ≤ nS ∧ runTo x S k = (o, m) ∧ ChestOK o ∧ 0 ≤ m ∧ m ≤ (k : Int)) (hl87 : n72 = (o.Stack).length) (hq89 : ChestOK o) (hq90 : o.Stack.length ≤ 10) (hq91 : 0 ≤ m ∧ m ≤ (k : Int)) (h92 : ¬ ((k : Int) < (nS : Int))) : true = (runF x S).2.2 := by
  subst hleS
  first | (rw [runF_no ‹_›]; done) | (rw [runF_no ‹_›]; rfl) | (rw [runF_yes ‹_› (And.left (And.right ‹_ ∧ runTo _ _ _ = _ ∧ _›)) (by omega)]; done) | (rw [runF_yes ‹_› (And.left (And.right ‹_ ∧ runTo _ _ _ = _ ∧ _›)) (by omega)]; rfl)
theorem c_spec_RunChest (w : World) (x : Chest) {Ax_Stack : Option Addr} {nx_Stack cx_Stack Bx_Stack : Nat} (hx_Stack : SlR w Bx_Stack encI 1 Ax_Stack nx_Stack cx_Stack x.Stack) {AS : Option Addr} {nS cS BS : Nat}  (S : List ChestStep) (hS : SlR w BS encChestStep 2 AS nS cS S) : Calls Try.prog 26 #[.agg (List.toArray [.int .i64 x.State, .int .i64 x.Key, .slice Ax_Stack nx_Stack cx_Stack, .int .i64 x.Dust, .int .i64 x.Laid, .int .i64 x.Given]), .slice AS nS cS] w fun e w' => ∃ (A1' : Option Addr) (n1' c1' : Nat), e = .returned (.tuple (List.toArray [.agg (List.toArray [.int .i64 (((runF x S).1).State), .int .i64 (((runF x S).1).Key), .slice A1' n1' c1', .int .i64 (((runF x S).1).Dust), .int .i64 (((runF x S).1).Laid), .int .i64 (((runF x S).1).Given)]), .int .i64 ((runF x S).2.1), .bool ((runF x S).2.2)])) ∧ SlO w' w.heap.size encI 1 3 A1' n1' c1' (((runF x S).1).Stack) ∧ Lo w w' := by
  refine calls_W 50 Try.func26 rfl rfl rfl ?_
  have hbdx_Stack := hx_Stack.bound
  have hlex_Stack := hx_Stack.len
  have hBbx_Stack := hx_Stack.bd
  have hbdS := hS.bound
  have hleS := hS.len
  have hBbS := hS.bd
  refine W.seq ?_
  refine W.regS (SR.box (v := .agg (List.toArray _)) (l := [.int .i64 x.State, .int .i64 x.Key, .slice Ax_Stack nx_Stack cx_Stack, .int .i64 x.Dust, .int .i64 x.Laid, .int .i64 x.Given]) rfl rfl ?_)
  intro g1 w2 hg3 hk4 hs5 hb6
  have hz7 := hk4.size
  have hB8 := (Lo.refl w).lo hk4
  refine SR.alloc (l := [.int .i64 0, .int .i64 0, .slice none 0 0, .int .i64 0, .int .i64 0, .int .i64 0]) tz28 rfl ?_
  intro g9 w10 hg11 hk12 hs13 hb14
  have hz15 := hk12.size
  have hB16 := hB8.lo hk12
  refine SR.q' (r_as (v := .int .i64 0) rfl) <| SR.q' (r_as (v := .bool false) rfl) <| SR.nil ?_
  refine W.seq ?_
  refine W.seq ?_
  refine W.regJS (fun f' w' => At f' [(1, .slice AS nS cS), (2, .pointer (some ((⟨g1, 0, none⟩ : Addr)))), (4, .pointer (some ((⟨g9, 0, none⟩ : Addr)))), (5, .int .i64 0), (6, .bool false), (19, .bool (decide ((¬ (ChestOK x)) ∨ (40 < (nS : Int)))))] ∧ Lo w10 w') ?_ ?_
  · refine SR.q' (r_lda (l := [.int .i64 x.State, .int .i64 x.Key, .slice Ax_Stack nx_Stack cx_Stack, .int .i64 x.Dust, .int .i64 x.Laid, .int .i64 x.Given]) agg28 rfl (fun _ _ hu => ((hb6).lo hk12).cell hu) rfl) <| SR.call ent58 (c_spec_l21Good w10 x ((((hx_Stack).lo hk4).lo hk12))) rfl ?_
    rintro e w17 ⟨rfl, hk18⟩
    refine ⟨_, rfl, ?_⟩
    have hz19 := hk18.size
    have hB20 := hB16.lo hk18
    refine SR.q' (r_not rfl) <| SR.q' (r_mv (v := .bool _) rfl) <| SR.splitN (fun h21 => ?_) (fun h21 => ?_)
    · refine SR.s' rfl <| SR.s' rfl <| SR.s' rfl <| SR.q' (r_pick true rfl (v := .bool true) rfl) <| SR.nil ?_
      exact ⟨_, rfl, ⟨⟨rfl, rfl, rfl, rfl, rfl, (eDT ((jmf h21).1 trivial)), trivial⟩, (hk18)⟩⟩
    · have hq22 := chest_len h21
      refine SR.g' rfl (r_mv (v := .slice _ _ _) rfl) <| SR.g' rfl (r_len und54 rfl) <| SR.g' rfl (r_gt rfl rfl) <| SR.q' (r_pick false rfl (v := .bool _) rfl) <| SR.nil ?_
      exact ⟨_, rfl, ⟨⟨rfl, rfl, rfl, rfl, rfl, (eDD (jmt h21)), trivial⟩, (hk18)⟩⟩
  rintro f23 w24 ⟨hat25, hk26⟩
  rw [← sets_of_at hat25]
  have hz27 := hk26.size
  have hB28 := hB16.lo hk26
  refine W.cond_d rfl (fun h29 => ?_) (fun h29 => ?_)
  · refine W.seq ?_
    refine W.regS (SR.q' (r_build (vs := []) rfl (bld28_)) <| SR.store (o := 0) (vs := [.int .i64 0, .int .i64 0, .slice none 0 0, .int .i64 0, .int .i64 0, .int .i64 0]) agg28.2 rfl rfl rfl rfl ((hb14).lo hk26) (Nat.le_of_ble_eq_true rfl) rfl ?_)
    intro w30 hk31 hs32 hb33
    have hz34 := hk31.size
    have hB35 := hB28.new hk31 (by omega)
    refine SR.q' (r_as (v := .int .i64 0) rfl) <| SR.q' (r_as (v := .bool false) rfl) <| SR.nil ?_
    refine W.ret ?_
    refine retCTT rfl rfl agg28 (hb33) rfl (v := .int .i64 _) rfl (v' := .bool _) rfl ?_
    exact ⟨none, 0, 0, eR (eT3 (eA (eC (eI (z_c_spec_RunChest_37 x nx_Stack hbdx_Stack hlex_Stack S nS hbdS hleS h29)) (eC (eI (z_c_spec_RunChest_38 x nx_Stack hbdx_Stack hlex_Stack S nS hbdS hleS h29)) (eC rfl (eC (eI (z_c_spec_RunChest_39 x nx_Stack hbdx_Stack hlex_Stack S nS hbdS hleS h29)) (eC (eI (z_c_spec_RunChest_40 x nx_Stack hbdx_Stack hlex_Stack S nS hbdS hleS h29)) (eC (eI (z_c_spec_RunChest_41 x nx_Stack hbdx_Stack hlex_Stack S nS hbdS hleS h29)) rfl))))))) (eI (z_c_spec_RunChest_42 x nx_Stack hbdx_Stack hlex_Stack S nS hbdS hleS h29)) (eB (z_c_spec_RunChest_43 x nx_Stack hbdx_Stack hlex_Stack S nS hbdS hleS h29))), (SlO.eqv (SlO.nil (e := 3) (enc := encI) (fun _ => rfl) (by omega)) (z_c_spec_RunChest_36 x nx_Stack hbdx_Stack hlex_Stack S nS hbdS hleS h29)), hB35⟩
  · have hq44 : ChestOK x := (Classical.not_not.1 (not_or.1 h29).1)
    have hq45 : ¬ (40 < (nS : Int)) := (not_or.1 h29).2
    have hq46 := chest_len hq44
    refine W.skip ?_
    refine W.seq ?_
    refine W.regS (SR.q' (r_lda (l := [.int .i64 x.State, .int .i64 x.Key, .slice Ax_Stack nx_Stack cx_Stack, .int .i64 x.Dust, .int .i64 x.Laid, .int .i64 x.Given]) agg28 rfl (fun _ _ hu => (((hb6).lo hk12).lo hk26).cell hu) rfl) <| SR.call ent70 (c_spec_l21Own w24 x (((((hx_Stack).lo hk4).lo hk12).lo hk26)) (by omega)) rfl ?_)
    rintro e w47 ⟨A49, n50, c51, rfl, hO52, hk48⟩
    refine ⟨_, rfl, ?_⟩
    have hz53 := hk48.size
    have hB54 := hB28.lo hk48
    have hl55 := hO52.len
    have hl56 := hO52.rd.bound
    refine SR.alloc (l := [.int .i64 0, .int .i64 0, .slice none 0 0, .int .i64 0, .int .i64 0, .int .i64 0]) tz28 rfl ?_
    intro g57 w58 hg59 hk60 hs61 hb62
    have hz63 := hk60.size
    have hB64 := hB54.lo hk60
    have hd65 : ¬ A49 = some ⟨g57, 0, none⟩ := fun e' => by have := (hO52).base_le e'; omega
    refine SR.store (o := 0) (vs := [.int .i64 x.State, .int .i64 x.Key, .slice A49 n50 c51, .int .i64 x.Dust, .int .i64 x.Laid, .int .i64 x.Given]) agg28.2 rfl rfl rfl rfl (hb62) (Nat.le_of_ble_eq_true rfl) rfl ?_
    intro w66 hk67 hs68 hb69
    have hz70 := hk67.size
    have hB71 := hB64.new hk67 (by omega)
    refine SR.q' (r_as (v := .int .i64 0) rfl) <| SR.nil ?_
    refine W.seq ?_
    refine W.seq ?_
    refine W.regS (SR.q' (r_as (v := .int .i64 0) rfl) <| SR.nil ?_)
    refine W.block ?_
    refine W.loop (σ := Nat × Chest × Int × (Option Addr) × Nat × Nat) (fun g => [(1, .slice AS nS cS), (4, .pointer (some ((⟨g9, 0, none⟩ : Addr)))), (5, .int .i64 0), (6, .bool false), (7, .pointer (some ((⟨g57, 0, none⟩ : Addr)))), (8, .int .i64 g.2.2.1), (9, .int .i64 (g.1 : Int))]) (fun g w' => (Lo w w') ∧ (SlR w' BS encChestStep 2 AS nS cS S) ∧ (Blk w' g9 28 [.int .i64 0, .int .i64 0, .slice none 0 0, .int .i64 0, .int .i64 0, .int .i64 0]) ∧ (Blk w' g57 28 [.int .i64 g.2.1.State, .int .i64 g.2.1.Key, .slice g.2.2.2.1 g.2.2.2.2.1 g.2.2.2.2.2, .int .i64 g.2.1.Dust, .int .i64 g.2.1.Laid, .int .i64 g.2.1.Given]) ∧ (SlO w' w.heap.size encI 1 3 g.2.2.2.1 g.2.2.2.2.1 g.2.2.2.2.2 g.2.1.Stack) ∧ (¬ g.2.2.2.1 = some ⟨g9, 0, none⟩) ∧ (¬ g.2.2.2.1 = some ⟨g57, 0, none⟩) ∧ (g.1 ≤ nS ∧ runTo x S g.1 = (g.2.1, g.2.2.1) ∧ ChestOK g.2.1 ∧ 0 ≤ g.2.2.1 ∧ g.2.2.1 ≤ (g.1 : Int))) (fun g => nS - g.1) (0, x, (0 : Int), A49, n50, c51) ?_ ?_ ?_
    · exact ⟨rfl, rfl, rfl, rfl, rfl, rfl, rfl, trivial⟩
    · show (Lo w w66) ∧ (SlR w66 BS encChestStep 2 AS nS cS S) ∧ (Blk w66 g9 28 [.int .i64 0, .int .i64 0, .slice none 0 0, .int .i64 0, .int .i64 0, .int .i64 0]) ∧ (Blk w66 g57 28 [.int .i64 x.State, .int .i64 x.Key, .slice A49 n50 c51, .int .i64 x.Dust, .int .i64 x.Laid, .int .i64 x.Given]) ∧ (SlO w66 w.heap.size encI 1 3 A49 n50 c51 x.Stack) ∧ (¬ A49 = some ⟨g9, 0, none⟩) ∧ (¬ A49 = some ⟨g57, 0, none⟩) ∧ (0 ≤ nS ∧ runTo x S 0 = (x, (0 : Int)) ∧ ChestOK x ∧ 0 ≤ (0 : Int) ∧ (0 : Int) ≤ (0 : Int))
      exact ⟨hB71, ((((((hS).lo hk4).lo hk12).lo hk26).lo hk48).lo hk60).kp hk67 (fun b_ hb e' => by have e'' : b_ = g57 := e'; omega), ((((hb14).lo hk26).lo hk48).lo hk60).kp hk67 (fun e' => by have e'' : g9 = g57 := e'; omega), (hb69), ((((hO52).lo hk60).kp hk67 (fun b_ hb e' => hd65 (by have e'' : b_ = g57 := e'; rw [← e'']; exact hb))).down (by omega)), (fun e' => by have := (((hO52).lo hk60).kp hk67 (fun b_ hb e' => hd65 (by have e'' : b_ = g57 := e'; rw [← e'']; exact hb))).base_le e'; omega), hd65, (z_c_spec_RunChest_73 x nx_Stack hbdx_Stack hlex_Stack S nS hbdS hleS h29 hq44 hq45 hq46 n50 hl55 hl56)⟩
    · rintro ⟨k, o, m, A72, n72, c72⟩ f74 w75 hP77
      obtain ⟨hB76, hm78, hm79, hm80, hO81, hd83, hd84, hi82⟩ : (Lo w w75) ∧ (SlR w75 BS encChestStep 2 AS nS cS S) ∧ (Blk w75 g9 28 [.int .i64 0, .int .i64 0, .slice none 0 0, .int .i64 0, .int .i64 0, .int .i64 0]) ∧ (Blk w75 g57 28 [.int .i64 o.State, .int .i64 o.Key, .slice A72 n72 c72, .int .i64 o.Dust, .int .i64 o.Laid, .int .i64 o.Given]) ∧ (SlO w75 w.heap.size encI 1 3 A72 n72 c72 o.Stack) ∧ (¬ A72 = some ⟨g9, 0, none⟩) ∧ (¬ A72 = some ⟨g57, 0, none⟩) ∧ (k ≤ nS ∧ runTo x S k = (o, m) ∧ ChestOK o ∧ 0 ≤ m ∧ m ≤ (k : Int)) := hP77
      refine (?_ : W _ _ _ _ _ (act _ (sets f74 [(1, .slice AS nS cS), (4, .pointer (some ((⟨g9, 0, none⟩ : Addr)))), (5, .int .i64 0), (6, .bool false), (7, .pointer (some ((⟨g57, 0, none⟩ : Addr)))), (8, .int .i64 m), (9, .int .i64 (k : Int))])) _)
      have hzw75 := hB76.size
      have hl85 := hm79.lt
      have hl86 := hm80.lt
      have hl87 := hO81.len
      have hl88 := hO81.rd.bound
      have hq89 : ChestOK o := hi82.2.2.1
      have hq90 : o.Stack.length ≤ 10 := (chest_rng hi82.2.2.1).1
      have hq91 : 0 ≤ m ∧ m ≤ (k : Int) := hi82.2.2.2
      refine W.seq ?_
      refine W.seq ?_
      refine W.regS (SR.q' (r_mv (v := .int .i64 _) rfl) <| SR.q' (r_mv (v := .slice _ _ _) rfl) <| SR.q' (r_len und54 rfl) <| SR.q' (r_lt rfl rfl) <| SR.nil ?_)
      refine W.cond_d rfl (fun h92 => ?_) (fun h92 => ?_)
      · refine W.skip ?_
        refine W.seq ?_
        refine W.block ?_
        refine W.seq ?_
        refine W.seq ?_
        refine W.regS (SR.q' (r_mv (v := .slice _ _ _) rfl) <| SR.q' (r_mv (v := .int .i64 _) rfl) <| ?_)
        have hx94 := (hm78).elem (i := k) (by omega)
        refine SR.q' (r_ixR tsl54 (hm78) rfl rfl (by omega)) <| SR.q' (r_lda (l := encChestStep (gt S k)) agg32 rfl (fun _ _ hu => (hm78).cell hx94 hu) ((hm78).esz _)) <| SR.call ent59 (c_spec_l21Step w75 (gt S k)) rfl ?_
        rintro e w95 ⟨rfl, hk96⟩
        refine ⟨_, rfl, ?_⟩
        have hz97 := hk96.size
        have hB98 := hB76.lo hk96
        refine SR.q' (r_not rfl) <| SR.nil ?_
        refine W.cond_b rfl (fun h99 => ?_) (fun h99 => ?_)
        · have hq100 := bnot_t h99
          refine W.exit (xin_here ?_)
          refine W.regS (SR.q' (r_mv (v := .int .i64 _) rfl) <| SR.q' (r_add rfl rfl (by omega)) <| SR.q' (r_as (v := .int .i64 _) rfl) <| SR.nil ?_)
          refine ⟨(k + 1, o, m, A72, n72, c72), _, rfl, ⟨rfl, rfl, rfl, rfl, rfl, rfl, rfl, trivial⟩, (show (Lo w w95) ∧ (SlR w95 BS encChestStep 2 AS nS cS S) ∧ (Blk w95 g9 28 [.int .i64 0, .int .i64 0, .slice none 0 0, .int .i64 0, .int .i64 0, .int .i64 0]) ∧ (Blk w95 g57 28 [.int .i64 o.State, .int .i64 o.Key, .slice A72 n72 c72, .int .i64 o.Dust, .int .i64 o.Laid, .int .i64 o.Given]) ∧ (SlO w95 w.heap.size encI 1 3 A72 n72 c72 o.Stack) ∧ (¬ A72 = some ⟨g9, 0, none⟩) ∧ (¬ A72 = some ⟨g57, 0, none⟩) ∧ (k + 1 ≤ nS ∧ runTo x S (k + 1) = (o, m) ∧ ChestOK o ∧ 0 ≤ m ∧ m ≤ (k + 1 : Int)) from ⟨hB98, (hm78).lo hk96, (hm79).lo hk96, ((hm80).lo hk96), ((hO81).lo hk96), hd83, hd84, ?_⟩), ?_⟩
          · exact (z_c_spec_RunChest_101 x nx_Stack hbdx_Stack hlex_Stack S nS hbdS hleS h29 hq44 hq45 hq46 n50 hl55 hl56 k o m n72 c72 hi82 hl87 hq89 hq90 hq91 h92 hx94 h99 hq100)
          · exact (z_c_spec_RunChest_102 x nx_Stack hbdx_Stack hlex_Stack S nS hbdS hleS h29 hq44 hq45 hq46 n50 hl55 hl56 k o m n72 c72 hi82 hl87 hq89 hq90 hq91 h92 hx94 h99 hq100)
        · have hq103 := bnot_f h99
          have hq104 := cstep_rng' hq103
          refine W.skip ?_
          refine W.seq ?_
          refine W.regA (Lo w95) (fun f' w' => ∃ (A111 : Option Addr), ∃ (n112 : Nat), ∃ (c113 : Nat), ∃ (g120 : Nat), At f' [(1, .slice AS nS cS), (4, .pointer (some ((⟨g9, 0, none⟩ : Addr)))), (5, .int .i64 0), (6, .bool false), (7, .pointer (some ((⟨g57, 0, none⟩ : Addr)))), (8, .int .i64 m), (9, .int .i64 (k : Int)), (10, .pointer (some ((⟨g120, 0, none⟩ : Addr)))), (11, .bool ((spec_l21Make o (gt S k)).2))] ∧ (Lo w95 w') ∧ (SlO w' w95.heap.size encI 1 3 A111 n112 c113 (((spec_l21Make o (gt S k)).1).Stack)) ∧ (Blk w' g120 28 [.int .i64 (((spec_l21Make o (gt S k)).1).State), .int .i64 (((spec_l21Make o (gt S k)).1).Key), .slice A111 n112 c113, .int .i64 (((spec_l21Make o (gt S k)).1).Dust), .int .i64 (((spec_l21Make o (gt S k)).1).Laid), .int .i64 (((spec_l21Make o (gt S k)).1).Given)]) ∧ (w95.heap.size ≤ g120 ∧ g120 < w'.heap.size) ∧ (¬ A72 = some ⟨g120, 0, none⟩) ∧ (¬ A111 = some ⟨g120, 0, none⟩) ∧ (∀ b_, A111 = some ⟨b_, 0, none⟩ → ¬ A72 = some ⟨b_, 0, none⟩) ∧ (n112 = (((spec_l21Make o (gt S k)).1).Stack).length) ∧ ((n112 : Int) ≤ 9223372036854775807)) mo ?_ ?_
          · intro w105 hk106
            have hz107 := hk106.size
            have hB108 := hB98.lo hk106
            refine AH.take 0 rfl (by kernel_rfl) trivial (hk106) (fun w' hw' => r_lda (l := [.int .i64 o.State, .int .i64 o.Key, .slice A72 n72 c72, .int .i64 o.Dust, .int .i64 o.Laid, .int .i64 o.Given]) agg28 rfl (fun _ _ hu => (((hm80).lo hk96).lo hw').cell hu) rfl) <| AH.take 1 rfl (by kernel_rfl) trivial (hk106) (fun w' hw' => r_mv (v := .slice _ _ _) rfl) <| AH.take 2 rfl (by kernel_rfl) trivial (hk106) (fun w' hw' => r_mv (v := .int .i64 _) rfl) <| AH.take 3 rfl (by kernel_rfl) trivial (hk106) (fun w' hw' => r_ixR tsl54 ((((hm78).lo hk96).lo hw')) rfl rfl (by omega)) <| AH.take 4 rfl (by kernel_rfl) trivial (hk106) (fun w' hw' => r_lda (l := encChestStep (gt S k)) agg32 rfl (fun _ _ hu => ((((hm78).lo hk96).lo hw')).cell hx94 hu) (((((hm78).lo hk96).lo hw')).esz _)) <| AH.br [5, 9] (by kernel_rfl) rfl ⟨Br.mk' rfl trivial ?_, Br.mk' rfl trivial ?_, trivial⟩
            · refine SR.call ent60 (c_spec_l21Make w105 o (((((hO81).lo hk96).lo hk106).rd)) (gt S k) (by assumption) (by omega) (by omega)) rfl ?_
              rintro e w109 ⟨A111, n112, c113, rfl, hO114, hk110⟩
              refine ⟨_, rfl, ?_⟩
              have hz115 := hk110.size
              have hB116 := hB108.lo hk110
              have hS117 := (hk106).lo hk110
              have hl118 := hO114.len
              have hl119 := hO114.rd.bound
              refine SR.nil ⟨hS117, _, rfl, ?_⟩
              refine AH.take 6 rfl (by kernel_rfl) trivial (hS117) (fun w' hw' => r_mv (v := .tuple (List.toArray _)) rfl) <| AH.take 7 rfl (by kernel_rfl) trivial (hS117) (fun w' hw' => r_ext (v := .agg (List.toArray _)) rfl rfl) <| AH.take 8 rfl (by kernel_rfl) trivial (hS117) (fun w' hw' => r_ext (v := .bool _) rfl rfl) <| AH.br [9] (by kernel_rfl) rfl ⟨Br.mk' rfl trivial ?_, trivial⟩
              refine SR.alloc (l := [.int .i64 0, .int .i64 0, .slice none 0 0, .int .i64 0, .int .i64 0, .int .i64 0]) tz28 rfl ?_
              intro g120 w121 hg122 hk123 hs124 hb125
              have hz126 := hk123.size
              have hB127 := hB116.lo hk123
              have hS128 := (hS117).lo hk123
              have hd129 : ¬ A72 = some ⟨g120, 0, none⟩ := fun e' => by have := ((((hO81).lo hk96).lo hk106).lo hk110).base_le e'; omega
              have hd130 : ¬ A111 = some ⟨g120, 0, none⟩ := fun e' => by have := (hO114).base_le e'; omega
              refine SR.nil ⟨hS128, _, rfl, ?_⟩
              refine AH.br [10] (by kernel_rfl) rfl ⟨Br.mk' rfl trivial ?_, trivial⟩
              refine SR.store (o := 0) (vs := [.int .i64 (((spec_l21Make o (gt S k)).1).State), .int .i64 (((spec_l21Make o (gt S k)).1).Key), .slice A111 n112 c113, .int .i64 (((spec_l21Make o (gt S k)).1).Dust), .int .i64 (((spec_l21Make o (gt S k)).1).Laid), .int .i64 (((spec_l21Make o (gt S k)).1).Given)]) agg28.2 rfl rfl rfl rfl (hb125) (Nat.le_of_ble_eq_true rfl) rfl ?_
              intro w131 hk132 hs133 hb134
              have hz135 := hk132.size
              have hB136 := hB127.new hk132 (by omega)
              have hS137 := (hS128).new hk132 (by omega)
              refine SR.nil ⟨hS137, _, rfl, ?_⟩
              refine AH.take 11 rfl (by kernel_rfl) trivial (hS137) (fun w' hw' => r_as (v := .bool _) rfl) <| AH.done (by kernel_rfl) ?_
              exact ⟨A111, n112, c113, g120, ⟨rfl, rfl, rfl, rfl, rfl, rfl, rfl, rfl, rfl, trivial⟩, hS137, ((((hO114).lo hk123).kp hk132 (fun b_ hb e' => hd130 (by have e'' : b_ = g120 := e'; rw [← e'']; exact hb))).down (by omega)), (hb134), ⟨by omega, (hb134).lt⟩, hd129, hd130, (fun b_ h h' => by have h1 := (((hO114).lo hk123).kp hk132 (fun b_ hb e' => hd130 (by have e'' : b_ = g120 := e'; rw [← e'']; exact hb))).base_le h; have h2 := (((hO81).lo hk96).lo hk106).base_le h'; omega), hl118, hl119⟩
            · refine SR.alloc (l := [.int .i64 0, .int .i64 0, .slice none 0 0, .int .i64 0, .int .i64 0, .int .i64 0]) tz28 rfl ?_
              intro g144 w145 hg146 hk147 hs148 hb149
              have hz150 := hk147.size
              have hB151 := hB108.lo hk147
              have hS152 := (hk106).lo hk147
              have hd153 : ¬ A72 = some ⟨g144, 0, none⟩ := fun e' => by have := (((hO81).lo hk96).lo hk106).base_le e'; omega
              refine SR.nil ⟨hS152, _, rfl, ?_⟩
              refine AH.br [5] (by kernel_rfl) rfl ⟨Br.mk' rfl trivial ?_, trivial⟩
              refine SR.call ent60 (c_spec_l21Make w145 o ((((((hO81).lo hk96).lo hk106).lo hk147).rd)) (gt S k) (by assumption) (by omega) (by omega)) rfl ?_
              rintro e w154 ⟨A156, n157, c158, rfl, hO159, hk155⟩
              refine ⟨_, rfl, ?_⟩
              have hz160 := hk155.size
              have hB161 := hB151.lo hk155
              have hS162 := (hS152).lo hk155
              have hl163 := hO159.len
              have hl164 := hO159.rd.bound
              refine SR.nil ⟨hS162, _, rfl, ?_⟩
              refine AH.take 6 rfl (by kernel_rfl) trivial (hS162) (fun w' hw' => r_mv (v := .tuple (List.toArray _)) rfl) <| AH.take 7 rfl (by kernel_rfl) trivial (hS162) (fun w' hw' => r_ext (v := .agg (List.toArray _)) rfl rfl) <| AH.take 8 rfl (by kernel_rfl) trivial (hS162) (fun w' hw' => r_ext (v := .bool _) rfl rfl) <| AH.br [10] (by kernel_rfl) rfl ⟨Br.mk' rfl trivial ?_, trivial⟩
              refine SR.store (o := 0) (vs := [.int .i64 (((spec_l21Make o (gt S k)).1).State), .int .i64 (((spec_l21Make o (gt S k)).1).Key), .slice A156 n157 c158, .int .i64 (((spec_l21Make o (gt S k)).1).Dust), .int .i64 (((spec_l21Make o (gt S k)).1).Laid), .int .i64 (((spec_l21Make o (gt S k)).1).Given)]) agg28.2 rfl rfl rfl rfl ((hb149).lo hk155) (Nat.le_of_ble_eq_true rfl) rfl ?_
              intro w165 hk166 hs167 hb168
              have hz169 := hk166.size
              have hB170 := hB161.new hk166 (by omega)
              have hS171 := (hS162).new hk166 (by omega)
              refine SR.nil ⟨hS171, _, rfl, ?_⟩
              refine AH.take 11 rfl (by kernel_rfl) trivial (hS171) (fun w' hw' => r_as (v := .bool _) rfl) <| AH.done (by kernel_rfl) ?_
              exact ⟨A156, n157, c158, g144, ⟨rfl, rfl, rfl, rfl, rfl, rfl, rfl, rfl, rfl, trivial⟩, hS171, (((hO159).kp hk166 (fun b_ hb e' => by have e'' : b_ = g144 := e'; have := (hO159).base_le hb; omega)).down (by omega)), (hb168), ⟨by omega, (hb168).lt⟩, hd153, (fun e' => by have := ((hO159).kp hk166 (fun b_ hb e' => by have e'' : b_ = g144 := e'; have := (hO159).base_le hb; omega)).base_le e'; omega), (fun b_ h h' => by have h1 := ((hO159).kp hk166 (fun b_ hb e' => by have e'' : b_ = g144 := e'; have := (hO159).base_le hb; omega)).base_le h; have h2 := ((((hO81).lo hk96).lo hk106).lo hk147).base_le h'; omega), hl163, hl164⟩
          rintro f176 w177 ⟨A111, n112, c113, g120, hat179, hR178, hm138, hm139, hg140, hd141, hd142, hd143, hl118, hl119⟩
          rw [← sets_of_at hat179]
          have hz180 := hR178.size
          have hB181 := hB98.lo hR178
          refine W.seq ?_
          refine W.regS (SR.q' (r_mv (v := .bool _) rfl) <| SR.nil ?_)
          refine W.cond_b rfl (fun h182 => ?_) (fun h182 => ?_)
          · refine W.seq ?_
            refine W.regS (SR.q' (r_lda (l := [.int .i64 (((spec_l21Make o (gt S k)).1).State), .int .i64 (((spec_l21Make o (gt S k)).1).Key), .slice A111 n112 c113, .int .i64 (((spec_l21Make o (gt S k)).1).Dust), .int .i64 (((spec_l21Make o (gt S k)).1).Laid), .int .i64 (((spec_l21Make o (gt S k)).1).Given)]) agg28 rfl (fun _ _ hu => (hm139).cell hu) rfl) <| SR.store (o := 0) (vs := [.int .i64 (((spec_l21Make o (gt S k)).1).State), .int .i64 (((spec_l21Make o (gt S k)).1).Key), .slice A111 n112 c113, .int .i64 (((spec_l21Make o (gt S k)).1).Dust), .int .i64 (((spec_l21Make o (gt S k)).1).Laid), .int .i64 (((spec_l21Make o (gt S k)).1).Given)]) agg28.2 rfl rfl rfl rfl (((hm80).lo hk96).lo hR178) (Nat.le_of_ble_eq_true rfl) rfl ?_)
            intro w183 hk184 hs185 hb186
            have hz187 := hk184.size
            have hB188 := hB181.new hk184 (by omega)
            refine SR.nil ?_
            refine W.regS (SR.q' (r_mv (v := .int .i64 _) rfl) <| SR.q' (r_add rfl rfl (by omega)) <| SR.q' (r_as (v := .int .i64 _) rfl) <| SR.nil ?_)
            refine W.regS (SR.q' (r_mv (v := .int .i64 _) rfl) <| SR.q' (r_add rfl rfl (by omega)) <| SR.q' (r_as (v := .int .i64 _) rfl) <| SR.nil ?_)
            refine ⟨(k + 1, ((spec_l21Make o (gt S k)).1), m + 1, A111, n112, c113), _, rfl, ⟨rfl, rfl, rfl, rfl, rfl, rfl, rfl, trivial⟩, (show (Lo w w183) ∧ (SlR w183 BS encChestStep 2 AS nS cS S) ∧ (Blk w183 g9 28 [.int .i64 0, .int .i64 0, .slice none 0 0, .int .i64 0, .int .i64 0, .int .i64 0]) ∧ (Blk w183 g57 28 [.int .i64 (((spec_l21Make o (gt S k)).1).State), .int .i64 (((spec_l21Make o (gt S k)).1).Key), .slice A111 n112 c113, .int .i64 (((spec_l21Make o (gt S k)).1).Dust), .int .i64 (((spec_l21Make o (gt S k)).1).Laid), .int .i64 (((spec_l21Make o (gt S k)).1).Given)]) ∧ (SlO w183 w.heap.size encI 1 3 A111 n112 c113 (((spec_l21Make o (gt S k)).1).Stack)) ∧ (¬ A111 = some ⟨g9, 0, none⟩) ∧ (¬ A111 = some ⟨g57, 0, none⟩) ∧ (k + 1 ≤ nS ∧ runTo x S (k + 1) = (((spec_l21Make o (gt S k)).1), m + 1) ∧ ChestOK ((spec_l21Make o (gt S k)).1) ∧ 0 ≤ m + 1 ∧ m + 1 ≤ (k + 1 : Int)) from ⟨hB188, (((hm78).lo hk96).lo hR178).kp hk184 (fun b_ hb e' => by have e'' : b_ = g57 := e'; omega), (((hm79).lo hk96).lo hR178).kp hk184 (fun e' => by have e'' : g9 = g57 := e'; omega), (hb186), (((hm138).kp hk184 (fun b_ hb e' => by have e'' : b_ = g57 := e'; have := (hm138).base_le hb; omega)).down (by omega)), (fun e' => by have := ((hm138).kp hk184 (fun b_ hb e' => by have e'' : b_ = g57 := e'; have := (hm138).base_le hb; omega)).base_le e'; omega), (fun e' => by have := ((hm138).kp hk184 (fun b_ hb e' => by have e'' : b_ = g57 := e'; have := (hm138).base_le hb; omega)).base_le e'; omega), ?_⟩), ?_⟩
            · exact (z_c_spec_RunChest_189 x nx_Stack hbdx_Stack hlex_Stack S nS hbdS hleS h29 hq44 hq45 hq46 n50 hl55 hl56 k o m n72 c72 hi82 hl87 hq89 hq90 hq91 h92 hx94 h99 hq103 hq104 n112 hl118 hl119 h182)
            · exact (z_c_spec_RunChest_190 x nx_Stack hbdx_Stack hlex_Stack S nS hbdS hleS h29 hq44 hq45 hq46 n50 hl55 hl56 k o m n72 c72 hi82 hl87 hq89 hq90 hq91 h92 hx94 h99 hq103 hq104 n112 hl118 hl119 h182)
          · refine W.skip ?_
            refine W.regS (SR.q' (r_mv (v := .int .i64 _) rfl) <| SR.q' (r_add rfl rfl (by omega)) <| SR.q' (r_as (v := .int .i64 _) rfl) <| SR.nil ?_)
            refine ⟨(k + 1, o, m, A72, n72, c72), _, rfl, ⟨rfl, rfl, rfl, rfl, rfl, rfl, rfl, trivial⟩, (show (Lo w w177) ∧ (SlR w177 BS encChestStep 2 AS nS cS S) ∧ (Blk w177 g9 28 [.int .i64 0, .int .i64 0, .slice none 0 0, .int .i64 0, .int .i64 0, .int .i64 0]) ∧ (Blk w177 g57 28 [.int .i64 o.State, .int .i64 o.Key, .slice A72 n72 c72, .int .i64 o.Dust, .int .i64 o.Laid, .int .i64 o.Given]) ∧ (SlO w177 w.heap.size encI 1 3 A72 n72 c72 o.Stack) ∧ (¬ A72 = some ⟨g9, 0, none⟩) ∧ (¬ A72 = some ⟨g57, 0, none⟩) ∧ (k + 1 ≤ nS ∧ runTo x S (k + 1) = (o, m) ∧ ChestOK o ∧ 0 ≤ m ∧ m ≤ (k + 1 : Int)) from ⟨hB181, ((hm78).lo hk96).lo hR178, ((hm79).lo hk96).lo hR178, (((hm80).lo hk96).lo hR178), (((hO81).lo hk96).lo hR178), hd83, hd84, ?_⟩), ?_⟩
            · exact (z_c_spec_RunChest_191 x nx_Stack hbdx_Stack hlex_Stack S nS hbdS hleS h29 hq44 hq45 hq46 n50 hl55 hl56 k o m n72 c72 hi82 hl87 hq89 hq90 hq91 h92 hx94 h99 hq103 hq104 n112 hl118 hl119 h182)
            · exact (z_c_spec_RunChest_192 x nx_Stack hbdx_Stack hlex_Stack S nS hbdS hleS h29 hq44 hq45 hq46 n50 hl55 hl56 k o m n72 c72 hi82 hl87 hq89 hq90 hq91 h92 hx94 h99 hq103 hq104 n112 hl118 hl119 h182)
      · refine W.exit (xin_here ?_)
        refine W.seq ?_
        refine W.regS (SR.q' (r_lda (l := [.int .i64 o.State, .int .i64 o.Key, .slice A72 n72 c72, .int .i64 o.Dust, .int .i64 o.Laid, .int .i64 o.Given]) agg28 rfl (fun _ _ hu => (hm80).cell hu) rfl) <| SR.q' (r_mv (v := .int .i64 _) rfl) <| SR.store (o := 0) (vs := [.int .i64 o.State, .int .i64 o.Key, .slice A72 n72 c72, .int .i64 o.Dust, .int .i64 o.Laid, .int .i64 o.Given]) agg28.2 rfl rfl rfl rfl (hm79) (Nat.le_of_ble_eq_true rfl) rfl ?_)
        intro w193 hk194 hs195 hb196
        have hz197 := hk194.size
        have hB198 := hB76.new hk194 (by omega)
        refine SR.q' (r_as (v := .int .i64 _) rfl) <| SR.q' (r_as (v := .bool true) rfl) <| SR.nil ?_
        refine W.ret ?_
        refine retCTT rfl rfl agg28 (hb196) rfl (v := .int .i64 _) rfl (v' := .bool _) rfl ?_
        exact ⟨A72, n72, c72, eR (eT3 (eA (eC (eI (z_c_spec_RunChest_200 x nx_Stack hbdx_Stack hlex_Stack S nS hbdS hleS h29 hq44 hq45 hq46 n50 hl55 hl56 k o m n72 c72 hi82 hl87 hq89 hq90 hq91 h92)) (eC (eI (z_c_spec_RunChest_201 x nx_Stack hbdx_Stack hlex_Stack S nS hbdS hleS h29 hq44 hq45 hq46 n50 hl55 hl56 k o m n72 c72 hi82 hl87 hq89 hq90 hq91 h92)) (eC rfl (eC (eI (z_c_spec_RunChest_202 x nx_Stack hbdx_Stack hlex_Stack S nS hbdS hleS h29 hq44 hq45 hq46 n50 hl55 hl56 k o m n72 c72 hi82 hl87 hq89 hq90 hq91 h92)) (eC (eI (z_c_spec_RunChest_203 x nx_Stack hbdx_Stack hlex_Stack S nS hbdS hleS h29 hq44 hq45 hq46 n50 hl55 hl56 k o m n72 c72 hi82 hl87 hq89 hq90 hq91 h92)) (eC (eI (z_c_spec_RunChest_204 x nx_Stack hbdx_Stack hlex_Stack S nS hbdS hleS h29 hq44 hq45 hq46 n50 hl55 hl56 k o m n72 c72 hi82 hl87 hq89 hq90 hq91 h92)) rfl))))))) (eI (z_c_spec_RunChest_205 x nx_Stack hbdx_Stack hlex_Stack S nS hbdS hleS h29 hq44 hq45 hq46 n50 hl55 hl56 k o m n72 c72 hi82 hl87 hq89 hq90 hq91 h92)) (eB (z_c_spec_RunChest_206 x nx_Stack hbdx_Stack hlex_Stack S nS hbdS hleS h29 hq44 hq45 hq46 n50 hl55 hl56 k o m n72 c72 hi82 hl87 hq89 hq90 hq91 h92))), (SlO.eqv (((hO81).kp hk194 (fun b_ hb e' => hd83 (by have e'' : b_ = g9 := e'; rw [← e'']; exact hb))).down (by omega)) (z_c_spec_RunChest_199 x nx_Stack hbdx_Stack hlex_Stack S nS hbdS hleS h29 hq44 hq45 hq46 n50 hl55 hl56 k o m n72 c72 hi82 hl87 hq89 hq90 hq91 h92)), hB198⟩
end Go.Proofs.Ytlpapeeaghmjpaa
