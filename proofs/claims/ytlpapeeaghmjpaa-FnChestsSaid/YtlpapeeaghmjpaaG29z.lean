/- Walks, printed by a program of this claim's author. -/
import Derived.Test.YtlpapeeaghmjpaaChecked
import Derived.Test.YtlpapeeaghmjpaaSa
import Derived.Test.YtlpapeeaghmjpaaFu
import Derived.Test.YtlpapeeaghmjpaaFs
import Derived.Test.YtlpapeeaghmjpaaFq
import Derived.Test.YtlpapeeaghmjpaaFo
import Derived.Test.YtlpapeeaghmjpaaG29y
namespace Go.Proofs.Ytlpapeeaghmjpaa
open Go Go.RowKit Fw
set_option maxRecDepth 10000
set_option linter.unusedVariables false
theorem ent78 : Ent Try.prog 78 := ent_of Try.func78 (by decide +kernel) rfl
theorem tel54 : TEl Try.prog 54 32 (.agg (List.toArray [.int .i64 0, .int .i64 0])) 2 16 := ⟨by kernel_rfl, by kernel_rfl, rfl, by decide⟩

theorem z_c_spec_DrawRunChest_84 (L : List UInt8) (nL : Nat) (hbdL : (nL : Int) ≤ 9223372036854775807) (hleL : nL = L.length) (hp0 : (nL : Int) ≤ 65536) (v23 : Chest) (t24 : Int) (s25 : Int) (ht27 : 0 ≤ t24 ∧ t24 ≤ 0 + 310) (hq28 : (v23.Stack.length ≤ 11) ∧ 0 ≤ v23.Key ∧ v23.Key ≤ 9999) (n20 : Nat) (hl31 : n20 = (v23.Stack).length) (hl32 : (n20 : Int) ≤ 9223372036854775807) (v74 : Int) (t75 : Int) (s76 : Int) (ht78 : t24 ≤ t75 ∧ t75 ≤ t24 + 2) (hq79 : (0 : Int) ≤ v74 ∧ ((v74 : Int) < 12 ∨ (v74 : Int) = 0)) : (0 ≤ v74 ∧ v74 ≤ 11) ∧ (([] : List ChestStep).length : Int) + v74 ≤ 12 ∧ (v23.Stack.length ≤ 11 ∧ 0 ≤ v23.Key ∧ v23.Key ≤ 9999) ∧ 0 ≤ t75 ∧ t75 ≤ 320 + 12 * (12 - v74) := by
  exact ⟨by omega, by simp; omega, by omega, by omega, by omega⟩
theorem z_c_spec_DrawRunChest_207 (L : List UInt8) (nL : Nat) (hbdL : (nL : Int) ≤ 9223372036854775807) (hleL : nL = L.length) (hp0 : (nL : Int) ≤ 65536) (v23 : Chest) (t24 : Int) (s25 : Int) (ht27 : 0 ≤ t24 ∧ t24 ≤ 0 + 310) (hq28 : (v23.Stack.length ≤ 11) ∧ 0 ≤ v23.Key ∧ v23.Key ≤ 9999) (n20 : Nat) (hl31 : n20 = (v23.Stack).length) (hl32 : (n20 : Int) ≤ 9223372036854775807) (v74 : Int) (t75 : Int) (s76 : Int) (ht78 : t24 ≤ t75 ∧ t75 ≤ t24 + 2) (hq79 : (0 : Int) ≤ v74 ∧ ((v74 : Int) < 12 ∨ (v74 : Int) = 0)) (n : Int) (o : Chest) (S : List ChestStep) (t : Int) (z : Int) (n82 : Nat) (c82 : Nat) (n83 : Nat) (c83 : Nat) (hi97 : (0 ≤ n ∧ n ≤ 11) ∧ (S.length : Int) + n ≤ 12 ∧ (o.Stack.length ≤ 11 ∧ 0 ≤ o.Key ∧ o.Key ≤ 9999) ∧ 0 ≤ t ∧ t ≤ 320 + 12 * (12 - n)) (hl112 : n82 = (S).length) (hl114 : n83 = (o.Stack).length) (hq116 : (0 ≤ n ∧ n ≤ 11) ∧ (S.length : Int) + n ≤ 12 ∧ (o.Stack.length ≤ 11 ∧ 0 ≤ o.Key ∧ o.Key ≤ 9999) ∧ 0 ≤ t ∧ t ≤ 320 + 12 * (12 - n)) (h117 : 0 < n) (v120 : ChestStep) (t121 : Int) (s122 : Int) (ht124 : t ≤ t121 ∧ t121 ≤ t + 12) (n173 : Nat) (hl178 : n173 = (((spec_StepChest o v120).1).Stack).length) (hl179 : (n173 : Int) ≤ 9223372036854775807) (hq180 : (((spec_StepChest o v120).1).Stack).length ≤ 10) (h200 : ((spec_StepChest o v120).2) = true) : (0 ≤ n - 1 ∧ n - 1 ≤ 11) ∧ ((S ++ ([v120] : List ChestStep)).length : Int) + (n - 1) ≤ 12 ∧ (((spec_StepChest o v120).1).Stack.length ≤ 11 ∧ 0 ≤ ((spec_StepChest o v120).1).Key ∧ ((spec_StepChest o v120).1).Key ≤ 9999) ∧ 0 ≤ t121 ∧ t121 ≤ 320 + 12 * (12 - (n - 1)) := by
  exact ⟨by omega, by simp only [List.length_append, List.length_cons, List.length_nil]; omega, by first | omega | (have h1 := spec_okC ‹(spec_StepChest _ _).2 = true›; have h2 := chest_key h1; have h3 := chest_len h1; omega), by omega, by omega⟩
theorem z_c_spec_DrawRunChest_208 (L : List UInt8) (nL : Nat) (hbdL : (nL : Int) ≤ 9223372036854775807) (hleL : nL = L.length) (hp0 : (nL : Int) ≤ 65536) (v23 : Chest) (t24 : Int) (s25 : Int) (ht27 : 0 ≤ t24 ∧ t24 ≤ 0 + 310) (hq28 : (v23.Stack.length ≤ 11) ∧ 0 ≤ v23.Key ∧ v23.Key ≤ 9999) (n20 : Nat) (hl31 : n20 = (v23.Stack).length) (hl32 : (n20 : Int) ≤ 9223372036854775807) (v74 : Int) (t75 : Int) (s76 : Int) (ht78 : t24 ≤ t75 ∧ t75 ≤ t24 + 2) (hq79 : (0 : Int) ≤ v74 ∧ ((v74 : Int) < 12 ∨ (v74 : Int) = 0)) (n : Int) (o : Chest) (S : List ChestStep) (t : Int) (z : Int) (n82 : Nat) (c82 : Nat) (n83 : Nat) (c83 : Nat) (hi97 : (0 ≤ n ∧ n ≤ 11) ∧ (S.length : Int) + n ≤ 12 ∧ (o.Stack.length ≤ 11 ∧ 0 ≤ o.Key ∧ o.Key ≤ 9999) ∧ 0 ≤ t ∧ t ≤ 320 + 12 * (12 - n)) (hl112 : n82 = (S).length) (hl114 : n83 = (o.Stack).length) (hq116 : (0 ≤ n ∧ n ≤ 11) ∧ (S.length : Int) + n ≤ 12 ∧ (o.Stack.length ≤ 11 ∧ 0 ≤ o.Key ∧ o.Key ≤ 9999) ∧ 0 ≤ t ∧ t ≤ 320 + 12 * (12 - n)) (h117 : 0 < n) (v120 : ChestStep) (t121 : Int) (s122 : Int) (ht124 : t ≤ t121 ∧ t121 ≤ t + 12) (n173 : Nat) (hl178 : n173 = (((spec_StepChest o v120).1).Stack).length) (hl179 : (n173 : Int) ≤ 9223372036854775807) (hq180 : (((spec_StepChest o v120).1).Stack).length ≤ 10) (h200 : ((spec_StepChest o v120).2) = true) : (n - 1).toNat < n.toNat := by
  omega
theorem z_c_spec_DrawRunChest_209 (L : List UInt8) (nL : Nat) (hbdL : (nL : Int) ≤ 9223372036854775807) (hleL : nL = L.length) (hp0 : (nL : Int) ≤ 65536) (v23 : Chest) (t24 : Int) (s25 : Int) (ht27 : 0 ≤ t24 ∧ t24 ≤ 0 + 310) (hq28 : (v23.Stack.length ≤ 11) ∧ 0 ≤ v23.Key ∧ v23.Key ≤ 9999) (n20 : Nat) (hl31 : n20 = (v23.Stack).length) (hl32 : (n20 : Int) ≤ 9223372036854775807) (v74 : Int) (t75 : Int) (s76 : Int) (ht78 : t24 ≤ t75 ∧ t75 ≤ t24 + 2) (hq79 : (0 : Int) ≤ v74 ∧ ((v74 : Int) < 12 ∨ (v74 : Int) = 0)) (n : Int) (o : Chest) (S : List ChestStep) (t : Int) (z : Int) (n82 : Nat) (c82 : Nat) (n83 : Nat) (c83 : Nat) (hi97 : (0 ≤ n ∧ n ≤ 11) ∧ (S.length : Int) + n ≤ 12 ∧ (o.Stack.length ≤ 11 ∧ 0 ≤ o.Key ∧ o.Key ≤ 9999) ∧ 0 ≤ t ∧ t ≤ 320 + 12 * (12 - n)) (hl112 : n82 = (S).length) (hl114 : n83 = (o.Stack).length) (hq116 : (0 ≤ n ∧ n ≤ 11) ∧ (S.length : Int) + n ≤ 12 ∧ (o.Stack.length ≤ 11 ∧ 0 ≤ o.Key ∧ o.Key ≤ 9999) ∧ 0 ≤ t ∧ t ≤ 320 + 12 * (12 - n)) (h117 : 0 < n) (v120 : ChestStep) (t121 : Int) (s122 : Int) (ht124 : t ≤ t121 ∧ t121 ≤ t + 12) (n173 : Nat) (hl178 : n173 = (((spec_StepChest o v120).1).Stack).length) (hl179 : (n173 : Int) ≤ 9223372036854775807) (hq180 : (((spec_StepChest o v120).1).Stack).length ≤ 10) (h200 : ((spec_StepChest o v120).2) = false) : (0 ≤ n - 1 ∧ n - 1 ≤ 11) ∧ ((S ++ ([v120] : List ChestStep)).length : Int) + (n - 1) ≤ 12 ∧ (o.Stack.length ≤ 11 ∧ 0 ≤ o.Key ∧ o.Key ≤ 9999) ∧ 0 ≤ t121 ∧ t121 ≤ 320 + 12 * (12 - (n - 1)) := by
  exact ⟨by omega, by simp only [List.length_append, List.length_cons, List.length_nil]; omega, by first | omega | (have h1 := spec_okC ‹(spec_StepChest _ _).2 = true›; have h2 := chest_key h1; have h3 := chest_len h1; omega), by omega, by omega⟩
theorem z_c_spec_DrawRunChest_210 (L : List UInt8) (nL : Nat) (hbdL : (nL : Int) ≤ 9223372036854775807) (hleL : nL = L.length) (hp0 : (nL : Int) ≤ 65536) (v23 : Chest) (t24 : Int) (s25 : Int) (ht27 : 0 ≤ t24 ∧ t24 ≤ 0 + 310) (hq28 : (v23.Stack.length ≤ 11) ∧ 0 ≤ v23.Key ∧ v23.Key ≤ 9999) (n20 : Nat) (hl31 : n20 = (v23.Stack).length) (hl32 : (n20 : Int) ≤ 9223372036854775807) (v74 : Int) (t75 : Int) (s76 : Int) (ht78 : t24 ≤ t75 ∧ t75 ≤ t24 + 2) (hq79 : (0 : Int) ≤ v74 ∧ ((v74 : Int) < 12 ∨ (v74 : Int) = 0)) (n : Int) (o : Chest) (S : List ChestStep) (t : Int) (z : Int) (n82 : Nat) (c82 : Nat) (n83 : Nat) (c83 : Nat) (hi97 : (0 ≤ n ∧ n ≤ 11) ∧ (S.length : Int) + n ≤ 12 ∧ (o.Stack.length ≤ 11 ∧ 0 ≤ o.Key ∧ o.Key ≤ 9999) ∧ 0 ≤ t ∧ t ≤ 320 + 12 * (12 - n)) (hl112 : n82 = (S).length) (hl114 : n83 = (o.Stack).length) (hq116 : (0 ≤ n ∧ n ≤ 11) ∧ (S.length : Int) + n ≤ 12 ∧ (o.Stack.length ≤ 11 ∧ 0 ≤ o.Key ∧ o.Key ≤ 9999) ∧ 0 ≤ t ∧ t ≤ 320 + 12 * (12 - n)) (h117 : 0 < n) (v120 : ChestStep) (t121 : Int) (s122 : Int) (ht124 : t ≤ t121 ∧ t121 ≤ t + 12) (n173 : Nat) (hl178 : n173 = (((spec_StepChest o v120).1).Stack).length) (hl179 : (n173 : Int) ≤ 9223372036854775807) (hq180 : (((spec_StepChest o v120).1).Stack).length ≤ 10) (h200 : ((spec_StepChest o v120).2) = false) : (n - 1).toNat < n.toNat := by
  omega
theorem z_c_spec_DrawRunChest_222 (L : List UInt8) (nL : Nat) (hbdL : (nL : Int) ≤ 9223372036854775807) (hleL : nL = L.length) (hp0 : (nL : Int) ≤ 65536) (v23 : Chest) (t24 : Int) (s25 : Int) (ht27 : 0 ≤ t24 ∧ t24 ≤ 0 + 310) (hq28 : (v23.Stack.length ≤ 11) ∧ 0 ≤ v23.Key ∧ v23.Key ≤ 9999) (n20 : Nat) (hl31 : n20 = (v23.Stack).length) (hl32 : (n20 : Int) ≤ 9223372036854775807) (v74 : Int) (t75 : Int) (s76 : Int) (ht78 : t24 ≤ t75 ∧ t75 ≤ t24 + 2) (hq79 : (0 : Int) ≤ v74 ∧ ((v74 : Int) < 12 ∨ (v74 : Int) = 0)) (n : Int) (o : Chest) (S : List ChestStep) (t : Int) (z : Int) (n82 : Nat) (c82 : Nat) (n83 : Nat) (c83 : Nat) (hi97 : (0 ≤ n ∧ n ≤ 11) ∧ (S.length : Int) + n ≤ 12 ∧ (o.Stack.length ≤ 11 ∧ 0 ≤ o.Key ∧ o.Key ≤ 9999) ∧ 0 ≤ t ∧ t ≤ 320 + 12 * (12 - n)) (hl112 : n82 = (S).length) (hl114 : n83 = (o.Stack).length) (hq116 : (0 ≤ n ∧ n ≤ 11) ∧ (S.length : Int) + n ≤ 12 ∧ (o.Stack.length ≤ 11 ∧ 0 ≤ o.Key ∧ o.Key ≤ 9999) ∧ 0 ≤ t ∧ t ≤ 320 + 12 * (12 - n)) (h117 : ¬ (0 < n)) (v213 : Bool) (t214 : Int) (s215 : Int) (ht217 : t ≤ t214 ∧ t214 ≤ t + 2) (h220 : v213 = true) : S.length ≤ 41 ∧ 0 ≤ t214 ∧ t214 ≤ 600 + 2 * (S.length : Int) := by
  omega
theorem z_c_spec_DrawRunChest_277 (L : List UInt8) (nL : Nat) (hbdL : (nL : Int) ≤ 9223372036854775807) (hleL : nL = L.length) (hp0 : (nL : Int) ≤ 65536) (v23 : Chest) (t24 : Int) (s25 : Int) (ht27 : 0 ≤ t24 ∧ t24 ≤ 0 + 310) (hq28 : (v23.Stack.length ≤ 11) ∧ 0 ≤ v23.Key ∧ v23.Key ≤ 9999) (n20 : Nat) (hl31 : n20 = (v23.Stack).length) (hl32 : (n20 : Int) ≤ 9223372036854775807) (v74 : Int) (t75 : Int) (s76 : Int) (ht78 : t24 ≤ t75 ∧ t75 ≤ t24 + 2) (hq79 : (0 : Int) ≤ v74 ∧ ((v74 : Int) < 12 ∨ (v74 : Int) = 0)) (n : Int) (o : Chest) (S : List ChestStep) (t : Int) (z : Int) (n82 : Nat) (c82 : Nat) (n83 : Nat) (c83 : Nat) (hi97 : (0 ≤ n ∧ n ≤ 11) ∧ (S.length : Int) + n ≤ 12 ∧ (o.Stack.length ≤ 11 ∧ 0 ≤ o.Key ∧ o.Key ≤ 9999) ∧ 0 ≤ t ∧ t ≤ 320 + 12 * (12 - n)) (hl112 : n82 = (S).length) (hl114 : n83 = (o.Stack).length) (hq116 : (0 ≤ n ∧ n ≤ 11) ∧ (S.length : Int) + n ≤ 12 ∧ (o.Stack.length ≤ 11 ∧ 0 ≤ o.Key ∧ o.Key ≤ 9999) ∧ 0 ≤ t ∧ t ≤ 320 + 12 * (12 - n)) (h117 : ¬ (0 < n)) (v213 : Bool) (t214 : Int) (s215 : Int) (ht217 : t ≤ t214 ∧ t214 ≤ t + 2) (h220 : v213 = true) (Q : List ChestStep) (t2 : Int) (z2 : Int) (n221 : Nat) (c221 : Nat) (hi233 : Q.length ≤ 41 ∧ 0 ≤ t2 ∧ t2 ≤ 600 + 2 * (Q.length : Int)) (hl241 : n221 = (Q).length) (hq243 : Q.length ≤ 41 ∧ 0 ≤ t2 ∧ t2 ≤ 600 + 2 * (Q.length : Int)) (v246 : Int) (t247 : Int) (s248 : Int) (ht250 : t2 ≤ t247 ∧ t247 ≤ t2 + 2) (hq251 : (0 : Int) ≤ v246 ∧ ((v246 : Int) < 2 ∨ (v246 : Int) = 0)) (h254 : (n221 : Int) < (40 + v246)) : (Q ++ ([(⟨1 + ((n221 : Int) % 2), 0⟩ : ChestStep)] : List ChestStep)).length ≤ 41 ∧ 0 ≤ t247 ∧ t247 ≤ 600 + 2 * ((Q ++ ([(⟨1 + ((n221 : Int) % 2), 0⟩ : ChestStep)] : List ChestStep)).length : Int) := by
  simp only [List.length_append, List.length_cons, List.length_nil]; omega
theorem z_c_spec_DrawRunChest_278 (L : List UInt8) (nL : Nat) (hbdL : (nL : Int) ≤ 9223372036854775807) (hleL : nL = L.length) (hp0 : (nL : Int) ≤ 65536) (v23 : Chest) (t24 : Int) (s25 : Int) (ht27 : 0 ≤ t24 ∧ t24 ≤ 0 + 310) (hq28 : (v23.Stack.length ≤ 11) ∧ 0 ≤ v23.Key ∧ v23.Key ≤ 9999) (n20 : Nat) (hl31 : n20 = (v23.Stack).length) (hl32 : (n20 : Int) ≤ 9223372036854775807) (v74 : Int) (t75 : Int) (s76 : Int) (ht78 : t24 ≤ t75 ∧ t75 ≤ t24 + 2) (hq79 : (0 : Int) ≤ v74 ∧ ((v74 : Int) < 12 ∨ (v74 : Int) = 0)) (n : Int) (o : Chest) (S : List ChestStep) (t : Int) (z : Int) (n82 : Nat) (c82 : Nat) (n83 : Nat) (c83 : Nat) (hi97 : (0 ≤ n ∧ n ≤ 11) ∧ (S.length : Int) + n ≤ 12 ∧ (o.Stack.length ≤ 11 ∧ 0 ≤ o.Key ∧ o.Key ≤ 9999) ∧ 0 ≤ t ∧ t ≤ 320 + 12 * (12 - n)) (hl112 : n82 = (S).length) (hl114 : n83 = (o.Stack).length) (hq116 : (0 ≤ n ∧ n ≤ 11) ∧ (S.length : Int) + n ≤ 12 ∧ (o.Stack.length ≤ 11 ∧ 0 ≤ o.Key ∧ o.Key ≤ 9999) ∧ 0 ≤ t ∧ t ≤ 320 + 12 * (12 - n)) (h117 : ¬ (0 < n)) (v213 : Bool) (t214 : Int) (s215 : Int) (ht217 : t ≤ t214 ∧ t214 ≤ t + 2) (h220 : v213 = true) (Q : List ChestStep) (t2 : Int) (z2 : Int) (n221 : Nat) (c221 : Nat) (hi233 : Q.length ≤ 41 ∧ 0 ≤ t2 ∧ t2 ≤ 600 + 2 * (Q.length : Int)) (hl241 : n221 = (Q).length) (hq243 : Q.length ≤ 41 ∧ 0 ≤ t2 ∧ t2 ≤ 600 + 2 * (Q.length : Int)) (v246 : Int) (t247 : Int) (s248 : Int) (ht250 : t2 ≤ t247 ∧ t247 ≤ t2 + 2) (hq251 : (0 : Int) ≤ v246 ∧ ((v246 : Int) < 2 ∨ (v246 : Int) = 0)) (h254 : (n221 : Int) < (40 + v246)) : 60 - (Q ++ ([(⟨1 + ((n221 : Int) % 2), 0⟩ : ChestStep)] : List ChestStep)).length < 60 - Q.length := by
  simp only [List.length_append, List.length_cons, List.length_nil]; omega
theorem z_c_spec_DrawRunChest_285 (L : List UInt8) (nL : Nat) (hbdL : (nL : Int) ≤ 9223372036854775807) (hleL : nL = L.length) (hp0 : (nL : Int) ≤ 65536) (v23 : Chest) (t24 : Int) (s25 : Int) (ht27 : 0 ≤ t24 ∧ t24 ≤ 0 + 310) (hq28 : (v23.Stack.length ≤ 11) ∧ 0 ≤ v23.Key ∧ v23.Key ≤ 9999) (n20 : Nat) (hl31 : n20 = (v23.Stack).length) (hl32 : (n20 : Int) ≤ 9223372036854775807) (v74 : Int) (t75 : Int) (s76 : Int) (ht78 : t24 ≤ t75 ∧ t75 ≤ t24 + 2) (hq79 : (0 : Int) ≤ v74 ∧ ((v74 : Int) < 12 ∨ (v74 : Int) = 0)) (n : Int) (o : Chest) (S : List ChestStep) (t : Int) (z : Int) (n82 : Nat) (c82 : Nat) (n83 : Nat) (c83 : Nat) (hi97 : (0 ≤ n ∧ n ≤ 11) ∧ (S.length : Int) + n ≤ 12 ∧ (o.Stack.length ≤ 11 ∧ 0 ≤ o.Key ∧ o.Key ≤ 9999) ∧ 0 ≤ t ∧ t ≤ 320 + 12 * (12 - n)) (hl112 : n82 = (S).length) (hl114 : n83 = (o.Stack).length) (hq116 : (0 ≤ n ∧ n ≤ 11) ∧ (S.length : Int) + n ≤ 12 ∧ (o.Stack.length ≤ 11 ∧ 0 ≤ o.Key ∧ o.Key ≤ 9999) ∧ 0 ≤ t ∧ t ≤ 320 + 12 * (12 - n)) (h117 : ¬ (0 < n)) (v213 : Bool) (t214 : Int) (s215 : Int) (ht217 : t ≤ t214 ∧ t214 ≤ t + 2) (h220 : v213 = true) (Q : List ChestStep) (t2 : Int) (z2 : Int) (n221 : Nat) (c221 : Nat) (hi233 : Q.length ≤ 41 ∧ 0 ≤ t2 ∧ t2 ≤ 600 + 2 * (Q.length : Int)) (hl241 : n221 = (Q).length) (hq243 : Q.length ≤ 41 ∧ 0 ≤ t2 ∧ t2 ≤ 600 + 2 * (Q.length : Int)) (v246 : Int) (t247 : Int) (s248 : Int) (ht250 : t2 ≤ t247 ∧ t247 ≤ t2 + 2) (hq251 : (0 : Int) ≤ v246 ∧ ((v246 : Int) < 2 ∨ (v246 : Int) = 0)) (h254 : ¬ ((n221 : Int) < (40 + v246))) : (v23.Stack.length ≤ 11) ∧ 0 ≤ v23.Key ∧ v23.Key ≤ 9999 := by
  first | omega | (simp only [List.length_append, List.length_cons, List.length_nil]; omega)
theorem z_c_spec_DrawRunChest_286 (L : List UInt8) (nL : Nat) (hbdL : (nL : Int) ≤ 9223372036854775807) (hleL : nL = L.length) (hp0 : (nL : Int) ≤ 65536) (v23 : Chest) (t24 : Int) (s25 : Int) (ht27 : 0 ≤ t24 ∧ t24 ≤ 0 + 310) (hq28 : (v23.Stack.length ≤ 11) ∧ 0 ≤ v23.Key ∧ v23.Key ≤ 9999) (n20 : Nat) (hl31 : n20 = (v23.Stack).length) (hl32 : (n20 : Int) ≤ 9223372036854775807) (v74 : Int) (t75 : Int) (s76 : Int) (ht78 : t24 ≤ t75 ∧ t75 ≤ t24 + 2) (hq79 : (0 : Int) ≤ v74 ∧ ((v74 : Int) < 12 ∨ (v74 : Int) = 0)) (n : Int) (o : Chest) (S : List ChestStep) (t : Int) (z : Int) (n82 : Nat) (c82 : Nat) (n83 : Nat) (c83 : Nat) (hi97 : (0 ≤ n ∧ n ≤ 11) ∧ (S.length : Int) + n ≤ 12 ∧ (o.Stack.length ≤ 11 ∧ 0 ≤ o.Key ∧ o.Key ≤ 9999) ∧ 0 ≤ t ∧ t ≤ 320 + 12 * (12 - n)) (hl112 : n82 = (S).length) (hl114 : n83 = (o.Stack).length) (hq116 : (0 ≤ n ∧ n ≤ 11) ∧ (S.length : Int) + n ≤ 12 ∧ (o.Stack.length ≤ 11 ∧ 0 ≤ o.Key ∧ o.Key ≤ 9999) ∧ 0 ≤ t ∧ t ≤ 320 + 12 * (12 - n)) (h117 : ¬ (0 < n)) (v213 : Bool) (t214 : Int) (s215 : Int) (ht217 : t ≤ t214 ∧ t214 ≤ t + 2) (h220 : v213 = true) (Q : List ChestStep) (t2 : Int) (z2 : Int) (n221 : Nat) (c221 : Nat) (hi233 : Q.length ≤ 41 ∧ 0 ≤ t2 ∧ t2 ≤ 600 + 2 * (Q.length : Int)) (hl241 : n221 = (Q).length) (hq243 : Q.length ≤ 41 ∧ 0 ≤ t2 ∧ t2 ≤ 600 + 2 * (Q.length : Int)) (v246 : Int) (t247 : Int) (s248 : Int) (ht250 : t2 ≤ t247 ∧ t247 ≤ t2 + 2) (hq251 : (0 : Int) ≤ v246 ∧ ((v246 : Int) < 2 ∨ (v246 : Int) = 0)) (h254 : ¬ ((n221 : Int) < (40 + v246))) : Q.length ≤ 60 := by
  omega
theorem z_c_spec_DrawRunChest_293 (L : List UInt8) (nL : Nat) (hbdL : (nL : Int) ≤ 9223372036854775807) (hleL : nL = L.length) (hp0 : (nL : Int) ≤ 65536) (v23 : Chest) (t24 : Int) (s25 : Int) (ht27 : 0 ≤ t24 ∧ t24 ≤ 0 + 310) (hq28 : (v23.Stack.length ≤ 11) ∧ 0 ≤ v23.Key ∧ v23.Key ≤ 9999) (n20 : Nat) (hl31 : n20 = (v23.Stack).length) (hl32 : (n20 : Int) ≤ 9223372036854775807) (v74 : Int) (t75 : Int) (s76 : Int) (ht78 : t24 ≤ t75 ∧ t75 ≤ t24 + 2) (hq79 : (0 : Int) ≤ v74 ∧ ((v74 : Int) < 12 ∨ (v74 : Int) = 0)) (n : Int) (o : Chest) (S : List ChestStep) (t : Int) (z : Int) (n82 : Nat) (c82 : Nat) (n83 : Nat) (c83 : Nat) (hi97 : (0 ≤ n ∧ n ≤ 11) ∧ (S.length : Int) + n ≤ 12 ∧ (o.Stack.length ≤ 11 ∧ 0 ≤ o.Key ∧ o.Key ≤ 9999) ∧ 0 ≤ t ∧ t ≤ 320 + 12 * (12 - n)) (hl112 : n82 = (S).length) (hl114 : n83 = (o.Stack).length) (hq116 : (0 ≤ n ∧ n ≤ 11) ∧ (S.length : Int) + n ≤ 12 ∧ (o.Stack.length ≤ 11 ∧ 0 ≤ o.Key ∧ o.Key ≤ 9999) ∧ 0 ≤ t ∧ t ≤ 320 + 12 * (12 - n)) (h117 : ¬ (0 < n)) (v213 : Bool) (t214 : Int) (s215 : Int) (ht217 : t ≤ t214 ∧ t214 ≤ t + 2) (h220 : v213 = false) : (v23.Stack.length ≤ 11) ∧ 0 ≤ v23.Key ∧ v23.Key ≤ 9999 := by
  first | omega | (simp only [List.length_append, List.length_cons, List.length_nil]; omega)
theorem z_c_spec_DrawRunChest_294 (L : List UInt8) (nL : Nat) (hbdL : (nL : Int) ≤ 9223372036854775807) (hleL : nL = L.length) (hp0 : (nL : Int) ≤ 65536) (v23 : Chest) (t24 : Int) (s25 : Int) (ht27 : 0 ≤ t24 ∧ t24 ≤ 0 + 310) (hq28 : (v23.Stack.length ≤ 11) ∧ 0 ≤ v23.Key ∧ v23.Key ≤ 9999) (n20 : Nat) (hl31 : n20 = (v23.Stack).length) (hl32 : (n20 : Int) ≤ 9223372036854775807) (v74 : Int) (t75 : Int) (s76 : Int) (ht78 : t24 ≤ t75 ∧ t75 ≤ t24 + 2) (hq79 : (0 : Int) ≤ v74 ∧ ((v74 : Int) < 12 ∨ (v74 : Int) = 0)) (n : Int) (o : Chest) (S : List ChestStep) (t : Int) (z : Int) (n82 : Nat) (c82 : Nat) (n83 : Nat) (c83 : Nat) (hi97 : (0 ≤ n ∧ n ≤ 11) ∧ (S.length : Int) + n ≤ 12 ∧ (o.Stack.length ≤ 11 ∧ 0 ≤ o.Key ∧ o.Key ≤ 9999) ∧ 0 ≤ t ∧ t ≤ 320 + 12 * (12 - n)) (hl112 : n82 = (S).length) (hl114 : n83 = (o.Stack).length) (hq116 : (0 ≤ n ∧ n ≤ 11) ∧ (S.length : Int) + n ≤ 12 ∧ (o.Stack.length ≤ 11 ∧ 0 ≤ o.Key ∧ o.Key ≤ 9999) ∧ 0 ≤ t ∧ t ≤ 320 + 12 * (12 - n)) (h117 : ¬ (0 < n)) (v213 : Bool) (t214 : Int) (s215 : Int) (ht217 : t ≤ t214 ∧ t214 ≤ t + 2) (h220 : v213 = false) : S.length ≤ 60 := by
  omega
theorem c_spec_DrawRunChest (w : World) {AL : Option Addr} {nL cL BL : Nat}  (L : List UInt8) (hL : SlR w BL encB 1 AL nL cL L) (hp0 : (nL : Int) ≤ 65536) : Calls Try.prog 51 #[.slice AL nL cL] w fun e w' => ∃ (A1' : Option Addr) (n1' c1' : Nat) (A2' : Option Addr) (n2' c2' : Nat) (x : Chest) (S : List ChestStep), e = .returned (.tuple (List.toArray [.agg (List.toArray [.int .i64 x.State, .int .i64 x.Key, .slice A1' n1' c1', .int .i64 x.Dust, .int .i64 x.Laid, .int .i64 x.Given]), .slice A2' n2' c2'])) ∧ SlO w' w.heap.size encI 1 3 A1' n1' c1' x.Stack ∧ SlO w' w.heap.size encChestStep 2 32 A2' n2' c2' S ∧ (∀ b_, A1' = some ⟨b_, 0, none⟩ → ¬ A2' = some ⟨b_, 0, none⟩) ∧ ((x.Stack.length ≤ 11) ∧ 0 ≤ x.Key ∧ x.Key ≤ 9999) ∧ (S.length ≤ 60) ∧ Lo w w' := by
  refine calls_W 58 Try.func51 rfl rfl rfl ?_
  have hbdL := hL.bound
  have hleL := hL.len
  have hBbL := hL.bd
  refine W.seq ?_
  refine W.regS (SR.alloc (l := [.int .i64 0, .int .i64 0, .slice none 0 0, .int .i64 0, .int .i64 0, .int .i64 0]) tz28 rfl ?_)
  intro g1 w2 hg3 hk4 hs5 hb6
  have hz7 := hk4.size
  have hB8 := (Lo.refl w).lo hk4
  refine SR.q' (r_as (v := .slice none 0 0) rfl) <| SR.nil ?_
  refine W.seq ?_
  refine W.regS (SR.q' (r_mv (v := .slice _ _ _) rfl) <| SR.q' (r_build (vs := [(0, .slice AL nL cL)]) rfl (bld104_0 _ _ _)) <| SR.box (v := .agg (List.toArray _)) (l := [.slice AL nL cL, .int .i64 0, .int .u64 0]) rfl rfl ?_)
  intro g9 w10 hg11 hk12 hs13 hb14
  have hz15 := hk12.size
  have hB16 := hB8.lo hk12
  refine SR.q' (r_as (v := .pointer (some _)) rfl) <| SR.nil ?_
  refine W.seq ?_
  refine W.regS (SR.q' (r_mv (v := .pointer (some _)) rfl) <| SR.call ent88 (c___spec_l1Cur__chest w10 L 0 0 (hb14) ((((hL).lo hk4).lo hk12)) (by omega) (by omega)) rfl ?_)
  rintro e w17 ⟨A19, n20, c21, v23, t24, s25, rfl, hO22, hb26, ht27, hq28, hk18⟩
  refine ⟨_, rfl, ?_⟩
  have hz29 := hk18.size
  have hB30 := hB16.new hk18 (by omega)
  have hl31 := hO22.len
  have hl32 := hO22.rd.bound
  refine SR.alloc (l := [.int .i64 0, .int .i64 0, .slice none 0 0, .int .i64 0, .int .i64 0, .int .i64 0]) tz28 rfl ?_
  intro g33 w34 hg35 hk36 hs37 hb38
  have hz39 := hk36.size
  have hB40 := hB30.lo hk36
  have hd41 : ¬ A19 = some ⟨g33, 0, none⟩ := fun e' => by have := (hO22).base_le e'; omega
  refine SR.store (o := 0) (vs := [.int .i64 v23.State, .int .i64 v23.Key, .slice A19 n20 c21, .int .i64 v23.Dust, .int .i64 v23.Laid, .int .i64 v23.Given]) agg28.2 rfl rfl rfl rfl (hb38) (Nat.le_of_ble_eq_true rfl) rfl ?_
  intro w42 hk43 hs44 hb45
  have hz46 := hk43.size
  have hB47 := hB40.new hk43 (by omega)
  refine SR.nil ?_
  refine W.seq ?_
  refine W.regS (SR.lit (vs := []) (L := ([] : List ChestStep)) (enc := encChestStep) tel54 (fun _ => rfl) rfl rfl rfl (by decide) ?_)
  intro g48 w49 hg50 hk51 hO52
  have hz53 := hk51.size
  have hB54 := hB47.lo hk51
  have hd55 : ¬ A19 = some ⟨g48, 0, none⟩ := fun e' => by have := (((hO22).lo hk36).kp hk43 (fun b_ hb e' => hd41 (by have e'' : b_ = g33 := e'; rw [← e'']; exact hb))).base_le e'; omega
  refine SR.q' (r_as (v := .slice _ _ _) rfl) <| SR.nil ?_
  refine W.seq ?_
  refine W.regS (SR.q' (r_lda (l := [.int .i64 v23.State, .int .i64 v23.Key, .slice A19 n20 c21, .int .i64 v23.Dust, .int .i64 v23.Laid, .int .i64 v23.Given]) agg28 rfl (fun _ _ hu => ((hb45).lo hk51).cell hu) rfl) <| SR.alloc (l := [.int .i64 0, .int .i64 0, .slice none 0 0, .int .i64 0, .int .i64 0, .int .i64 0]) tz28 rfl ?_)
  intro g56 w57 hg58 hk59 hs60 hb61
  have hz62 := hk59.size
  have hB63 := hB54.lo hk59
  have hd64 : ¬ A19 = some ⟨g56, 0, none⟩ := fun e' => by have := ((((hO22).lo hk36).kp hk43 (fun b_ hb e' => hd41 (by have e'' : b_ = g33 := e'; rw [← e'']; exact hb))).lo hk51).base_le e'; omega
  have hd65 : ¬ (some (⟨g48, 0, none⟩ : Addr)) = some ⟨g56, 0, none⟩ := fun e' => by have := (hO52).base_le e'; omega
  refine SR.store (o := 0) (vs := [.int .i64 v23.State, .int .i64 v23.Key, .slice A19 n20 c21, .int .i64 v23.Dust, .int .i64 v23.Laid, .int .i64 v23.Given]) agg28.2 rfl rfl rfl rfl (hb61) (Nat.le_of_ble_eq_true rfl) rfl ?_
  intro w66 hk67 hs68 hb69
  have hz70 := hk67.size
  have hB71 := hB63.new hk67 (by omega)
  refine SR.nil ?_
  refine W.seq ?_
  refine W.seq ?_
  refine W.regS (SR.q' (r_mv (v := .pointer (some _)) rfl) <| SR.call ent84 (c___spec_l1Cur__pick w66 L t24 s25 ((((((hb26).lo hk36).kp hk43 (fun e' => by have e'' : g9 = g33 := e'; omega)).lo hk51).lo hk59).kp hk67 (fun e' => by have e'' : g9 = g56 := e'; omega)) ((((((((((hL).lo hk4).lo hk12).kp hk18 (fun b_ hb e' => by have e'' : b_ = g9 := e'; omega)).lo hk36).kp hk43 (fun b_ hb e' => by have e'' : b_ = g33 := e'; omega)).lo hk51).lo hk59).kp hk67 (fun b_ hb e' => by have e'' : b_ = g56 := e'; omega))) (by omega) (by omega) 12 (by first | omega | (simp only [List.length_append, List.length_cons, List.length_nil, List.length_take, List.length_drop]; omega))) rfl ?_)
  rintro e w72 ⟨v74, t75, s76, rfl, hb77, ht78, hq79, hk73⟩
  refine ⟨_, rfl, ?_⟩
  have hz80 := hk73.size
  have hB81 := hB71.new hk73 (by omega)
  refine SR.q' (r_as (v := .int .i64 _) rfl) <| SR.nil ?_
  refine W.block ?_
  refine W.loop (σ := Int × Chest × (List ChestStep) × Int × Int × (Option Addr) × Nat × Nat × (Option Addr) × Nat × Nat) (fun g => [(2, .pointer (some ((⟨g1, 0, none⟩ : Addr)))), (3, .slice none 0 0), (4, .pointer (some ((⟨g9, 0, none⟩ : Addr)))), (5, .pointer (some ((⟨g33, 0, none⟩ : Addr)))), (6, .slice g.2.2.2.2.2.1 g.2.2.2.2.2.2.1 g.2.2.2.2.2.2.2.1), (7, .pointer (some ((⟨g56, 0, none⟩ : Addr)))), (8, .int .i64 g.1)]) (fun g w' => (Lo w w') ∧ (Blk w' g1 28 [.int .i64 0, .int .i64 0, .slice none 0 0, .int .i64 0, .int .i64 0, .int .i64 0]) ∧ (Blk w' g9 104 [.slice AL nL cL, .int .i64 g.2.2.2.1, .int .u64 g.2.2.2.2.1]) ∧ (SlR w' BL encB 1 AL nL cL L) ∧ (Blk w' g33 28 [.int .i64 v23.State, .int .i64 v23.Key, .slice A19 n20 c21, .int .i64 v23.Dust, .int .i64 v23.Laid, .int .i64 v23.Given]) ∧ (SlO w' w10.heap.size encI 1 3 A19 n20 c21 v23.Stack) ∧ (Blk w' g56 28 [.int .i64 g.2.1.State, .int .i64 g.2.1.Key, .slice g.2.2.2.2.2.2.2.2.1 g.2.2.2.2.2.2.2.2.2.1 g.2.2.2.2.2.2.2.2.2.2, .int .i64 g.2.1.Dust, .int .i64 g.2.1.Laid, .int .i64 g.2.1.Given]) ∧ (SlO w' w.heap.size encChestStep 2 32 g.2.2.2.2.2.1 g.2.2.2.2.2.2.1 g.2.2.2.2.2.2.2.1 g.2.2.1) ∧ (SlO w' w.heap.size encI 1 3 g.2.2.2.2.2.2.2.2.1 g.2.2.2.2.2.2.2.2.2.1 g.2.2.2.2.2.2.2.2.2.2 g.2.1.Stack) ∧ (¬ g.2.2.2.2.2.1 = some ⟨g1, 0, none⟩) ∧ (¬ g.2.2.2.2.2.1 = some ⟨g9, 0, none⟩) ∧ (¬ g.2.2.2.2.2.1 = some ⟨g33, 0, none⟩) ∧ (∀ b_, g.2.2.2.2.2.1 = some ⟨b_, 0, none⟩ → ¬ A19 = some ⟨b_, 0, none⟩) ∧ (¬ g.2.2.2.2.2.1 = some ⟨g56, 0, none⟩) ∧ (∀ b_, g.2.2.2.2.2.1 = some ⟨b_, 0, none⟩ → ¬ g.2.2.2.2.2.2.2.2.1 = some ⟨b_, 0, none⟩) ∧ (¬ g.2.2.2.2.2.2.2.2.1 = some ⟨g1, 0, none⟩) ∧ (¬ g.2.2.2.2.2.2.2.2.1 = some ⟨g9, 0, none⟩) ∧ (¬ g.2.2.2.2.2.2.2.2.1 = some ⟨g33, 0, none⟩) ∧ (¬ g.2.2.2.2.2.2.2.2.1 = some ⟨g56, 0, none⟩) ∧ ((0 ≤ g.1 ∧ g.1 ≤ 11) ∧ (g.2.2.1.length : Int) + g.1 ≤ 12 ∧ (g.2.1.Stack.length ≤ 11 ∧ 0 ≤ g.2.1.Key ∧ g.2.1.Key ≤ 9999) ∧ 0 ≤ g.2.2.2.1 ∧ g.2.2.2.1 ≤ 320 + 12 * (12 - g.1))) (fun g => g.1.toNat) (v74, v23, ([] : List ChestStep), t75, s76, (some (⟨g48, 0, none⟩ : Addr)), 0, 0, A19, n20, c21) ?_ ?_ ?_
  · exact ⟨rfl, rfl, rfl, rfl, rfl, rfl, rfl, trivial⟩
  · show (Lo w w72) ∧ (Blk w72 g1 28 [.int .i64 0, .int .i64 0, .slice none 0 0, .int .i64 0, .int .i64 0, .int .i64 0]) ∧ (Blk w72 g9 104 [.slice AL nL cL, .int .i64 t75, .int .u64 s76]) ∧ (SlR w72 BL encB 1 AL nL cL L) ∧ (Blk w72 g33 28 [.int .i64 v23.State, .int .i64 v23.Key, .slice A19 n20 c21, .int .i64 v23.Dust, .int .i64 v23.Laid, .int .i64 v23.Given]) ∧ (SlO w72 w10.heap.size encI 1 3 A19 n20 c21 v23.Stack) ∧ (Blk w72 g56 28 [.int .i64 v23.State, .int .i64 v23.Key, .slice A19 n20 c21, .int .i64 v23.Dust, .int .i64 v23.Laid, .int .i64 v23.Given]) ∧ (SlO w72 w.heap.size encChestStep 2 32 (some (⟨g48, 0, none⟩ : Addr)) 0 0 ([] : List ChestStep)) ∧ (SlO w72 w.heap.size encI 1 3 A19 n20 c21 v23.Stack) ∧ (¬ (some (⟨g48, 0, none⟩ : Addr)) = some ⟨g1, 0, none⟩) ∧ (¬ (some (⟨g48, 0, none⟩ : Addr)) = some ⟨g9, 0, none⟩) ∧ (¬ (some (⟨g48, 0, none⟩ : Addr)) = some ⟨g33, 0, none⟩) ∧ (∀ b_, (some (⟨g48, 0, none⟩ : Addr)) = some ⟨b_, 0, none⟩ → ¬ A19 = some ⟨b_, 0, none⟩) ∧ (¬ (some (⟨g48, 0, none⟩ : Addr)) = some ⟨g56, 0, none⟩) ∧ (∀ b_, (some (⟨g48, 0, none⟩ : Addr)) = some ⟨b_, 0, none⟩ → ¬ A19 = some ⟨b_, 0, none⟩) ∧ (¬ A19 = some ⟨g1, 0, none⟩) ∧ (¬ A19 = some ⟨g9, 0, none⟩) ∧ (¬ A19 = some ⟨g33, 0, none⟩) ∧ (¬ A19 = some ⟨g56, 0, none⟩) ∧ ((0 ≤ v74 ∧ v74 ≤ 11) ∧ (([] : List ChestStep).length : Int) + v74 ≤ 12 ∧ (v23.Stack.length ≤ 11 ∧ 0 ≤ v23.Key ∧ v23.Key ≤ 9999) ∧ 0 ≤ t75 ∧ t75 ≤ 320 + 12 * (12 - v74))
    exact ⟨hB81, ((((((((hb6).lo hk12).kp hk18 (fun e' => by have e'' : g1 = g9 := e'; omega)).lo hk36).kp hk43 (fun e' => by have e'' : g1 = g33 := e'; omega)).lo hk51).lo hk59).kp hk67 (fun e' => by have e'' : g1 = g56 := e'; omega)).kp hk73 (fun e' => by have e'' : g1 = g9 := e'; omega), (hb77), (((((((((hL).lo hk4).lo hk12).kp hk18 (fun b_ hb e' => by have e'' : b_ = g9 := e'; omega)).lo hk36).kp hk43 (fun b_ hb e' => by have e'' : b_ = g33 := e'; omega)).lo hk51).lo hk59).kp hk67 (fun b_ hb e' => by have e'' : b_ = g56 := e'; omega)).kp hk73 (fun b_ hb e' => by have e'' : b_ = g9 := e'; omega), ((((hb45).lo hk51).lo hk59).kp hk67 (fun e' => by have e'' : g33 = g56 := e'; omega)).kp hk73 (fun e' => by have e'' : g33 = g9 := e'; omega), ((((((hO22).lo hk36).kp hk43 (fun b_ hb e' => hd41 (by have e'' : b_ = g33 := e'; rw [← e'']; exact hb))).lo hk51).lo hk59).kp hk67 (fun b_ hb e' => hd64 (by have e'' : b_ = g56 := e'; rw [← e'']; exact hb))).kp hk73 (fun b_ hb e' => by have e'' : b_ = g9 := e'; have := ((((((hO22).lo hk36).kp hk43 (fun b_ hb e' => hd41 (by have e'' : b_ = g33 := e'; rw [← e'']; exact hb))).lo hk51).lo hk59).kp hk67 (fun b_ hb e' => hd64 (by have e'' : b_ = g56 := e'; rw [← e'']; exact hb))).base_le hb; omega), ((hb69).kp hk73 (fun e' => by have e'' : g56 = g9 := e'; omega)), (((((hO52).lo hk59).kp hk67 (fun b_ hb e' => hd65 (by have e'' : b_ = g56 := e'; rw [← e'']; exact hb))).kp hk73 (fun b_ hb e' => by have e'' : b_ = g9 := e'; have := (((hO52).lo hk59).kp hk67 (fun b_ hb e' => hd65 (by have e'' : b_ = g56 := e'; rw [← e'']; exact hb))).base_le hb; omega)).down (by omega)), ((((((((hO22).lo hk36).kp hk43 (fun b_ hb e' => hd41 (by have e'' : b_ = g33 := e'; rw [← e'']; exact hb))).lo hk51).lo hk59).kp hk67 (fun b_ hb e' => hd64 (by have e'' : b_ = g56 := e'; rw [← e'']; exact hb))).kp hk73 (fun b_ hb e' => by have e'' : b_ = g9 := e'; have := ((((((hO22).lo hk36).kp hk43 (fun b_ hb e' => hd41 (by have e'' : b_ = g33 := e'; rw [← e'']; exact hb))).lo hk51).lo hk59).kp hk67 (fun b_ hb e' => hd64 (by have e'' : b_ = g56 := e'; rw [← e'']; exact hb))).base_le hb; omega)).down (by omega)), (fun e' => by have := ((((hO52).lo hk59).kp hk67 (fun b_ hb e' => hd65 (by have e'' : b_ = g56 := e'; rw [← e'']; exact hb))).kp hk73 (fun b_ hb e' => by have e'' : b_ = g9 := e'; have := (((hO52).lo hk59).kp hk67 (fun b_ hb e' => hd65 (by have e'' : b_ = g56 := e'; rw [← e'']; exact hb))).base_le hb; omega)).base_le e'; omega), (fun e' => by have := ((((hO52).lo hk59).kp hk67 (fun b_ hb e' => hd65 (by have e'' : b_ = g56 := e'; rw [← e'']; exact hb))).kp hk73 (fun b_ hb e' => by have e'' : b_ = g9 := e'; have := (((hO52).lo hk59).kp hk67 (fun b_ hb e' => hd65 (by have e'' : b_ = g56 := e'; rw [← e'']; exact hb))).base_le hb; omega)).base_le e'; omega), (fun e' => by have := ((((hO52).lo hk59).kp hk67 (fun b_ hb e' => hd65 (by have e'' : b_ = g56 := e'; rw [← e'']; exact hb))).kp hk73 (fun b_ hb e' => by have e'' : b_ = g9 := e'; have := (((hO52).lo hk59).kp hk67 (fun b_ hb e' => hd65 (by have e'' : b_ = g56 := e'; rw [← e'']; exact hb))).base_le hb; omega)).base_le e'; omega), (fun b_ h h' => hd55 (h'.trans h.symm)), hd65, (fun b_ h h' => hd55 (h'.trans h.symm)), (fun e' => by have := (((((((hO22).lo hk36).kp hk43 (fun b_ hb e' => hd41 (by have e'' : b_ = g33 := e'; rw [← e'']; exact hb))).lo hk51).lo hk59).kp hk67 (fun b_ hb e' => hd64 (by have e'' : b_ = g56 := e'; rw [← e'']; exact hb))).kp hk73 (fun b_ hb e' => by have e'' : b_ = g9 := e'; have := ((((((hO22).lo hk36).kp hk43 (fun b_ hb e' => hd41 (by have e'' : b_ = g33 := e'; rw [← e'']; exact hb))).lo hk51).lo hk59).kp hk67 (fun b_ hb e' => hd64 (by have e'' : b_ = g56 := e'; rw [← e'']; exact hb))).base_le hb; omega)).base_le e'; omega), (fun e' => by have := (((((((hO22).lo hk36).kp hk43 (fun b_ hb e' => hd41 (by have e'' : b_ = g33 := e'; rw [← e'']; exact hb))).lo hk51).lo hk59).kp hk67 (fun b_ hb e' => hd64 (by have e'' : b_ = g56 := e'; rw [← e'']; exact hb))).kp hk73 (fun b_ hb e' => by have e'' : b_ = g9 := e'; have := ((((((hO22).lo hk36).kp hk43 (fun b_ hb e' => hd41 (by have e'' : b_ = g33 := e'; rw [← e'']; exact hb))).lo hk51).lo hk59).kp hk67 (fun b_ hb e' => hd64 (by have e'' : b_ = g56 := e'; rw [← e'']; exact hb))).base_le hb; omega)).base_le e'; omega), hd41, hd64, (z_c_spec_DrawRunChest_84 L nL hbdL hleL hp0 v23 t24 s25 ht27 hq28 n20 hl31 hl32 v74 t75 s76 ht78 hq79)⟩
  · rintro ⟨n, o, S, t, z, A82, n82, c82, A83, n83, c83⟩ f85 w86 hP88
    obtain ⟨hB87, hm89, hm90, hm91, hm92, hm93, hm94, hO95, hO96, hd98, hd99, hd100, hd101, hd102, hd103, hd104, hd105, hd106, hd107, hi97⟩ : (Lo w w86) ∧ (Blk w86 g1 28 [.int .i64 0, .int .i64 0, .slice none 0 0, .int .i64 0, .int .i64 0, .int .i64 0]) ∧ (Blk w86 g9 104 [.slice AL nL cL, .int .i64 t, .int .u64 z]) ∧ (SlR w86 BL encB 1 AL nL cL L) ∧ (Blk w86 g33 28 [.int .i64 v23.State, .int .i64 v23.Key, .slice A19 n20 c21, .int .i64 v23.Dust, .int .i64 v23.Laid, .int .i64 v23.Given]) ∧ (SlO w86 w10.heap.size encI 1 3 A19 n20 c21 v23.Stack) ∧ (Blk w86 g56 28 [.int .i64 o.State, .int .i64 o.Key, .slice A83 n83 c83, .int .i64 o.Dust, .int .i64 o.Laid, .int .i64 o.Given]) ∧ (SlO w86 w.heap.size encChestStep 2 32 A82 n82 c82 S) ∧ (SlO w86 w.heap.size encI 1 3 A83 n83 c83 o.Stack) ∧ (¬ A82 = some ⟨g1, 0, none⟩) ∧ (¬ A82 = some ⟨g9, 0, none⟩) ∧ (¬ A82 = some ⟨g33, 0, none⟩) ∧ (∀ b_, A82 = some ⟨b_, 0, none⟩ → ¬ A19 = some ⟨b_, 0, none⟩) ∧ (¬ A82 = some ⟨g56, 0, none⟩) ∧ (∀ b_, A82 = some ⟨b_, 0, none⟩ → ¬ A83 = some ⟨b_, 0, none⟩) ∧ (¬ A83 = some ⟨g1, 0, none⟩) ∧ (¬ A83 = some ⟨g9, 0, none⟩) ∧ (¬ A83 = some ⟨g33, 0, none⟩) ∧ (¬ A83 = some ⟨g56, 0, none⟩) ∧ ((0 ≤ n ∧ n ≤ 11) ∧ (S.length : Int) + n ≤ 12 ∧ (o.Stack.length ≤ 11 ∧ 0 ≤ o.Key ∧ o.Key ≤ 9999) ∧ 0 ≤ t ∧ t ≤ 320 + 12 * (12 - n)) := hP88
    refine (?_ : W _ _ _ _ _ (act _ (sets f85 [(2, .pointer (some ((⟨g1, 0, none⟩ : Addr)))), (3, .slice none 0 0), (4, .pointer (some ((⟨g9, 0, none⟩ : Addr)))), (5, .pointer (some ((⟨g33, 0, none⟩ : Addr)))), (6, .slice A82 n82 c82), (7, .pointer (some ((⟨g56, 0, none⟩ : Addr)))), (8, .int .i64 n)])) _)
    have hzw86 := hB87.size
    have hl108 := hm89.lt
    have hl109 := hm90.lt
    have hl110 := hm92.lt
    have hl111 := hm94.lt
    have hl112 := hO95.len
    have hl113 := hO95.rd.bound
    have hl114 := hO96.len
    have hl115 := hO96.rd.bound
    have hq116 : (0 ≤ n ∧ n ≤ 11) ∧ (S.length : Int) + n ≤ 12 ∧ (o.Stack.length ≤ 11 ∧ 0 ≤ o.Key ∧ o.Key ≤ 9999) ∧ 0 ≤ t ∧ t ≤ 320 + 12 * (12 - n) := hi97
    refine W.seq ?_
    refine W.seq ?_
    refine W.regS (SR.q' (r_mv (v := .int .i64 _) rfl) <| SR.q' (r_gt rfl rfl) <| SR.nil ?_)
    refine W.cond_d rfl (fun h117 => ?_) (fun h117 => ?_)
    · refine W.skip ?_
      refine W.seq ?_
      refine W.block ?_
      refine W.seq ?_
      refine W.regS (SR.q' (r_mv (v := .pointer (some _)) rfl) <| SR.q' (r_lda (l := [.int .i64 o.State, .int .i64 o.Key, .slice A83 n83 c83, .int .i64 o.Dust, .int .i64 o.Laid, .int .i64 o.Given]) agg28 rfl (fun _ _ hu => (hm94).cell hu) rfl) <| SR.call ent89 (c___spec_l1Cur__chestStep w86 L t z (hm90) ((hm91)) (by omega) (by omega) o (((hO96).rd)) (by first | omega | (dsimp only; omega)) (by omega) ((hO96).apart hd105)) rfl ?_)
      rintro e w118 ⟨v120, t121, s122, rfl, hb123, ht124, hk119⟩
      refine ⟨_, rfl, ?_⟩
      have hz125 := hk119.size
      have hB126 := hB87.new hk119 (by omega)
      refine SR.alloc (l := [.int .i64 0, .int .i64 0]) tz32 rfl ?_
      intro g127 w128 hg129 hk130 hs131 hb132
      have hz133 := hk130.size
      have hB134 := hB126.lo hk130
      have hd135 : ¬ A19 = some ⟨g127, 0, none⟩ := fun e' => by have := ((hm93).kp hk119 (fun b_ hb e' => by have e'' : b_ = g9 := e'; have := (hm93).base_le hb; omega)).base_le e'; omega
      have hd136 : ¬ A82 = some ⟨g127, 0, none⟩ := fun e' => by have := ((hO95).kp hk119 (fun b_ hb e' => hd99 (by have e'' : b_ = g9 := e'; rw [← e'']; exact hb))).base_le e'; omega
      have hd137 : ¬ A83 = some ⟨g127, 0, none⟩ := fun e' => by have := ((hO96).kp hk119 (fun b_ hb e' => hd105 (by have e'' : b_ = g9 := e'; rw [← e'']; exact hb))).base_le e'; omega
      refine SR.store (o := 0) (vs := [.int .i64 v120.Kind, .int .i64 v120.Value]) agg32.2 rfl rfl rfl rfl (hb132) (Nat.le_of_ble_eq_true rfl) rfl ?_
      intro w138 hk139 hs140 hb141
      have hz142 := hk139.size
      have hB143 := hB134.new hk139 (by omega)
      refine SR.nil ?_
      refine W.seq ?_
      refine W.regS (SR.q' (r_mv (v := .slice _ _ _) rfl) <| SR.q' (r_lda (l := [.int .i64 v120.Kind, .int .i64 v120.Value]) agg32 rfl (fun _ _ hu => (hb141).cell hu) rfl) <| SR.lit (vs := [.agg (List.toArray [.int .i64 v120.Kind, .int .i64 v120.Value])]) (L := ([v120] : List ChestStep)) (enc := encChestStep) tel54 (fun _ => rfl) rfl rfl rfl (by decide) ?_)
      intro g144 w145 hg146 hk147 hO148
      have hz149 := hk147.size
      have hB150 := hB143.lo hk147
      have hd151 : ¬ A19 = some ⟨g144, 0, none⟩ := fun e' => by have := ((((hm93).kp hk119 (fun b_ hb e' => by have e'' : b_ = g9 := e'; have := (hm93).base_le hb; omega)).lo hk130).kp hk139 (fun b_ hb e' => hd135 (by have e'' : b_ = g127 := e'; rw [← e'']; exact hb))).base_le e'; omega
      have hd152 : ¬ A82 = some ⟨g144, 0, none⟩ := fun e' => by have := ((((hO95).kp hk119 (fun b_ hb e' => hd99 (by have e'' : b_ = g9 := e'; rw [← e'']; exact hb))).lo hk130).kp hk139 (fun b_ hb e' => hd136 (by have e'' : b_ = g127 := e'; rw [← e'']; exact hb))).base_le e'; omega
      have hd153 : ¬ A83 = some ⟨g144, 0, none⟩ := fun e' => by have := ((((hO96).kp hk119 (fun b_ hb e' => hd105 (by have e'' : b_ = g9 := e'; rw [← e'']; exact hb))).lo hk130).kp hk139 (fun b_ hb e' => hd137 (by have e'' : b_ = g127 := e'; rw [← e'']; exact hb))).base_le e'; omega
      refine SR.app tel54 rfl rfl (((((hO95).kp hk119 (fun b_ hb e' => hd99 (by have e'' : b_ = g9 := e'; rw [← e'']; exact hb))).lo hk130).kp hk139 (fun b_ hb e' => hd136 (by have e'' : b_ = g127 := e'; rw [← e'']; exact hb))).lo hk147) ((hO148).rd) (fun _ => rfl) (by omega) (by omega) ?_
      intro A154 c155 w156 hk157 hO158 hN159
      have hz160 := hk157.size
      have hB161 := hB150.step hk157 (fun i_ hi_ e' => by have := ((((((hO95).kp hk119 (fun b_ hb e' => hd99 (by have e'' : b_ = g9 := e'; rw [← e'']; exact hb))).lo hk130).kp hk139 (fun b_ hb e' => hd136 (by have e'' : b_ = g127 := e'; rw [← e'']; exact hb))).lo hk147)).base_le e'; first | omega | (exfalso; omega) | exact e' | exact .inl e' | exact .inr e')
      have hd162 : ¬ A154 = some ⟨g1, 0, none⟩ := fun e' => (hN159 g1 e').elim (fun h => hd98 (h.trans e')) (fun h => by have := (((((hm89).kp hk119 (fun e' => by have e'' : g1 = g9 := e'; omega)).lo hk130).kp hk139 (fun e' => by have e'' : g1 = g127 := e'; omega)).lo hk147).lt; omega)
      have hd163 : ¬ A154 = some ⟨g9, 0, none⟩ := fun e' => (hN159 g9 e').elim (fun h => hd99 (h.trans e')) (fun h => by have := ((((hb123).lo hk130).kp hk139 (fun e' => by have e'' : g9 = g127 := e'; omega)).lo hk147).lt; omega)
      have hd164 : ∀ b_, A154 = some ⟨b_, 0, none⟩ → ¬ A19 = some ⟨b_, 0, none⟩ := fun b_ e' h' => (hN159 b_ e').elim (fun h => hd101 b_ (h.trans e') h') (fun h => by have := (((((hm93).kp hk119 (fun b_ hb e' => by have e'' : b_ = g9 := e'; have := (hm93).base_le hb; omega)).lo hk130).kp hk139 (fun b_ hb e' => hd135 (by have e'' : b_ = g127 := e'; rw [← e'']; exact hb))).lo hk147).base_le h'; omega)
      have hd165 : ¬ A154 = some ⟨g33, 0, none⟩ := fun e' => (hN159 g33 e').elim (fun h => hd100 (h.trans e')) (fun h => by have := (((((hm92).kp hk119 (fun e' => by have e'' : g33 = g9 := e'; omega)).lo hk130).kp hk139 (fun e' => by have e'' : g33 = g127 := e'; omega)).lo hk147).lt; omega)
      have hd166 : ¬ A154 = some ⟨g56, 0, none⟩ := fun e' => (hN159 g56 e').elim (fun h => hd102 (h.trans e')) (fun h => by have := (((((hm94).kp hk119 (fun e' => by have e'' : g56 = g9 := e'; omega)).lo hk130).kp hk139 (fun e' => by have e'' : g56 = g127 := e'; omega)).lo hk147).lt; omega)
      have hd167 : ∀ b_, A154 = some ⟨b_, 0, none⟩ → ¬ A83 = some ⟨b_, 0, none⟩ := fun b_ e' h' => (hN159 b_ e').elim (fun h => hd103 b_ (h.trans e') h') (fun h => by have := (((((hO96).kp hk119 (fun b_ hb e' => hd105 (by have e'' : b_ = g9 := e'; rw [← e'']; exact hb))).lo hk130).kp hk139 (fun b_ hb e' => hd137 (by have e'' : b_ = g127 := e'; rw [← e'']; exact hb))).lo hk147).base_le h'; omega)
      have hd168 : ¬ A154 = some ⟨g127, 0, none⟩ := fun e' => (hN159 g127 e').elim (fun h => hd136 (h.trans e')) (fun h => by have := ((hb141).lo hk147).lt; omega)
      refine SR.q' (r_as (v := .slice _ _ _) rfl) <| SR.nil ?_
      refine W.seq ?_
      refine W.regS (SR.q' (r_lda (l := [.int .i64 o.State, .int .i64 o.Key, .slice A83 n83 c83, .int .i64 o.Dust, .int .i64 o.Laid, .int .i64 o.Given]) agg28 rfl (fun _ _ hu => ((((((hm94).kp hk119 (fun e' => by have e'' : g56 = g9 := e'; omega)).lo hk130).kp hk139 (fun e' => by have e'' : g56 = g127 := e'; omega)).lo hk147).kp hk157 (fun e' => hd102 e')).cell hu) rfl) <| SR.q' (r_lda (l := [.int .i64 v120.Kind, .int .i64 v120.Value]) agg32 rfl (fun _ _ hu => (((hb141).lo hk147).kp hk157 (fun e' => hd136 e')).cell hu) rfl) <| SR.call ent10 (c_spec_StepChest w156 o ((((((((hO96).kp hk119 (fun b_ hb e' => hd105 (by have e'' : b_ = g9 := e'; rw [← e'']; exact hb))).lo hk130).kp hk139 (fun b_ hb e' => hd137 (by have e'' : b_ = g127 := e'; rw [← e'']; exact hb))).lo hk147).kp hk157 (fun b_ hb e' => hd103 b_ e' hb)).rd)) v120) rfl ?_)
      rintro e w170 ⟨A172, n173, c174, rfl, hO175, hk171⟩
      refine ⟨_, rfl, ?_⟩
      have hz176 := hk171.size
      have hB177 := hB161.lo hk171
      have hl178 := hO175.len
      have hl179 := hO175.rd.bound
      have hq180 := step_len o v120
      refine SR.q' (r_mv (v := .tuple (List.toArray _)) rfl) <| SR.q' (r_ext (v := .agg (List.toArray _)) rfl rfl) <| SR.q' (r_ext (v := .bool _) rfl rfl) <| SR.alloc (l := [.int .i64 0, .int .i64 0, .slice none 0 0, .int .i64 0, .int .i64 0, .int .i64 0]) tz28 rfl ?_
      intro g181 w182 hg183 hk184 hs185 hb186
      have hz187 := hk184.size
      have hB188 := hB177.lo hk184
      have hd189 : ¬ A19 = some ⟨g181, 0, none⟩ := fun e' => by have := (((((((hm93).kp hk119 (fun b_ hb e' => by have e'' : b_ = g9 := e'; have := (hm93).base_le hb; omega)).lo hk130).kp hk139 (fun b_ hb e' => hd135 (by have e'' : b_ = g127 := e'; rw [← e'']; exact hb))).lo hk147).kp hk157 (fun b_ hb e' => hd101 b_ e' hb)).lo hk171).base_le e'; omega
      have hd190 : ¬ A83 = some ⟨g181, 0, none⟩ := fun e' => by have := (((((((hO96).kp hk119 (fun b_ hb e' => hd105 (by have e'' : b_ = g9 := e'; rw [← e'']; exact hb))).lo hk130).kp hk139 (fun b_ hb e' => hd137 (by have e'' : b_ = g127 := e'; rw [← e'']; exact hb))).lo hk147).kp hk157 (fun b_ hb e' => hd103 b_ e' hb)).lo hk171).base_le e'; omega
      have hd191 : ¬ (some (⟨g144, 0, none⟩ : Addr)) = some ⟨g181, 0, none⟩ := fun e' => by have := (((hO148).kp hk157 (fun b_ hb e' => hd152 (hb ▸ e'))).lo hk171).base_le e'; omega
      have hd192 : ¬ A154 = some ⟨g181, 0, none⟩ := fun e' => by have := ((hO158).lo hk171).base_le e'; omega
      have hd193 : ¬ A172 = some ⟨g181, 0, none⟩ := fun e' => by have := (hO175).base_le e'; omega
      refine SR.store (o := 0) (vs := [.int .i64 (((spec_StepChest o v120).1).State), .int .i64 (((spec_StepChest o v120).1).Key), .slice A172 n173 c174, .int .i64 (((spec_StepChest o v120).1).Dust), .int .i64 (((spec_StepChest o v120).1).Laid), .int .i64 (((spec_StepChest o v120).1).Given)]) agg28.2 rfl rfl rfl rfl (hb186) (Nat.le_of_ble_eq_true rfl) rfl ?_
      intro w194 hk195 hs196 hb197
      have hz198 := hk195.size
      have hB199 := hB188.new hk195 (by omega)
      refine SR.q' (r_as (v := .bool _) rfl) <| SR.nil ?_
      refine W.seq ?_
      refine W.regS (SR.q' (r_mv (v := .bool _) rfl) <| SR.nil ?_)
      refine W.cond_b rfl (fun h200 => ?_) (fun h200 => ?_)
      · refine W.regS (SR.q' (r_lda (l := [.int .i64 (((spec_StepChest o v120).1).State), .int .i64 (((spec_StepChest o v120).1).Key), .slice A172 n173 c174, .int .i64 (((spec_StepChest o v120).1).Dust), .int .i64 (((spec_StepChest o v120).1).Laid), .int .i64 (((spec_StepChest o v120).1).Given)]) agg28 rfl (fun _ _ hu => (hb197).cell hu) rfl) <| SR.store (o := 0) (vs := [.int .i64 (((spec_StepChest o v120).1).State), .int .i64 (((spec_StepChest o v120).1).Key), .slice A172 n173 c174, .int .i64 (((spec_StepChest o v120).1).Dust), .int .i64 (((spec_StepChest o v120).1).Laid), .int .i64 (((spec_StepChest o v120).1).Given)]) agg28.2 rfl rfl rfl rfl (((((((((hm94).kp hk119 (fun e' => by have e'' : g56 = g9 := e'; omega)).lo hk130).kp hk139 (fun e' => by have e'' : g56 = g127 := e'; omega)).lo hk147).kp hk157 (fun e' => hd102 e')).lo hk171).lo hk184).kp hk195 (fun e' => by have e'' : g56 = g181 := e'; omega)) (Nat.le_of_ble_eq_true rfl) rfl ?_)
        intro w201 hk202 hs203 hb204
        have hz205 := hk202.size
        have hB206 := hB199.new hk202 (by omega)
        refine SR.nil ?_
        refine W.regS (SR.q' (r_mv (v := .int .i64 _) rfl) <| SR.q' (r_sub rfl rfl (by omega)) <| SR.q' (r_as (v := .int .i64 _) rfl) <| SR.nil ?_)
        refine ⟨(n - 1, ((spec_StepChest o v120).1), S ++ ([v120] : List ChestStep), t121, s122, A154, n82 + 1, c155, A172, n173, c174), _, rfl, ⟨rfl, rfl, rfl, rfl, rfl, rfl, rfl, trivial⟩, (show (Lo w w201) ∧ (Blk w201 g1 28 [.int .i64 0, .int .i64 0, .slice none 0 0, .int .i64 0, .int .i64 0, .int .i64 0]) ∧ (Blk w201 g9 104 [.slice AL nL cL, .int .i64 t121, .int .u64 s122]) ∧ (SlR w201 BL encB 1 AL nL cL L) ∧ (Blk w201 g33 28 [.int .i64 v23.State, .int .i64 v23.Key, .slice A19 n20 c21, .int .i64 v23.Dust, .int .i64 v23.Laid, .int .i64 v23.Given]) ∧ (SlO w201 w10.heap.size encI 1 3 A19 n20 c21 v23.Stack) ∧ (Blk w201 g56 28 [.int .i64 (((spec_StepChest o v120).1).State), .int .i64 (((spec_StepChest o v120).1).Key), .slice A172 n173 c174, .int .i64 (((spec_StepChest o v120).1).Dust), .int .i64 (((spec_StepChest o v120).1).Laid), .int .i64 (((spec_StepChest o v120).1).Given)]) ∧ (SlO w201 w.heap.size encChestStep 2 32 A154 (n82 + 1) c155 (S ++ ([v120] : List ChestStep))) ∧ (SlO w201 w.heap.size encI 1 3 A172 n173 c174 (((spec_StepChest o v120).1).Stack)) ∧ (¬ A154 = some ⟨g1, 0, none⟩) ∧ (¬ A154 = some ⟨g9, 0, none⟩) ∧ (¬ A154 = some ⟨g33, 0, none⟩) ∧ (∀ b_, A154 = some ⟨b_, 0, none⟩ → ¬ A19 = some ⟨b_, 0, none⟩) ∧ (¬ A154 = some ⟨g56, 0, none⟩) ∧ (∀ b_, A154 = some ⟨b_, 0, none⟩ → ¬ A172 = some ⟨b_, 0, none⟩) ∧ (¬ A172 = some ⟨g1, 0, none⟩) ∧ (¬ A172 = some ⟨g9, 0, none⟩) ∧ (¬ A172 = some ⟨g33, 0, none⟩) ∧ (¬ A172 = some ⟨g56, 0, none⟩) ∧ ((0 ≤ n - 1 ∧ n - 1 ≤ 11) ∧ ((S ++ ([v120] : List ChestStep)).length : Int) + (n - 1) ≤ 12 ∧ (((spec_StepChest o v120).1).Stack.length ≤ 11 ∧ 0 ≤ ((spec_StepChest o v120).1).Key ∧ ((spec_StepChest o v120).1).Key ≤ 9999) ∧ 0 ≤ t121 ∧ t121 ≤ 320 + 12 * (12 - (n - 1))) from ⟨hB206, (((((((((hm89).kp hk119 (fun e' => by have e'' : g1 = g9 := e'; omega)).lo hk130).kp hk139 (fun e' => by have e'' : g1 = g127 := e'; omega)).lo hk147).kp hk157 (fun e' => hd98 e')).lo hk171).lo hk184).kp hk195 (fun e' => by have e'' : g1 = g181 := e'; omega)).kp hk202 (fun e' => by have e'' : g1 = g56 := e'; omega), (((((((((hb123).lo hk130).kp hk139 (fun e' => by have e'' : g9 = g127 := e'; omega)).lo hk147).kp hk157 (fun e' => hd99 e')).lo hk171).lo hk184).kp hk195 (fun e' => by have e'' : g9 = g181 := e'; omega)).kp hk202 (fun e' => by have e'' : g9 = g56 := e'; omega)), (((((((((hm91).kp hk119 (fun b_ hb e' => by have e'' : b_ = g9 := e'; omega)).lo hk130).kp hk139 (fun b_ hb e' => by have e'' : b_ = g127 := e'; omega)).lo hk147).kp hk157 (fun b_ hb e' => by have := ((((((hO95).kp hk119 (fun b_ hb e' => hd99 (by have e'' : b_ = g9 := e'; rw [← e'']; exact hb))).lo hk130).kp hk139 (fun b_ hb e' => hd136 (by have e'' : b_ = g127 := e'; rw [← e'']; exact hb))).lo hk147)).base_le e'; omega)).lo hk171).lo hk184).kp hk195 (fun b_ hb e' => by have e'' : b_ = g181 := e'; omega)).kp hk202 (fun b_ hb e' => by have e'' : b_ = g56 := e'; omega), (((((((((hm92).kp hk119 (fun e' => by have e'' : g33 = g9 := e'; omega)).lo hk130).kp hk139 (fun e' => by have e'' : g33 = g127 := e'; omega)).lo hk147).kp hk157 (fun e' => hd100 e')).lo hk171).lo hk184).kp hk195 (fun e' => by have e'' : g33 = g181 := e'; omega)).kp hk202 (fun e' => by have e'' : g33 = g56 := e'; omega), (((((((((hm93).kp hk119 (fun b_ hb e' => by have e'' : b_ = g9 := e'; have := (hm93).base_le hb; omega)).lo hk130).kp hk139 (fun b_ hb e' => hd135 (by have e'' : b_ = g127 := e'; rw [← e'']; exact hb))).lo hk147).kp hk157 (fun b_ hb e' => hd101 b_ e' hb)).lo hk171).lo hk184).kp hk195 (fun b_ hb e' => hd189 (by have e'' : b_ = g181 := e'; rw [← e'']; exact hb))).kp hk202 (fun b_ hb e' => hd64 (by have e'' : b_ = g56 := e'; rw [← e'']; exact hb)), (hb204), (((((hO158).lo hk171).lo hk184).kp hk195 (fun b_ hb e' => hd192 (by have e'' : b_ = g181 := e'; rw [← e'']; exact hb))).kp hk202 (fun b_ hb e' => hd166 (by have e'' : b_ = g56 := e'; rw [← e'']; exact hb))), (((((hO175).lo hk184).kp hk195 (fun b_ hb e' => hd193 (by have e'' : b_ = g181 := e'; rw [← e'']; exact hb))).kp hk202 (fun b_ hb e' => by have e'' : b_ = g56 := e'; have := (((hO175).lo hk184).kp hk195 (fun b_ hb e' => hd193 (by have e'' : b_ = g181 := e'; rw [← e'']; exact hb))).base_le hb; omega)).down (by omega)), hd162, hd163, hd165, hd164, hd166, (fun b_ h h' => by have h1 := (hO158).base_le h; have h2 := ((((hO175).lo hk184).kp hk195 (fun b_ hb e' => hd193 (by have e'' : b_ = g181 := e'; rw [← e'']; exact hb))).kp hk202 (fun b_ hb e' => by have e'' : b_ = g56 := e'; have := (((hO175).lo hk184).kp hk195 (fun b_ hb e' => hd193 (by have e'' : b_ = g181 := e'; rw [← e'']; exact hb))).base_le hb; omega)).base_le h'; omega), (fun e' => by have := ((((hO175).lo hk184).kp hk195 (fun b_ hb e' => hd193 (by have e'' : b_ = g181 := e'; rw [← e'']; exact hb))).kp hk202 (fun b_ hb e' => by have e'' : b_ = g56 := e'; have := (((hO175).lo hk184).kp hk195 (fun b_ hb e' => hd193 (by have e'' : b_ = g181 := e'; rw [← e'']; exact hb))).base_le hb; omega)).base_le e'; omega), (fun e' => by have := ((((hO175).lo hk184).kp hk195 (fun b_ hb e' => hd193 (by have e'' : b_ = g181 := e'; rw [← e'']; exact hb))).kp hk202 (fun b_ hb e' => by have e'' : b_ = g56 := e'; have := (((hO175).lo hk184).kp hk195 (fun b_ hb e' => hd193 (by have e'' : b_ = g181 := e'; rw [← e'']; exact hb))).base_le hb; omega)).base_le e'; omega), (fun e' => by have := ((((hO175).lo hk184).kp hk195 (fun b_ hb e' => hd193 (by have e'' : b_ = g181 := e'; rw [← e'']; exact hb))).kp hk202 (fun b_ hb e' => by have e'' : b_ = g56 := e'; have := (((hO175).lo hk184).kp hk195 (fun b_ hb e' => hd193 (by have e'' : b_ = g181 := e'; rw [← e'']; exact hb))).base_le hb; omega)).base_le e'; omega), (fun e' => by have := ((((hO175).lo hk184).kp hk195 (fun b_ hb e' => hd193 (by have e'' : b_ = g181 := e'; rw [← e'']; exact hb))).kp hk202 (fun b_ hb e' => by have e'' : b_ = g56 := e'; have := (((hO175).lo hk184).kp hk195 (fun b_ hb e' => hd193 (by have e'' : b_ = g181 := e'; rw [← e'']; exact hb))).base_le hb; omega)).base_le e'; omega), ?_⟩), ?_⟩
        · exact (z_c_spec_DrawRunChest_207 L nL hbdL hleL hp0 v23 t24 s25 ht27 hq28 n20 hl31 hl32 v74 t75 s76 ht78 hq79 n o S t z n82 c82 n83 c83 hi97 hl112 hl114 hq116 h117 v120 t121 s122 ht124 n173 hl178 hl179 hq180 h200)
        · exact (z_c_spec_DrawRunChest_208 L nL hbdL hleL hp0 v23 t24 s25 ht27 hq28 n20 hl31 hl32 v74 t75 s76 ht78 hq79 n o S t z n82 c82 n83 c83 hi97 hl112 hl114 hq116 h117 v120 t121 s122 ht124 n173 hl178 hl179 hq180 h200)
      · refine W.skip ?_
        refine W.regS (SR.q' (r_mv (v := .int .i64 _) rfl) <| SR.q' (r_sub rfl rfl (by omega)) <| SR.q' (r_as (v := .int .i64 _) rfl) <| SR.nil ?_)
        refine ⟨(n - 1, o, S ++ ([v120] : List ChestStep), t121, s122, A154, n82 + 1, c155, A83, n83, c83), _, rfl, ⟨rfl, rfl, rfl, rfl, rfl, rfl, rfl, trivial⟩, (show (Lo w w194) ∧ (Blk w194 g1 28 [.int .i64 0, .int .i64 0, .slice none 0 0, .int .i64 0, .int .i64 0, .int .i64 0]) ∧ (Blk w194 g9 104 [.slice AL nL cL, .int .i64 t121, .int .u64 s122]) ∧ (SlR w194 BL encB 1 AL nL cL L) ∧ (Blk w194 g33 28 [.int .i64 v23.State, .int .i64 v23.Key, .slice A19 n20 c21, .int .i64 v23.Dust, .int .i64 v23.Laid, .int .i64 v23.Given]) ∧ (SlO w194 w10.heap.size encI 1 3 A19 n20 c21 v23.Stack) ∧ (Blk w194 g56 28 [.int .i64 o.State, .int .i64 o.Key, .slice A83 n83 c83, .int .i64 o.Dust, .int .i64 o.Laid, .int .i64 o.Given]) ∧ (SlO w194 w.heap.size encChestStep 2 32 A154 (n82 + 1) c155 (S ++ ([v120] : List ChestStep))) ∧ (SlO w194 w.heap.size encI 1 3 A83 n83 c83 o.Stack) ∧ (¬ A154 = some ⟨g1, 0, none⟩) ∧ (¬ A154 = some ⟨g9, 0, none⟩) ∧ (¬ A154 = some ⟨g33, 0, none⟩) ∧ (∀ b_, A154 = some ⟨b_, 0, none⟩ → ¬ A19 = some ⟨b_, 0, none⟩) ∧ (¬ A154 = some ⟨g56, 0, none⟩) ∧ (∀ b_, A154 = some ⟨b_, 0, none⟩ → ¬ A83 = some ⟨b_, 0, none⟩) ∧ (¬ A83 = some ⟨g1, 0, none⟩) ∧ (¬ A83 = some ⟨g9, 0, none⟩) ∧ (¬ A83 = some ⟨g33, 0, none⟩) ∧ (¬ A83 = some ⟨g56, 0, none⟩) ∧ ((0 ≤ n - 1 ∧ n - 1 ≤ 11) ∧ ((S ++ ([v120] : List ChestStep)).length : Int) + (n - 1) ≤ 12 ∧ (o.Stack.length ≤ 11 ∧ 0 ≤ o.Key ∧ o.Key ≤ 9999) ∧ 0 ≤ t121 ∧ t121 ≤ 320 + 12 * (12 - (n - 1))) from ⟨hB199, ((((((((hm89).kp hk119 (fun e' => by have e'' : g1 = g9 := e'; omega)).lo hk130).kp hk139 (fun e' => by have e'' : g1 = g127 := e'; omega)).lo hk147).kp hk157 (fun e' => hd98 e')).lo hk171).lo hk184).kp hk195 (fun e' => by have e'' : g1 = g181 := e'; omega), ((((((((hb123).lo hk130).kp hk139 (fun e' => by have e'' : g9 = g127 := e'; omega)).lo hk147).kp hk157 (fun e' => hd99 e')).lo hk171).lo hk184).kp hk195 (fun e' => by have e'' : g9 = g181 := e'; omega)), ((((((((hm91).kp hk119 (fun b_ hb e' => by have e'' : b_ = g9 := e'; omega)).lo hk130).kp hk139 (fun b_ hb e' => by have e'' : b_ = g127 := e'; omega)).lo hk147).kp hk157 (fun b_ hb e' => by have := ((((((hO95).kp hk119 (fun b_ hb e' => hd99 (by have e'' : b_ = g9 := e'; rw [← e'']; exact hb))).lo hk130).kp hk139 (fun b_ hb e' => hd136 (by have e'' : b_ = g127 := e'; rw [← e'']; exact hb))).lo hk147)).base_le e'; omega)).lo hk171).lo hk184).kp hk195 (fun b_ hb e' => by have e'' : b_ = g181 := e'; omega), ((((((((hm92).kp hk119 (fun e' => by have e'' : g33 = g9 := e'; omega)).lo hk130).kp hk139 (fun e' => by have e'' : g33 = g127 := e'; omega)).lo hk147).kp hk157 (fun e' => hd100 e')).lo hk171).lo hk184).kp hk195 (fun e' => by have e'' : g33 = g181 := e'; omega), ((((((((hm93).kp hk119 (fun b_ hb e' => by have e'' : b_ = g9 := e'; have := (hm93).base_le hb; omega)).lo hk130).kp hk139 (fun b_ hb e' => hd135 (by have e'' : b_ = g127 := e'; rw [← e'']; exact hb))).lo hk147).kp hk157 (fun b_ hb e' => hd101 b_ e' hb)).lo hk171).lo hk184).kp hk195 (fun b_ hb e' => hd189 (by have e'' : b_ = g181 := e'; rw [← e'']; exact hb)), (((((((((hm94).kp hk119 (fun e' => by have e'' : g56 = g9 := e'; omega)).lo hk130).kp hk139 (fun e' => by have e'' : g56 = g127 := e'; omega)).lo hk147).kp hk157 (fun e' => hd102 e')).lo hk171).lo hk184).kp hk195 (fun e' => by have e'' : g56 = g181 := e'; omega)), ((((hO158).lo hk171).lo hk184).kp hk195 (fun b_ hb e' => hd192 (by have e'' : b_ = g181 := e'; rw [← e'']; exact hb))), (((((((((hO96).kp hk119 (fun b_ hb e' => hd105 (by have e'' : b_ = g9 := e'; rw [← e'']; exact hb))).lo hk130).kp hk139 (fun b_ hb e' => hd137 (by have e'' : b_ = g127 := e'; rw [← e'']; exact hb))).lo hk147).kp hk157 (fun b_ hb e' => hd103 b_ e' hb)).lo hk171).lo hk184).kp hk195 (fun b_ hb e' => hd190 (by have e'' : b_ = g181 := e'; rw [← e'']; exact hb))), hd162, hd163, hd165, hd164, hd166, hd167, hd104, hd105, hd106, hd107, ?_⟩), ?_⟩
        · exact (z_c_spec_DrawRunChest_209 L nL hbdL hleL hp0 v23 t24 s25 ht27 hq28 n20 hl31 hl32 v74 t75 s76 ht78 hq79 n o S t z n82 c82 n83 c83 hi97 hl112 hl114 hq116 h117 v120 t121 s122 ht124 n173 hl178 hl179 hq180 h200)
        · exact (z_c_spec_DrawRunChest_210 L nL hbdL hleL hp0 v23 t24 s25 ht27 hq28 n20 hl31 hl32 v74 t75 s76 ht78 hq79 n o S t z n82 c82 n83 c83 hi97 hl112 hl114 hq116 h117 v120 t121 s122 ht124 n173 hl178 hl179 hq180 h200)
    · refine W.exit (xin_here ?_)
      refine W.seq ?_
      refine W.seq ?_
      refine W.regS (SR.q' (r_mv (v := .pointer (some _)) rfl) <| SR.call ent85 (c___spec_l1Cur__one w86 L t z (hm90) ((hm91)) (by omega) (by omega) 24 (by first | omega | (simp only [List.length_append, List.length_cons, List.length_nil, List.length_take, List.length_drop]; omega))) rfl ?_)
      rintro e w211 ⟨v213, t214, s215, rfl, hb216, ht217, hk212⟩
      refine ⟨_, rfl, ?_⟩
      have hz218 := hk212.size
      have hB219 := hB87.new hk212 (by omega)
      refine SR.nil ?_
      refine W.cond_b rfl (fun h220 => ?_) (fun h220 => ?_)
      · refine W.block ?_
        refine W.loop (σ := (List ChestStep) × Int × Int × (Option Addr) × Nat × Nat) (fun g => [(2, .pointer (some ((⟨g1, 0, none⟩ : Addr)))), (3, .slice none 0 0), (4, .pointer (some ((⟨g9, 0, none⟩ : Addr)))), (5, .pointer (some ((⟨g33, 0, none⟩ : Addr)))), (6, .slice g.2.2.2.1 g.2.2.2.2.1 g.2.2.2.2.2)]) (fun g w' => (Lo w w') ∧ (Blk w' g1 28 [.int .i64 0, .int .i64 0, .slice none 0 0, .int .i64 0, .int .i64 0, .int .i64 0]) ∧ (Blk w' g9 104 [.slice AL nL cL, .int .i64 g.2.1, .int .u64 g.2.2.1]) ∧ (SlR w' BL encB 1 AL nL cL L) ∧ (Blk w' g33 28 [.int .i64 v23.State, .int .i64 v23.Key, .slice A19 n20 c21, .int .i64 v23.Dust, .int .i64 v23.Laid, .int .i64 v23.Given]) ∧ (SlO w' w10.heap.size encI 1 3 A19 n20 c21 v23.Stack) ∧ (SlO w' w.heap.size encChestStep 2 32 g.2.2.2.1 g.2.2.2.2.1 g.2.2.2.2.2 g.1) ∧ (¬ g.2.2.2.1 = some ⟨g1, 0, none⟩) ∧ (¬ g.2.2.2.1 = some ⟨g9, 0, none⟩) ∧ (¬ g.2.2.2.1 = some ⟨g33, 0, none⟩) ∧ (∀ b_, g.2.2.2.1 = some ⟨b_, 0, none⟩ → ¬ A19 = some ⟨b_, 0, none⟩) ∧ (g.1.length ≤ 41 ∧ 0 ≤ g.2.1 ∧ g.2.1 ≤ 600 + 2 * (g.1.length : Int))) (fun g => 60 - g.1.length) (S, t214, s215, A82, n82, c82) ?_ ?_ ?_
        · exact ⟨rfl, rfl, rfl, rfl, rfl, trivial⟩
        · show (Lo w w211) ∧ (Blk w211 g1 28 [.int .i64 0, .int .i64 0, .slice none 0 0, .int .i64 0, .int .i64 0, .int .i64 0]) ∧ (Blk w211 g9 104 [.slice AL nL cL, .int .i64 t214, .int .u64 s215]) ∧ (SlR w211 BL encB 1 AL nL cL L) ∧ (Blk w211 g33 28 [.int .i64 v23.State, .int .i64 v23.Key, .slice A19 n20 c21, .int .i64 v23.Dust, .int .i64 v23.Laid, .int .i64 v23.Given]) ∧ (SlO w211 w10.heap.size encI 1 3 A19 n20 c21 v23.Stack) ∧ (SlO w211 w.heap.size encChestStep 2 32 A82 n82 c82 S) ∧ (¬ A82 = some ⟨g1, 0, none⟩) ∧ (¬ A82 = some ⟨g9, 0, none⟩) ∧ (¬ A82 = some ⟨g33, 0, none⟩) ∧ (∀ b_, A82 = some ⟨b_, 0, none⟩ → ¬ A19 = some ⟨b_, 0, none⟩) ∧ (S.length ≤ 41 ∧ 0 ≤ t214 ∧ t214 ≤ 600 + 2 * (S.length : Int))
          exact ⟨hB219, (hm89).kp hk212 (fun e' => by have e'' : g1 = g9 := e'; omega), (hb216), (hm91).kp hk212 (fun b_ hb e' => by have e'' : b_ = g9 := e'; omega), (hm92).kp hk212 (fun e' => by have e'' : g33 = g9 := e'; omega), (hm93).kp hk212 (fun b_ hb e' => by have e'' : b_ = g9 := e'; have := (hm93).base_le hb; omega), ((hO95).kp hk212 (fun b_ hb e' => hd99 (by have e'' : b_ = g9 := e'; rw [← e'']; exact hb))), hd98, hd99, hd100, hd101, (z_c_spec_DrawRunChest_222 L nL hbdL hleL hp0 v23 t24 s25 ht27 hq28 n20 hl31 hl32 v74 t75 s76 ht78 hq79 n o S t z n82 c82 n83 c83 hi97 hl112 hl114 hq116 h117 v213 t214 s215 ht217 h220)⟩
        · rintro ⟨Q, t2, z2, A221, n221, c221⟩ f223 w224 hP226
          obtain ⟨hB225, hm227, hm228, hm229, hm230, hm231, hO232, hd234, hd235, hd236, hd237, hi233⟩ : (Lo w w224) ∧ (Blk w224 g1 28 [.int .i64 0, .int .i64 0, .slice none 0 0, .int .i64 0, .int .i64 0, .int .i64 0]) ∧ (Blk w224 g9 104 [.slice AL nL cL, .int .i64 t2, .int .u64 z2]) ∧ (SlR w224 BL encB 1 AL nL cL L) ∧ (Blk w224 g33 28 [.int .i64 v23.State, .int .i64 v23.Key, .slice A19 n20 c21, .int .i64 v23.Dust, .int .i64 v23.Laid, .int .i64 v23.Given]) ∧ (SlO w224 w10.heap.size encI 1 3 A19 n20 c21 v23.Stack) ∧ (SlO w224 w.heap.size encChestStep 2 32 A221 n221 c221 Q) ∧ (¬ A221 = some ⟨g1, 0, none⟩) ∧ (¬ A221 = some ⟨g9, 0, none⟩) ∧ (¬ A221 = some ⟨g33, 0, none⟩) ∧ (∀ b_, A221 = some ⟨b_, 0, none⟩ → ¬ A19 = some ⟨b_, 0, none⟩) ∧ (Q.length ≤ 41 ∧ 0 ≤ t2 ∧ t2 ≤ 600 + 2 * (Q.length : Int)) := hP226
          refine (?_ : W _ _ _ _ _ (act _ (sets f223 [(2, .pointer (some ((⟨g1, 0, none⟩ : Addr)))), (3, .slice none 0 0), (4, .pointer (some ((⟨g9, 0, none⟩ : Addr)))), (5, .pointer (some ((⟨g33, 0, none⟩ : Addr)))), (6, .slice A221 n221 c221)])) _)
          have hzw224 := hB225.size
          have hl238 := hm227.lt
          have hl239 := hm228.lt
          have hl240 := hm230.lt
          have hl241 := hO232.len
          have hl242 := hO232.rd.bound
          have hq243 : Q.length ≤ 41 ∧ 0 ≤ t2 ∧ t2 ≤ 600 + 2 * (Q.length : Int) := hi233
          refine W.seq ?_
          refine W.seq ?_
          refine W.regS (SR.q' (r_mv (v := .slice _ _ _) rfl) <| SR.q' (r_len und54 rfl) <| SR.q' (r_mv (v := .pointer (some _)) rfl) <| SR.call ent84 (c___spec_l1Cur__pick w224 L t2 z2 (hm228) ((hm229)) (by omega) (by omega) 2 (by first | omega | (simp only [List.length_append, List.length_cons, List.length_nil, List.length_take, List.length_drop]; omega))) rfl ?_)
          rintro e w244 ⟨v246, t247, s248, rfl, hb249, ht250, hq251, hk245⟩
          refine ⟨_, rfl, ?_⟩
          have hz252 := hk245.size
          have hB253 := hB225.new hk245 (by omega)
          refine SR.q' (r_add rfl rfl (by omega)) <| SR.q' (r_lt rfl rfl) <| SR.nil ?_
          refine W.cond_d rfl (fun h254 => ?_) (fun h254 => ?_)
          · refine W.skip ?_
            refine W.block ?_
            refine W.regS (SR.q' (r_mv (v := .slice _ _ _) rfl) <| SR.q' (r_mv (v := .slice _ _ _) rfl) <| SR.q' (r_len und54 rfl) <| SR.q' (r_rem rfl rfl (by omega)) <| SR.q' (r_add rfl rfl (by omega)) <| SR.q' (r_build (vs := [(0, .int .i64 (1 + ((n221 : Int) % 2)))]) rfl (bld32_0 _)) <| SR.lit (vs := [.agg (List.toArray [.int .i64 (1 + ((n221 : Int) % 2)), .int .i64 0])]) (L := ([(⟨1 + ((n221 : Int) % 2), 0⟩ : ChestStep)] : List ChestStep)) (enc := encChestStep) tel54 (fun _ => rfl) rfl rfl rfl (by decide) ?_)
            intro g255 w256 hg257 hk258 hO259
            have hz260 := hk258.size
            have hB261 := hB253.lo hk258
            have hd262 : ¬ A19 = some ⟨g255, 0, none⟩ := fun e' => by have := ((hm231).kp hk245 (fun b_ hb e' => by have e'' : b_ = g9 := e'; have := (hm231).base_le hb; omega)).base_le e'; omega
            have hd263 : ¬ A221 = some ⟨g255, 0, none⟩ := fun e' => by have := ((hO232).kp hk245 (fun b_ hb e' => hd235 (by have e'' : b_ = g9 := e'; rw [← e'']; exact hb))).base_le e'; omega
            refine SR.app tel54 rfl rfl (((hO232).kp hk245 (fun b_ hb e' => hd235 (by have e'' : b_ = g9 := e'; rw [← e'']; exact hb))).lo hk258) ((hO259).rd) (fun _ => rfl) (by omega) (by omega) ?_
            intro A264 c265 w266 hk267 hO268 hN269
            have hz270 := hk267.size
            have hB271 := hB261.step hk267 (fun i_ hi_ e' => by have := ((((hO232).kp hk245 (fun b_ hb e' => hd235 (by have e'' : b_ = g9 := e'; rw [← e'']; exact hb))).lo hk258)).base_le e'; first | omega | (exfalso; omega) | exact e' | exact .inl e' | exact .inr e')
            have hd272 : ¬ A264 = some ⟨g1, 0, none⟩ := fun e' => (hN269 g1 e').elim (fun h => hd234 (h.trans e')) (fun h => by have := (((hm227).kp hk245 (fun e' => by have e'' : g1 = g9 := e'; omega)).lo hk258).lt; omega)
            have hd273 : ¬ A264 = some ⟨g9, 0, none⟩ := fun e' => (hN269 g9 e').elim (fun h => hd235 (h.trans e')) (fun h => by have := ((hb249).lo hk258).lt; omega)
            have hd274 : ∀ b_, A264 = some ⟨b_, 0, none⟩ → ¬ A19 = some ⟨b_, 0, none⟩ := fun b_ e' h' => (hN269 b_ e').elim (fun h => hd237 b_ (h.trans e') h') (fun h => by have := (((hm231).kp hk245 (fun b_ hb e' => by have e'' : b_ = g9 := e'; have := (hm231).base_le hb; omega)).lo hk258).base_le h'; omega)
            have hd275 : ¬ A264 = some ⟨g33, 0, none⟩ := fun e' => (hN269 g33 e').elim (fun h => hd236 (h.trans e')) (fun h => by have := (((hm230).kp hk245 (fun e' => by have e'' : g33 = g9 := e'; omega)).lo hk258).lt; omega)
            refine SR.q' (r_as (v := .slice _ _ _) rfl) <| SR.nil ?_
            refine ⟨(Q ++ ([(⟨1 + ((n221 : Int) % 2), 0⟩ : ChestStep)] : List ChestStep), t247, s248, A264, n221 + 1, c265), _, rfl, ⟨rfl, rfl, rfl, rfl, rfl, trivial⟩, (show (Lo w w266) ∧ (Blk w266 g1 28 [.int .i64 0, .int .i64 0, .slice none 0 0, .int .i64 0, .int .i64 0, .int .i64 0]) ∧ (Blk w266 g9 104 [.slice AL nL cL, .int .i64 t247, .int .u64 s248]) ∧ (SlR w266 BL encB 1 AL nL cL L) ∧ (Blk w266 g33 28 [.int .i64 v23.State, .int .i64 v23.Key, .slice A19 n20 c21, .int .i64 v23.Dust, .int .i64 v23.Laid, .int .i64 v23.Given]) ∧ (SlO w266 w10.heap.size encI 1 3 A19 n20 c21 v23.Stack) ∧ (SlO w266 w.heap.size encChestStep 2 32 A264 (n221 + 1) c265 (Q ++ ([(⟨1 + ((n221 : Int) % 2), 0⟩ : ChestStep)] : List ChestStep))) ∧ (¬ A264 = some ⟨g1, 0, none⟩) ∧ (¬ A264 = some ⟨g9, 0, none⟩) ∧ (¬ A264 = some ⟨g33, 0, none⟩) ∧ (∀ b_, A264 = some ⟨b_, 0, none⟩ → ¬ A19 = some ⟨b_, 0, none⟩) ∧ ((Q ++ ([(⟨1 + ((n221 : Int) % 2), 0⟩ : ChestStep)] : List ChestStep)).length ≤ 41 ∧ 0 ≤ t247 ∧ t247 ≤ 600 + 2 * ((Q ++ ([(⟨1 + ((n221 : Int) % 2), 0⟩ : ChestStep)] : List ChestStep)).length : Int)) from ⟨hB271, (((hm227).kp hk245 (fun e' => by have e'' : g1 = g9 := e'; omega)).lo hk258).kp hk267 (fun e' => hd234 e'), (((hb249).lo hk258).kp hk267 (fun e' => hd235 e')), (((hm229).kp hk245 (fun b_ hb e' => by have e'' : b_ = g9 := e'; omega)).lo hk258).kp hk267 (fun b_ hb e' => by have := ((((hO232).kp hk245 (fun b_ hb e' => hd235 (by have e'' : b_ = g9 := e'; rw [← e'']; exact hb))).lo hk258)).base_le e'; omega), (((hm230).kp hk245 (fun e' => by have e'' : g33 = g9 := e'; omega)).lo hk258).kp hk267 (fun e' => hd236 e'), (((hm231).kp hk245 (fun b_ hb e' => by have e'' : b_ = g9 := e'; have := (hm231).base_le hb; omega)).lo hk258).kp hk267 (fun b_ hb e' => hd237 b_ e' hb), (hO268), hd272, hd273, hd275, hd274, ?_⟩), ?_⟩
            · exact (z_c_spec_DrawRunChest_277 L nL hbdL hleL hp0 v23 t24 s25 ht27 hq28 n20 hl31 hl32 v74 t75 s76 ht78 hq79 n o S t z n82 c82 n83 c83 hi97 hl112 hl114 hq116 h117 v213 t214 s215 ht217 h220 Q t2 z2 n221 c221 hi233 hl241 hq243 v246 t247 s248 ht250 hq251 h254)
            · exact (z_c_spec_DrawRunChest_278 L nL hbdL hleL hp0 v23 t24 s25 ht27 hq28 n20 hl31 hl32 v74 t75 s76 ht78 hq79 n o S t z n82 c82 n83 c83 hi97 hl112 hl114 hq116 h117 v213 t214 s215 ht217 h220 Q t2 z2 n221 c221 hi233 hl241 hq243 v246 t247 s248 ht250 hq251 h254)
          · refine W.exit (xin_here ?_)
            refine W.seq ?_
            refine W.regS (SR.q' (r_lda (l := [.int .i64 v23.State, .int .i64 v23.Key, .slice A19 n20 c21, .int .i64 v23.Dust, .int .i64 v23.Laid, .int .i64 v23.Given]) agg28 rfl (fun _ _ hu => ((hm230).kp hk245 (fun e' => by have e'' : g33 = g9 := e'; omega)).cell hu) rfl) <| SR.q' (r_mv (v := .slice _ _ _) rfl) <| SR.store (o := 0) (vs := [.int .i64 v23.State, .int .i64 v23.Key, .slice A19 n20 c21, .int .i64 v23.Dust, .int .i64 v23.Laid, .int .i64 v23.Given]) agg28.2 rfl rfl rfl rfl ((hm227).kp hk245 (fun e' => by have e'' : g1 = g9 := e'; omega)) (Nat.le_of_ble_eq_true rfl) rfl ?_)
            intro w279 hk280 hs281 hb282
            have hz283 := hk280.size
            have hB284 := hB253.new hk280 (by omega)
            refine SR.q' (r_as (v := .slice _ _ _) rfl) <| SR.nil ?_
            refine W.ret ?_
            refine retCT rfl rfl agg28 (hb282) rfl (v := .slice _ _ _) rfl ?_
            exact ⟨A19, n20, c21, A221, n221, c221, v23, Q, eR (eT2 rfl rfl), ((((hm231).kp hk245 (fun b_ hb e' => by have e'' : b_ = g9 := e'; have := (hm231).base_le hb; omega)).kp hk280 (fun b_ hb e' => by have e'' : b_ = g1 := e'; have := ((hm231).kp hk245 (fun b_ hb e' => by have e'' : b_ = g9 := e'; have := (hm231).base_le hb; omega)).base_le hb; omega)).down (by omega)), ((((hO232).kp hk245 (fun b_ hb e' => hd235 (by have e'' : b_ = g9 := e'; rw [← e'']; exact hb))).kp hk280 (fun b_ hb e' => hd234 (by have e'' : b_ = g1 := e'; rw [← e'']; exact hb))).down (by omega)), (fun b_ h h' => hd237 b_ h' h), (z_c_spec_DrawRunChest_285 L nL hbdL hleL hp0 v23 t24 s25 ht27 hq28 n20 hl31 hl32 v74 t75 s76 ht78 hq79 n o S t z n82 c82 n83 c83 hi97 hl112 hl114 hq116 h117 v213 t214 s215 ht217 h220 Q t2 z2 n221 c221 hi233 hl241 hq243 v246 t247 s248 ht250 hq251 h254), (z_c_spec_DrawRunChest_286 L nL hbdL hleL hp0 v23 t24 s25 ht27 hq28 n20 hl31 hl32 v74 t75 s76 ht78 hq79 n o S t z n82 c82 n83 c83 hi97 hl112 hl114 hq116 h117 v213 t214 s215 ht217 h220 Q t2 z2 n221 c221 hi233 hl241 hq243 v246 t247 s248 ht250 hq251 h254), hB284⟩
      · refine W.skip ?_
        refine W.seq ?_
        refine W.regS (SR.q' (r_lda (l := [.int .i64 v23.State, .int .i64 v23.Key, .slice A19 n20 c21, .int .i64 v23.Dust, .int .i64 v23.Laid, .int .i64 v23.Given]) agg28 rfl (fun _ _ hu => ((hm92).kp hk212 (fun e' => by have e'' : g33 = g9 := e'; omega)).cell hu) rfl) <| SR.q' (r_mv (v := .slice _ _ _) rfl) <| SR.store (o := 0) (vs := [.int .i64 v23.State, .int .i64 v23.Key, .slice A19 n20 c21, .int .i64 v23.Dust, .int .i64 v23.Laid, .int .i64 v23.Given]) agg28.2 rfl rfl rfl rfl ((hm89).kp hk212 (fun e' => by have e'' : g1 = g9 := e'; omega)) (Nat.le_of_ble_eq_true rfl) rfl ?_)
        intro w287 hk288 hs289 hb290
        have hz291 := hk288.size
        have hB292 := hB219.new hk288 (by omega)
        refine SR.q' (r_as (v := .slice _ _ _) rfl) <| SR.nil ?_
        refine W.ret ?_
        refine retCT rfl rfl agg28 (hb290) rfl (v := .slice _ _ _) rfl ?_
        exact ⟨A19, n20, c21, A82, n82, c82, v23, S, eR (eT2 rfl rfl), ((((hm93).kp hk212 (fun b_ hb e' => by have e'' : b_ = g9 := e'; have := (hm93).base_le hb; omega)).kp hk288 (fun b_ hb e' => by have e'' : b_ = g1 := e'; have := ((hm93).kp hk212 (fun b_ hb e' => by have e'' : b_ = g9 := e'; have := (hm93).base_le hb; omega)).base_le hb; omega)).down (by omega)), ((((hO95).kp hk212 (fun b_ hb e' => hd99 (by have e'' : b_ = g9 := e'; rw [← e'']; exact hb))).kp hk288 (fun b_ hb e' => hd98 (by have e'' : b_ = g1 := e'; rw [← e'']; exact hb))).down (by omega)), (fun b_ h h' => hd101 b_ h' h), (z_c_spec_DrawRunChest_293 L nL hbdL hleL hp0 v23 t24 s25 ht27 hq28 n20 hl31 hl32 v74 t75 s76 ht78 hq79 n o S t z n82 c82 n83 c83 hi97 hl112 hl114 hq116 h117 v213 t214 s215 ht217 h220), (z_c_spec_DrawRunChest_294 L nL hbdL hleL hp0 v23 t24 s25 ht27 hq28 n20 hl31 hl32 v74 t75 s76 ht78 hq79 n o S t z n82 c82 n83 c83 hi97 hl112 hl114 hq116 h117 v213 t214 s215 ht217 h220), hB292⟩

theorem z_c_spec_DrawMapsAbove_131 (L : List UInt8) (nL : Nat) (hbdL : (nL : Int) ≤ 9223372036854775807) (hleL : nL = L.length) (hp0 : (nL : Int) ≤ 65536) (v23 : Chest) (t24 : Int) (s25 : Int) (ht27 : 0 ≤ t24 ∧ t24 ≤ 0 + 310) (hq28 : (v23.Stack.length ≤ 11) ∧ 0 ≤ v23.Key ∧ v23.Key ≤ 9999) (n20 : Nat) (hl31 : n20 = (v23.Stack).length) (hl32 : (n20 : Int) ≤ 9223372036854775807) (h48 : 0 < (n20 : Int)) (v51 : Bool) (t52 : Int) (s53 : Int) (ht55 : t24 ≤ t52 ∧ t52 ≤ t24 + 2) (h58 : (!v51) = true) (hq59 : v51 = false) (v105 : Int) (t106 : Int) (s107 : Int) (ht109 : t52 ≤ t106 ∧ t106 ≤ t52 + 2) (hq110 : (0 : Int) ≤ v105 ∧ ((v105 : Int) < (n20 : Int) ∨ (v105 : Int) = 0)) (hx115 : v23.Stack[v105.toNat]? = some (gt v23.Stack v105.toNat)) : (v23.Stack.length ≤ 11) ∧ 0 ≤ v23.Key ∧ v23.Key ≤ 9999 := by
  first | omega | (simp only [List.length_append, List.length_cons, List.length_nil]; omega)
theorem z_c_spec_DrawMapsAbove_229 (L : List UInt8) (nL : Nat) (hbdL : (nL : Int) ≤ 9223372036854775807) (hleL : nL = L.length) (hp0 : (nL : Int) ≤ 65536) (v23 : Chest) (t24 : Int) (s25 : Int) (ht27 : 0 ≤ t24 ∧ t24 ≤ 0 + 310) (hq28 : (v23.Stack.length ≤ 11) ∧ 0 ≤ v23.Key ∧ v23.Key ≤ 9999) (n20 : Nat) (hl31 : n20 = (v23.Stack).length) (hl32 : (n20 : Int) ≤ 9223372036854775807) (h48 : 0 < (n20 : Int)) (v51 : Bool) (t52 : Int) (s53 : Int) (ht55 : t24 ≤ t52 ∧ t52 ≤ t24 + 2) (h58 : (!v51) = false) (hq132 : v51 = true) (v204 : Int) (t205 : Int) (s206 : Int) (ht208 : t52 ≤ t205 ∧ t205 ≤ t52 + 2) (hq209 : v204 ∈ ([0, 5, 500] : List Int)) (hq213 : (0 : Int) ≤ v204 ∧ v204 ≤ 500) : (v23.Stack.length ≤ 11) ∧ 0 ≤ v23.Key ∧ v23.Key ≤ 9999 := by
  first | omega | (simp only [List.length_append, List.length_cons, List.length_nil]; omega)
theorem z_c_spec_DrawMapsAbove_326 (L : List UInt8) (nL : Nat) (hbdL : (nL : Int) ≤ 9223372036854775807) (hleL : nL = L.length) (hp0 : (nL : Int) ≤ 65536) (v23 : Chest) (t24 : Int) (s25 : Int) (ht27 : 0 ≤ t24 ∧ t24 ≤ 0 + 310) (hq28 : (v23.Stack.length ≤ 11) ∧ 0 ≤ v23.Key ∧ v23.Key ≤ 9999) (n20 : Nat) (hl31 : n20 = (v23.Stack).length) (hl32 : (n20 : Int) ≤ 9223372036854775807) (h48 : ¬ (0 < (n20 : Int))) (v301 : Int) (t302 : Int) (s303 : Int) (ht305 : t24 ≤ t302 ∧ t302 ≤ t24 + 2) (hq306 : v301 ∈ ([0, 5, 500] : List Int)) (hq310 : (0 : Int) ≤ v301 ∧ v301 ≤ 500) : (v23.Stack.length ≤ 11) ∧ 0 ≤ v23.Key ∧ v23.Key ≤ 9999 := by
  first | omega | (simp only [List.length_append, List.length_cons, List.length_nil]; omega)
theorem c_spec_DrawMapsAbove (w : World) {AL : Option Addr} {nL cL BL : Nat}  (L : List UInt8) (hL : SlR w BL encB 1 AL nL cL L) (hp0 : (nL : Int) ≤ 65536) : Calls Try.prog 52 #[.slice AL nL cL] w fun e w' => ∃ (A1' : Option Addr) (n1' c1' : Nat) (x : Chest) (v : Int), e = .returned (.tuple (List.toArray [.agg (List.toArray [.int .i64 x.State, .int .i64 x.Key, .slice A1' n1' c1', .int .i64 x.Dust, .int .i64 x.Laid, .int .i64 x.Given]), .int .i64 v])) ∧ SlO w' w.heap.size encI 1 3 A1' n1' c1' x.Stack ∧ ((x.Stack.length ≤ 11) ∧ 0 ≤ x.Key ∧ x.Key ≤ 9999) ∧ Lo w w' := by
  refine calls_W 34 Try.func52 rfl rfl rfl ?_
  have hbdL := hL.bound
  have hleL := hL.len
  have hBbL := hL.bd
  refine W.seq ?_
  refine W.regS (SR.alloc (l := [.int .i64 0, .int .i64 0, .slice none 0 0, .int .i64 0, .int .i64 0, .int .i64 0]) tz28 rfl ?_)
  intro g1 w2 hg3 hk4 hs5 hb6
  have hz7 := hk4.size
  have hB8 := (Lo.refl w).lo hk4
  refine SR.q' (r_as (v := .int .i64 0) rfl) <| SR.nil ?_
  refine W.seq ?_
  refine W.regS (SR.q' (r_mv (v := .slice _ _ _) rfl) <| SR.q' (r_build (vs := [(0, .slice AL nL cL)]) rfl (bld104_0 _ _ _)) <| SR.box (v := .agg (List.toArray _)) (l := [.slice AL nL cL, .int .i64 0, .int .u64 0]) rfl rfl ?_)
  intro g9 w10 hg11 hk12 hs13 hb14
  have hz15 := hk12.size
  have hB16 := hB8.lo hk12
  refine SR.q' (r_as (v := .pointer (some _)) rfl) <| SR.nil ?_
  refine W.seq ?_
  refine W.regS (SR.q' (r_mv (v := .pointer (some _)) rfl) <| SR.call ent88 (c___spec_l1Cur__chest w10 L 0 0 (hb14) ((((hL).lo hk4).lo hk12)) (by omega) (by omega)) rfl ?_)
  rintro e w17 ⟨A19, n20, c21, v23, t24, s25, rfl, hO22, hb26, ht27, hq28, hk18⟩
  refine ⟨_, rfl, ?_⟩
  have hz29 := hk18.size
  have hB30 := hB16.new hk18 (by omega)
  have hl31 := hO22.len
  have hl32 := hO22.rd.bound
  refine SR.alloc (l := [.int .i64 0, .int .i64 0, .slice none 0 0, .int .i64 0, .int .i64 0, .int .i64 0]) tz28 rfl ?_
  intro g33 w34 hg35 hk36 hs37 hb38
  have hz39 := hk36.size
  have hB40 := hB30.lo hk36
  have hd41 : ¬ A19 = some ⟨g33, 0, none⟩ := fun e' => by have := (hO22).base_le e'; omega
  refine SR.store (o := 0) (vs := [.int .i64 v23.State, .int .i64 v23.Key, .slice A19 n20 c21, .int .i64 v23.Dust, .int .i64 v23.Laid, .int .i64 v23.Given]) agg28.2 rfl rfl rfl rfl (hb38) (Nat.le_of_ble_eq_true rfl) rfl ?_
  intro w42 hk43 hs44 hb45
  have hz46 := hk43.size
  have hB47 := hB40.new hk43 (by omega)
  refine SR.nil ?_
  refine W.seq ?_
  refine W.seq ?_
  refine W.regS (SR.q' (r_fa fa28_2 rfl) <| SR.q' (r_ld (v := .slice A19 n20 c21) sca22 rfl ((hb45).cell rfl)) <| SR.q' (r_len und22 rfl) <| SR.q' (r_gt rfl rfl) <| SR.q' (r_mv (v := .bool _) rfl) <| SR.splitD (fun h48 => ?_) (fun h48 => ?_))
  · refine SR.g' rfl (r_mv (v := .pointer (some _)) rfl) <| SR.gcall rfl ent85 (c___spec_l1Cur__one w42 L t24 s25 (((hb26).lo hk36).kp hk43 (fun e' => by have e'' : g9 = g33 := e'; omega)) (((((((hL).lo hk4).lo hk12).kp hk18 (fun b_ hb e' => by have e'' : b_ = g9 := e'; omega)).lo hk36).kp hk43 (fun b_ hb e' => by have e'' : b_ = g33 := e'; omega))) (by omega) (by omega) 6 (by first | omega | (simp only [List.length_append, List.length_cons, List.length_nil, List.length_take, List.length_drop]; omega))) rfl ?_
    rintro e w49 ⟨v51, t52, s53, rfl, hb54, ht55, hk50⟩
    refine ⟨_, rfl, ?_⟩
    have hz56 := hk50.size
    have hB57 := hB47.new hk50 (by omega)
    refine SR.g' rfl (r_not rfl) <| SR.q' (r_pick true rfl (v := .bool _) rfl) <| SR.nil ?_
    refine W.cond_b rfl (fun h58 => ?_) (fun h58 => ?_)
    · have hq59 := bnot_t h58
      refine W.seq ?_
      refine W.regA (Kp (fun b_ => b_ = g9 ∨ b_ = g1) w49) (fun f' w' => ∃ (v105 : Int), ∃ (t106 : Int), ∃ (s107 : Int), At f' [(2, .pointer (some ((⟨g1, 0, none⟩ : Addr)))), (3, .int .i64 (gt v23.Stack v105.toNat)), (4, .pointer (some ((⟨g9, 0, none⟩ : Addr)))), (5, .pointer (some ((⟨g33, 0, none⟩ : Addr))))] ∧ (Kp (fun b_ => b_ = g9 ∨ b_ = g1) w49 w') ∧ (Blk w' g1 28 [.int .i64 v23.State, .int .i64 v23.Key, .slice A19 n20 c21, .int .i64 v23.Dust, .int .i64 v23.Laid, .int .i64 v23.Given]) ∧ (Blk w' g9 104 [.slice AL nL cL, .int .i64 t106, .int .u64 s107]) ∧ (t52 ≤ t106 ∧ t106 ≤ t52 + 2) ∧ ((0 : Int) ≤ v105 ∧ ((v105 : Int) < (n20 : Int) ∨ (v105 : Int) = 0)) ∧ (v23.Stack[v105.toNat]? = some (gt v23.Stack v105.toNat))) mo ?_ ?_
      · intro w99 hk100
        have hz101 := hk100.size
        have hB102 := hB57.lo hk100
        refine AH.take 0 rfl (by kernel_rfl) trivial ((Kp.refl w49 : Kp (fun b_ => b_ = g9 ∨ b_ = g1) w49 w49).lo hk100) (fun w' hw' => r_lda (l := [.int .i64 v23.State, .int .i64 v23.Key, .slice A19 n20 c21, .int .i64 v23.Dust, .int .i64 v23.Laid, .int .i64 v23.Given]) agg28 rfl (fun _ _ hu => (((hb45).kp hk50 (fun e' => by have e'' : g33 = g9 := e'; omega)).kp hw' (fun e' => e'.elim (fun e' => by have e'' : g33 = g9 := e'; omega) (fun e' => by have e'' : g33 = g1 := e'; omega))).cell hu) rfl) <| AH.take 1 rfl (by kernel_rfl) trivial ((Kp.refl w49 : Kp (fun b_ => b_ = g9 ∨ b_ = g1) w49 w49).lo hk100) (fun w' hw' => r_fa fa28_2 rfl) <| AH.take 2 rfl (by kernel_rfl) trivial ((Kp.refl w49 : Kp (fun b_ => b_ = g9 ∨ b_ = g1) w49 w49).lo hk100) (fun w' hw' => r_ld (v := .slice A19 n20 c21) sca22 rfl ((((hb45).kp hk50 (fun e' => by have e'' : g33 = g9 := e'; omega)).kp hw' (fun e' => e'.elim (fun e' => by have e'' : g33 = g9 := e'; omega) (fun e' => by have e'' : g33 = g1 := e'; omega))).cell rfl)) <| AH.take 3 rfl (by kernel_rfl) trivial ((Kp.refl w49 : Kp (fun b_ => b_ = g9 ∨ b_ = g1) w49 w49).lo hk100) (fun w' hw' => r_mv (v := .pointer (some _)) rfl) <| AH.take 4 rfl (by kernel_rfl) trivial ((Kp.refl w49 : Kp (fun b_ => b_ = g9 ∨ b_ = g1) w49 w49).lo hk100) (fun w' hw' => r_fa fa28_2 rfl) <| AH.take 5 rfl (by kernel_rfl) trivial ((Kp.refl w49 : Kp (fun b_ => b_ = g9 ∨ b_ = g1) w49 w49).lo hk100) (fun w' hw' => r_ld (v := .slice A19 n20 c21) sca22 rfl ((((hb45).kp hk50 (fun e' => by have e'' : g33 = g9 := e'; omega)).kp hw' (fun e' => e'.elim (fun e' => by have e'' : g33 = g9 := e'; omega) (fun e' => by have e'' : g33 = g1 := e'; omega))).cell rfl)) <| AH.take 6 rfl (by kernel_rfl) trivial ((Kp.refl w49 : Kp (fun b_ => b_ = g9 ∨ b_ = g1) w49 w49).lo hk100) (fun w' hw' => r_len und22 rfl) <| AH.br [7] (by kernel_rfl) rfl ⟨Br.mk' rfl trivial ?_, trivial⟩
        refine SR.call ent84 (c___spec_l1Cur__pick w99 L t52 s53 ((hb54).lo hk100) (((((((((hL).lo hk4).lo hk12).kp hk18 (fun b_ hb e' => by have e'' : b_ = g9 := e'; omega)).lo hk36).kp hk43 (fun b_ hb e' => by have e'' : b_ = g33 := e'; omega)).kp hk50 (fun b_ hb e' => by have e'' : b_ = g9 := e'; omega)).lo hk100)) (by omega) (by omega) (n20 : Int) (by first | omega | (simp only [List.length_append, List.length_cons, List.length_nil, List.length_take, List.length_drop]; omega))) rfl ?_
        rintro e w103 ⟨v105, t106, s107, rfl, hb108, ht109, hq110, hk104⟩
        refine ⟨_, rfl, ?_⟩
        have hz111 := hk104.size
        have hB112 := hB102.new hk104 (by omega)
        have hS113 := ((Kp.refl w49 : Kp (fun b_ => b_ = g9 ∨ b_ = g1) w49 w49).lo hk100).step hk104 (fun _ _ e => .inl e)
        refine SR.nil ⟨hS113, _, rfl, ?_⟩
        have hx115 := (((((((hO22).lo hk36).kp hk43 (fun b_ hb e' => hd41 (by have e'' : b_ = g33 := e'; rw [← e'']; exact hb))).kp hk50 (fun b_ hb e' => by have e'' : b_ = g9 := e'; have := (((hO22).lo hk36).kp hk43 (fun b_ hb e' => hd41 (by have e'' : b_ = g33 := e'; rw [← e'']; exact hb))).base_le hb; omega)).lo hk100).kp hk104 (fun b_ hb e' => by have e'' : b_ = g9 := e'; have := (((((hO22).lo hk36).kp hk43 (fun b_ hb e' => hd41 (by have e'' : b_ = g33 := e'; rw [← e'']; exact hb))).kp hk50 (fun b_ hb e' => by have e'' : b_ = g9 := e'; have := (((hO22).lo hk36).kp hk43 (fun b_ hb e' => hd41 (by have e'' : b_ = g33 := e'; rw [← e'']; exact hb))).base_le hb; omega)).lo hk100).base_le hb; omega)).rd).elem (i := v105.toNat) (by omega)
        refine AH.take 8 rfl (by kernel_rfl) trivial (hS113) (fun w' hw' => r_ixR tsl22 ((((((hO22).lo hk36).kp hk43 (fun b_ hb e' => hd41 (by have e'' : b_ = g33 := e'; rw [← e'']; exact hb))).kp hk50 (fun b_ hb e' => by have e'' : b_ = g9 := e'; have := (((hO22).lo hk36).kp hk43 (fun b_ hb e' => hd41 (by have e'' : b_ = g33 := e'; rw [← e'']; exact hb))).base_le hb; omega)).kp hw' (fun b_ hb e' => e'.elim (fun e' => by have e'' : b_ = g9 := e'; have := ((((hO22).lo hk36).kp hk43 (fun b_ hb e' => hd41 (by have e'' : b_ = g33 := e'; rw [← e'']; exact hb))).kp hk50 (fun b_ hb e' => by have e'' : b_ = g9 := e'; have := (((hO22).lo hk36).kp hk43 (fun b_ hb e' => hd41 (by have e'' : b_ = g33 := e'; rw [← e'']; exact hb))).base_le hb; omega)).base_le hb; omega) (fun e' => by have e'' : b_ = g1 := e'; have := ((((hO22).lo hk36).kp hk43 (fun b_ hb e' => hd41 (by have e'' : b_ = g33 := e'; rw [← e'']; exact hb))).kp hk50 (fun b_ hb e' => by have e'' : b_ = g9 := e'; have := (((hO22).lo hk36).kp hk43 (fun b_ hb e' => hd41 (by have e'' : b_ = g33 := e'; rw [← e'']; exact hb))).base_le hb; omega)).base_le hb; omega))).rd) rfl rfl (by omega)) <| AH.take 9 rfl (by kernel_rfl) trivial (hS113) (fun w' hw' => r_ld (v := .int .i64 (gt v23.Stack v105.toNat)) sca3 rfl (((((((hO22).lo hk36).kp hk43 (fun b_ hb e' => hd41 (by have e'' : b_ = g33 := e'; rw [← e'']; exact hb))).kp hk50 (fun b_ hb e' => by have e'' : b_ = g9 := e'; have := (((hO22).lo hk36).kp hk43 (fun b_ hb e' => hd41 (by have e'' : b_ = g33 := e'; rw [← e'']; exact hb))).base_le hb; omega)).kp hw' (fun b_ hb e' => e'.elim (fun e' => by have e'' : b_ = g9 := e'; have := ((((hO22).lo hk36).kp hk43 (fun b_ hb e' => hd41 (by have e'' : b_ = g33 := e'; rw [← e'']; exact hb))).kp hk50 (fun b_ hb e' => by have e'' : b_ = g9 := e'; have := (((hO22).lo hk36).kp hk43 (fun b_ hb e' => hd41 (by have e'' : b_ = g33 := e'; rw [← e'']; exact hb))).base_le hb; omega)).base_le hb; omega) (fun e' => by have e'' : b_ = g1 := e'; have := ((((hO22).lo hk36).kp hk43 (fun b_ hb e' => hd41 (by have e'' : b_ = g33 := e'; rw [← e'']; exact hb))).kp hk50 (fun b_ hb e' => by have e'' : b_ = g9 := e'; have := (((hO22).lo hk36).kp hk43 (fun b_ hb e' => hd41 (by have e'' : b_ = g33 := e'; rw [← e'']; exact hb))).base_le hb; omega)).base_le hb; omega))).rd).cell0 hx115 rfl)) <| AH.br [10] (by kernel_rfl) rfl ⟨Br.mk' rfl trivial ?_, trivial⟩
        refine SR.store (o := 0) (vs := [.int .i64 v23.State, .int .i64 v23.Key, .slice A19 n20 c21, .int .i64 v23.Dust, .int .i64 v23.Laid, .int .i64 v23.Given]) agg28.2 rfl rfl rfl rfl ((((((((hb6).lo hk12).kp hk18 (fun e' => by have e'' : g1 = g9 := e'; omega)).lo hk36).kp hk43 (fun e' => by have e'' : g1 = g33 := e'; omega)).kp hk50 (fun e' => by have e'' : g1 = g9 := e'; omega)).lo hk100).kp hk104 (fun e' => by have e'' : g1 = g9 := e'; omega)) (Nat.le_of_ble_eq_true rfl) rfl ?_
        intro w116 hk117 hs118 hb119
        have hz120 := hk117.size
        have hB121 := hB112.new hk117 (by omega)
        have hS122 := (hS113).step hk117 (fun _ _ e => .inr (e))
        refine SR.nil ⟨hS122, _, rfl, ?_⟩
        refine AH.take 11 rfl (by kernel_rfl) trivial (hS122) (fun w' hw' => r_as (v := .int .i64 _) rfl) <| AH.done (by kernel_rfl) ?_
        exact ⟨v105, t106, s107, ⟨rfl, rfl, rfl, rfl, trivial⟩, hS122, (hb119), ((hb108).kp hk117 (fun e' => by have e'' : g9 = g1 := e'; omega)), ht109, hq110, hx115⟩
      rintro f125 w126 ⟨v105, t106, s107, hat128, hR127, hm123, hm124, ht109, hq110, hx115⟩
      rw [← sets_of_at hat128]
      have hz129 := hR127.size
      have hB130 := hB57.step hR127 (fun i_ hi_ e' => e'.elim (fun e' => by have e'' : i_ = g9 := e'; exfalso; omega) (fun e' => by have e'' : i_ = g1 := e'; exfalso; omega))
      refine W.ret ?_
      refine retCT rfl rfl agg28 (hm123) rfl (v := .int .i64 _) rfl ?_
      exact ⟨A19, n20, c21, v23, (gt v23.Stack v105.toNat), eR (eT2 rfl rfl), ((((((hO22).lo hk36).kp hk43 (fun b_ hb e' => hd41 (by have e'' : b_ = g33 := e'; rw [← e'']; exact hb))).kp hk50 (fun b_ hb e' => by have e'' : b_ = g9 := e'; have := (((hO22).lo hk36).kp hk43 (fun b_ hb e' => hd41 (by have e'' : b_ = g33 := e'; rw [← e'']; exact hb))).base_le hb; omega)).kp hR127 (fun b_ hb e' => e'.elim (fun e' => by have e'' : b_ = g9 := e'; have := ((((hO22).lo hk36).kp hk43 (fun b_ hb e' => hd41 (by have e'' : b_ = g33 := e'; rw [← e'']; exact hb))).kp hk50 (fun b_ hb e' => by have e'' : b_ = g9 := e'; have := (((hO22).lo hk36).kp hk43 (fun b_ hb e' => hd41 (by have e'' : b_ = g33 := e'; rw [← e'']; exact hb))).base_le hb; omega)).base_le hb; omega) (fun e' => by have e'' : b_ = g1 := e'; have := ((((hO22).lo hk36).kp hk43 (fun b_ hb e' => hd41 (by have e'' : b_ = g33 := e'; rw [← e'']; exact hb))).kp hk50 (fun b_ hb e' => by have e'' : b_ = g9 := e'; have := (((hO22).lo hk36).kp hk43 (fun b_ hb e' => hd41 (by have e'' : b_ = g33 := e'; rw [← e'']; exact hb))).base_le hb; omega)).base_le hb; omega))).down (by omega)), (z_c_spec_DrawMapsAbove_131 L nL hbdL hleL hp0 v23 t24 s25 ht27 hq28 n20 hl31 hl32 h48 v51 t52 s53 ht55 h58 hq59 v105 t106 s107 ht109 hq110 hx115), hB130⟩
    · have hq132 := bnot_f h58
      refine W.skip ?_
      refine W.seq ?_
      refine W.regA (Kp (fun b_ => b_ = g9 ∨ b_ = g1) w49) (fun f' w' => ∃ (g193 : Nat), ∃ (v204 : Int), ∃ (t205 : Int), ∃ (s206 : Int), At f' [(2, .pointer (some ((⟨g1, 0, none⟩ : Addr)))), (3, .int .i64 v204)] ∧ (Kp (fun b_ => b_ = g9 ∨ b_ = g1) w49 w') ∧ (Blk w' g1 28 [.int .i64 v23.State, .int .i64 v23.Key, .slice A19 n20 c21, .int .i64 v23.Dust, .int .i64 v23.Laid, .int .i64 v23.Given]) ∧ (Blk w' g9 104 [.slice AL nL cL, .int .i64 t205, .int .u64 s206]) ∧ (t52 ≤ t205 ∧ t205 ≤ t52 + 2) ∧ (v204 ∈ ([0, 5, 500] : List Int)) ∧ ((0 : Int) ≤ v204 ∧ v204 ≤ 500)) mo ?_ ?_
      · intro w189 hk190
        have hz191 := hk190.size
        have hB192 := hB57.lo hk190
        refine AH.take 0 rfl (by kernel_rfl) trivial ((Kp.refl w49 : Kp (fun b_ => b_ = g9 ∨ b_ = g1) w49 w49).lo hk190) (fun w' hw' => r_lda (l := [.int .i64 v23.State, .int .i64 v23.Key, .slice A19 n20 c21, .int .i64 v23.Dust, .int .i64 v23.Laid, .int .i64 v23.Given]) agg28 rfl (fun _ _ hu => (((hb45).kp hk50 (fun e' => by have e'' : g33 = g9 := e'; omega)).kp hw' (fun e' => e'.elim (fun e' => by have e'' : g33 = g9 := e'; omega) (fun e' => by have e'' : g33 = g1 := e'; omega))).cell hu) rfl) <| AH.take 1 rfl (by kernel_rfl) trivial ((Kp.refl w49 : Kp (fun b_ => b_ = g9 ∨ b_ = g1) w49 w49).lo hk190) (fun w' hw' => r_mv (v := .pointer (some _)) rfl) <| AH.br [2] (by kernel_rfl) rfl ⟨Br.mk' rfl trivial ?_, trivial⟩
        refine SR.lit (vs := [.int .i64 0, .int .i64 5, .int .i64 500]) (L := ([0, 5, 500] : List Int)) (enc := encI) tel22 (fun _ => rfl) rfl rfl rfl (by decide) ?_
        intro g193 w194 hg195 hk196 hO197
        have hz198 := hk196.size
        have hB199 := hB192.lo hk196
        have hS200 := ((Kp.refl w49 : Kp (fun b_ => b_ = g9 ∨ b_ = g1) w49 w49).lo hk190).lo hk196
        have hd201 : ¬ A19 = some ⟨g193, 0, none⟩ := fun e' => by have := (((((hO22).lo hk36).kp hk43 (fun b_ hb e' => hd41 (by have e'' : b_ = g33 := e'; rw [← e'']; exact hb))).kp hk50 (fun b_ hb e' => by have e'' : b_ = g9 := e'; have := (((hO22).lo hk36).kp hk43 (fun b_ hb e' => hd41 (by have e'' : b_ = g33 := e'; rw [← e'']; exact hb))).base_le hb; omega)).lo hk190).base_le e'; omega
        refine SR.nil ⟨hS200, _, rfl, ?_⟩
        refine AH.br [3] (by kernel_rfl) rfl ⟨Br.mk' rfl trivial ?_, trivial⟩
        refine SR.call ent86 (c___spec_l1Cur__among w194 L t52 s53 (((hb54).lo hk190).lo hk196) ((((((((((hL).lo hk4).lo hk12).kp hk18 (fun b_ hb e' => by have e'' : b_ = g9 := e'; omega)).lo hk36).kp hk43 (fun b_ hb e' => by have e'' : b_ = g33 := e'; omega)).kp hk50 (fun b_ hb e' => by have e'' : b_ = g9 := e'; omega)).lo hk190).lo hk196)) (by omega) (by omega) ([0, 5, 500] : List Int) (((hO197).rd)) (by omega) (by omega) (show ¬ g193 = g9 from by omega)) rfl ?_
        rintro e w202 ⟨v204, t205, s206, rfl, hb207, ht208, hq209, hk203⟩
        refine ⟨_, rfl, ?_⟩
        have hz210 := hk203.size
        have hB211 := hB199.new hk203 (by omega)
        have hS212 := (hS200).step hk203 (fun _ _ e => .inl e)
        have hq213 : (0 : Int) ≤ v204 ∧ v204 ≤ 500 := mem_rngB (lo := 0) (hi := 500) (by decide) hq209
        refine SR.nil ⟨hS212, _, rfl, ?_⟩
        refine AH.br [4] (by kernel_rfl) rfl ⟨Br.mk' rfl trivial ?_, trivial⟩
        refine SR.store (o := 0) (vs := [.int .i64 v23.State, .int .i64 v23.Key, .slice A19 n20 c21, .int .i64 v23.Dust, .int .i64 v23.Laid, .int .i64 v23.Given]) agg28.2 rfl rfl rfl rfl (((((((((hb6).lo hk12).kp hk18 (fun e' => by have e'' : g1 = g9 := e'; omega)).lo hk36).kp hk43 (fun e' => by have e'' : g1 = g33 := e'; omega)).kp hk50 (fun e' => by have e'' : g1 = g9 := e'; omega)).lo hk190).lo hk196).kp hk203 (fun e' => by have e'' : g1 = g9 := e'; omega)) (Nat.le_of_ble_eq_true rfl) rfl ?_
        intro w214 hk215 hs216 hb217
        have hz218 := hk215.size
        have hB219 := hB211.new hk215 (by omega)
        have hS220 := (hS212).step hk215 (fun _ _ e => .inr (e))
        refine SR.nil ⟨hS220, _, rfl, ?_⟩
        refine AH.take 5 rfl (by kernel_rfl) trivial (hS220) (fun w' hw' => r_as (v := .int .i64 _) rfl) <| AH.done (by kernel_rfl) ?_
        exact ⟨g193, v204, t205, s206, ⟨rfl, rfl, trivial⟩, hS220, (hb217), ((hb207).kp hk215 (fun e' => by have e'' : g9 = g1 := e'; omega)), ht208, hq209, hq213⟩
      rintro f223 w224 ⟨g193, v204, t205, s206, hat226, hR225, hm221, hm222, ht208, hq209, hq213⟩
      rw [← sets_of_at hat226]
      have hz227 := hR225.size
      have hB228 := hB57.step hR225 (fun i_ hi_ e' => e'.elim (fun e' => by have e'' : i_ = g9 := e'; exfalso; omega) (fun e' => by have e'' : i_ = g1 := e'; exfalso; omega))
      refine W.ret ?_
      refine retCT rfl rfl agg28 (hm221) rfl (v := .int .i64 _) rfl ?_
      exact ⟨A19, n20, c21, v23, v204, eR (eT2 rfl rfl), ((((((hO22).lo hk36).kp hk43 (fun b_ hb e' => hd41 (by have e'' : b_ = g33 := e'; rw [← e'']; exact hb))).kp hk50 (fun b_ hb e' => by have e'' : b_ = g9 := e'; have := (((hO22).lo hk36).kp hk43 (fun b_ hb e' => hd41 (by have e'' : b_ = g33 := e'; rw [← e'']; exact hb))).base_le hb; omega)).kp hR225 (fun b_ hb e' => e'.elim (fun e' => by have e'' : b_ = g9 := e'; have := ((((hO22).lo hk36).kp hk43 (fun b_ hb e' => hd41 (by have e'' : b_ = g33 := e'; rw [← e'']; exact hb))).kp hk50 (fun b_ hb e' => by have e'' : b_ = g9 := e'; have := (((hO22).lo hk36).kp hk43 (fun b_ hb e' => hd41 (by have e'' : b_ = g33 := e'; rw [← e'']; exact hb))).base_le hb; omega)).base_le hb; omega) (fun e' => by have e'' : b_ = g1 := e'; have := ((((hO22).lo hk36).kp hk43 (fun b_ hb e' => hd41 (by have e'' : b_ = g33 := e'; rw [← e'']; exact hb))).kp hk50 (fun b_ hb e' => by have e'' : b_ = g9 := e'; have := (((hO22).lo hk36).kp hk43 (fun b_ hb e' => hd41 (by have e'' : b_ = g33 := e'; rw [← e'']; exact hb))).base_le hb; omega)).base_le hb; omega))).down (by omega)), (z_c_spec_DrawMapsAbove_229 L nL hbdL hleL hp0 v23 t24 s25 ht27 hq28 n20 hl31 hl32 h48 v51 t52 s53 ht55 h58 hq132 v204 t205 s206 ht208 hq209 hq213), hB228⟩
  · refine SR.s' rfl <| SR.s' rfl <| SR.s' rfl <| SR.q' (r_pick false rfl (v := .bool false) rfl) <| SR.nil ?_
    refine W.cond_f rfl ?_
    refine W.skip ?_
    refine W.seq ?_
    refine W.regA (Kp (fun b_ => b_ = g9 ∨ b_ = g1) w42) (fun f' w' => ∃ (g290 : Nat), ∃ (v301 : Int), ∃ (t302 : Int), ∃ (s303 : Int), At f' [(2, .pointer (some ((⟨g1, 0, none⟩ : Addr)))), (3, .int .i64 v301)] ∧ (Kp (fun b_ => b_ = g9 ∨ b_ = g1) w42 w') ∧ (Blk w' g1 28 [.int .i64 v23.State, .int .i64 v23.Key, .slice A19 n20 c21, .int .i64 v23.Dust, .int .i64 v23.Laid, .int .i64 v23.Given]) ∧ (Blk w' g9 104 [.slice AL nL cL, .int .i64 t302, .int .u64 s303]) ∧ (t24 ≤ t302 ∧ t302 ≤ t24 + 2) ∧ (v301 ∈ ([0, 5, 500] : List Int)) ∧ ((0 : Int) ≤ v301 ∧ v301 ≤ 500)) mo ?_ ?_
    · intro w286 hk287
      have hz288 := hk287.size
      have hB289 := hB47.lo hk287
      refine AH.take 0 rfl (by kernel_rfl) trivial ((Kp.refl w42 : Kp (fun b_ => b_ = g9 ∨ b_ = g1) w42 w42).lo hk287) (fun w' hw' => r_lda (l := [.int .i64 v23.State, .int .i64 v23.Key, .slice A19 n20 c21, .int .i64 v23.Dust, .int .i64 v23.Laid, .int .i64 v23.Given]) agg28 rfl (fun _ _ hu => ((hb45).kp hw' (fun e' => e'.elim (fun e' => by have e'' : g33 = g9 := e'; omega) (fun e' => by have e'' : g33 = g1 := e'; omega))).cell hu) rfl) <| AH.take 1 rfl (by kernel_rfl) trivial ((Kp.refl w42 : Kp (fun b_ => b_ = g9 ∨ b_ = g1) w42 w42).lo hk287) (fun w' hw' => r_mv (v := .pointer (some _)) rfl) <| AH.br [2] (by kernel_rfl) rfl ⟨Br.mk' rfl trivial ?_, trivial⟩
      refine SR.lit (vs := [.int .i64 0, .int .i64 5, .int .i64 500]) (L := ([0, 5, 500] : List Int)) (enc := encI) tel22 (fun _ => rfl) rfl rfl rfl (by decide) ?_
      intro g290 w291 hg292 hk293 hO294
      have hz295 := hk293.size
      have hB296 := hB289.lo hk293
      have hS297 := ((Kp.refl w42 : Kp (fun b_ => b_ = g9 ∨ b_ = g1) w42 w42).lo hk287).lo hk293
      have hd298 : ¬ A19 = some ⟨g290, 0, none⟩ := fun e' => by have := ((((hO22).lo hk36).kp hk43 (fun b_ hb e' => hd41 (by have e'' : b_ = g33 := e'; rw [← e'']; exact hb))).lo hk287).base_le e'; omega
      refine SR.nil ⟨hS297, _, rfl, ?_⟩
      refine AH.br [3] (by kernel_rfl) rfl ⟨Br.mk' rfl trivial ?_, trivial⟩
      refine SR.call ent86 (c___spec_l1Cur__among w291 L t24 s25 (((((hb26).lo hk36).kp hk43 (fun e' => by have e'' : g9 = g33 := e'; omega)).lo hk287).lo hk293) (((((((((hL).lo hk4).lo hk12).kp hk18 (fun b_ hb e' => by have e'' : b_ = g9 := e'; omega)).lo hk36).kp hk43 (fun b_ hb e' => by have e'' : b_ = g33 := e'; omega)).lo hk287).lo hk293)) (by omega) (by omega) ([0, 5, 500] : List Int) (((hO294).rd)) (by omega) (by omega) (show ¬ g290 = g9 from by omega)) rfl ?_
      rintro e w299 ⟨v301, t302, s303, rfl, hb304, ht305, hq306, hk300⟩
      refine ⟨_, rfl, ?_⟩
      have hz307 := hk300.size
      have hB308 := hB296.new hk300 (by omega)
      have hS309 := (hS297).step hk300 (fun _ _ e => .inl e)
      have hq310 : (0 : Int) ≤ v301 ∧ v301 ≤ 500 := mem_rngB (lo := 0) (hi := 500) (by decide) hq306
      refine SR.nil ⟨hS309, _, rfl, ?_⟩
      refine AH.br [4] (by kernel_rfl) rfl ⟨Br.mk' rfl trivial ?_, trivial⟩
      refine SR.store (o := 0) (vs := [.int .i64 v23.State, .int .i64 v23.Key, .slice A19 n20 c21, .int .i64 v23.Dust, .int .i64 v23.Laid, .int .i64 v23.Given]) agg28.2 rfl rfl rfl rfl ((((((((hb6).lo hk12).kp hk18 (fun e' => by have e'' : g1 = g9 := e'; omega)).lo hk36).kp hk43 (fun e' => by have e'' : g1 = g33 := e'; omega)).lo hk287).lo hk293).kp hk300 (fun e' => by have e'' : g1 = g9 := e'; omega)) (Nat.le_of_ble_eq_true rfl) rfl ?_
      intro w311 hk312 hs313 hb314
      have hz315 := hk312.size
      have hB316 := hB308.new hk312 (by omega)
      have hS317 := (hS309).step hk312 (fun _ _ e => .inr (e))
      refine SR.nil ⟨hS317, _, rfl, ?_⟩
      refine AH.take 5 rfl (by kernel_rfl) trivial (hS317) (fun w' hw' => r_as (v := .int .i64 _) rfl) <| AH.done (by kernel_rfl) ?_
      exact ⟨g290, v301, t302, s303, ⟨rfl, rfl, trivial⟩, hS317, (hb314), ((hb304).kp hk312 (fun e' => by have e'' : g9 = g1 := e'; omega)), ht305, hq306, hq310⟩
    rintro f320 w321 ⟨g290, v301, t302, s303, hat323, hR322, hm318, hm319, ht305, hq306, hq310⟩
    rw [← sets_of_at hat323]
    have hz324 := hR322.size
    have hB325 := hB47.step hR322 (fun i_ hi_ e' => e'.elim (fun e' => by have e'' : i_ = g9 := e'; exfalso; omega) (fun e' => by have e'' : i_ = g1 := e'; exfalso; omega))
    refine W.ret ?_
    refine retCT rfl rfl agg28 (hm318) rfl (v := .int .i64 _) rfl ?_
    exact ⟨A19, n20, c21, v23, v301, eR (eT2 rfl rfl), (((((hO22).lo hk36).kp hk43 (fun b_ hb e' => hd41 (by have e'' : b_ = g33 := e'; rw [← e'']; exact hb))).kp hR322 (fun b_ hb e' => e'.elim (fun e' => by have e'' : b_ = g9 := e'; have := (((hO22).lo hk36).kp hk43 (fun b_ hb e' => hd41 (by have e'' : b_ = g33 := e'; rw [← e'']; exact hb))).base_le hb; omega) (fun e' => by have e'' : b_ = g1 := e'; have := (((hO22).lo hk36).kp hk43 (fun b_ hb e' => hd41 (by have e'' : b_ = g33 := e'; rw [← e'']; exact hb))).base_le hb; omega))).down (by omega)), (z_c_spec_DrawMapsAbove_326 L nL hbdL hleL hp0 v23 t24 s25 ht27 hq28 n20 hl31 hl32 h48 v301 t302 s303 ht305 hq306 hq310), hB325⟩

theorem z_c_laws_vBig_1 (L : List UInt8) (nL : Nat) (hbdL : (nL : Int) ≤ 9223372036854775807) (hleL : nL = L.length) : (65536 < (nL : Int)) ↔ (65536 < (L.length : Int)) := by
  omega
theorem c_laws_vBig (w : World) {AL : Option Addr} {nL cL BL : Nat}  (L : List UInt8) (hL : SlR w BL encB 1 AL nL cL L) : Calls Try.prog 37 #[.slice AL nL cL] w fun e w' => e = .returned (.bool (decide (65536 < (L.length : Int)))) ∧ Lo w w' := by
  refine calls_W 6 Try.func37 rfl rfl rfl ?_
  have hbdL := hL.bound
  have hleL := hL.len
  have hBbL := hL.bd
  refine W.seq ?_
  refine W.regS (SR.q' (r_as (v := .bool false) rfl) <| SR.nil ?_)
  refine W.seq ?_
  refine W.regS (SR.q' (r_mv (v := .slice _ _ _) rfl) <| SR.q' (r_len und68 rfl) <| SR.q' (r_gt rfl rfl) <| SR.q' (r_as (v := .bool _) rfl) <| SR.nil ?_)
  refine W.ret ?_
  refine ret1 rfl (v := .bool _) rfl ?_
  exact ⟨eR (eDD (z_c_laws_vBig_1 L nL hbdL hleL)), (Lo.refl w)⟩

theorem z_c_laws_vInts_2 (L : List Int) (nL : Nat) (hbdL : (nL : Int) ≤ 9223372036854775807) (hleL : nL = L.length) (M : List Int) (nM : Nat) (hbdM : (nM : Int) ≤ 9223372036854775807) (hleM : nM = M.length) (h1 : ¬ ((nL : Int) = (nM : Int))) : ¬ (L = M) := by
  first | (intro e; subst e; omega) | exact ne_at ‹L[_]? = some _› ‹M[_]? = some _› ‹_› | exact take_end (And.right ‹_ ∧ L.take _ = M.take _›) hleL hleM (by omega) ‹_›
theorem z_c_laws_vInts_3 (L : List Int) (nL : Nat) (hbdL : (nL : Int) ≤ 9223372036854775807) (hleL : nL = L.length) (M : List Int) (nM : Nat) (hbdM : (nM : Int) ≤ 9223372036854775807) (hleM : nM = M.length) (h1 : (nL : Int) = (nM : Int)) : 0 ≤ nL ∧ L.take 0 = M.take 0 := by
  simp
theorem z_c_laws_vInts_21 (L : List Int) (nL : Nat) (hbdL : (nL : Int) ≤ 9223372036854775807) (hleL : nL = L.length) (M : List Int) (nM : Nat) (hbdM : (nM : Int) ≤ 9223372036854775807) (hleM : nM = M.length) (h1 : (nL : Int) = (nM : Int)) (k : Nat) (hi10 : k ≤ nL ∧ L.take k = M.take k) (h11 : (k : Int) < (nL : Int)) (hx13 : L[k]? = some (gt L k)) (hx15 : M[k]? = some (gt M k)) (h20 : ¬ ((gt L k) = (gt M k))) : ¬ (L = M) := by
  first | (intro e; subst e; omega) | exact ne_at ‹L[_]? = some _› ‹M[_]? = some _› ‹_› | exact take_end (And.right ‹_ ∧ L.take _ = M.take _›) hleL hleM (by omega) ‹_›
theorem z_c_laws_vInts_22 (L : List Int) (nL : Nat) (hbdL : (nL : Int) ≤ 9223372036854775807) (hleL : nL = L.length) (M : List Int) (nM : Nat) (hbdM : (nM : Int) ≤ 9223372036854775807) (hleM : nM = M.length) (h1 : (nL : Int) = (nM : Int)) (k : Nat) (hi10 : k ≤ nL ∧ L.take k = M.take k) (h11 : (k : Int) < (nL : Int)) (hx13 : L[k]? = some (gt L k)) (hx15 : M[k]? = some (gt M k)) (h20 : (gt L k) = (gt M k)) : k + 1 ≤ nL ∧ L.take (k + 1) = M.take (k + 1) := by
  exact ⟨by omega, take_next (And.right ‹_ ∧ L.take _ = M.take _›) ‹L[_]? = some _› ‹M[_]? = some _› (by assumption)⟩
theorem z_c_laws_vInts_23 (L : List Int) (nL : Nat) (hbdL : (nL : Int) ≤ 9223372036854775807) (hleL : nL = L.length) (M : List Int) (nM : Nat) (hbdM : (nM : Int) ≤ 9223372036854775807) (hleM : nM = M.length) (h1 : (nL : Int) = (nM : Int)) (k : Nat) (hi10 : k ≤ nL ∧ L.take k = M.take k) (h11 : (k : Int) < (nL : Int)) (hx13 : L[k]? = some (gt L k)) (hx15 : M[k]? = some (gt M k)) (h20 : (gt L k) = (gt M k)) : nL - (k + 1) < nL - k := by
  omega
theorem z_c_laws_vInts_24 (L : List Int) (nL : Nat) (hbdL : (nL : Int) ≤ 9223372036854775807) (hleL : nL = L.length) (M : List Int) (nM : Nat) (hbdM : (nM : Int) ≤ 9223372036854775807) (hleM : nM = M.length) (h1 : (nL : Int) = (nM : Int)) (k : Nat) (hi10 : k ≤ nL ∧ L.take k = M.take k) (h11 : ¬ ((k : Int) < (nL : Int))) : L = M := by
  first | (intro e; subst e; omega) | exact ne_at ‹L[_]? = some _› ‹M[_]? = some _› ‹_› | exact take_end (And.right ‹_ ∧ L.take _ = M.take _›) hleL hleM (by omega) ‹_›
theorem c_laws_vInts (w : World) {AL : Option Addr} {nL cL BL : Nat}  (L : List Int) (hL : SlR w BL encI 1 AL nL cL L) {AM : Option Addr} {nM cM BM : Nat}  (M : List Int) (hM : SlR w BM encI 1 AM nM cM M) : Calls Try.prog 78 #[.slice AL nL cL, .slice AM nM cM] w fun e w' => e = .returned (.bool (decide (L = M))) ∧ Lo w w' := by
  refine calls_W 26 Try.func78 rfl rfl rfl ?_
  have hbdL := hL.bound
  have hleL := hL.len
  have hBbL := hL.bd
  have hbdM := hM.bound
  have hleM := hM.len
  have hBbM := hM.bd
  refine W.seq ?_
  refine W.regS (SR.q' (r_as (v := .bool false) rfl) <| SR.nil ?_)
  refine W.seq ?_
  refine W.seq ?_
  refine W.regS (SR.q' (r_mv (v := .slice _ _ _) rfl) <| SR.q' (r_len und22 rfl) <| SR.q' (r_mv (v := .slice _ _ _) rfl) <| SR.q' (r_len und22 rfl) <| SR.q' (r_ne rfl rfl) <| SR.nil ?_)
  refine W.cond_n rfl (fun h1 => ?_) (fun h1 => ?_)
  · refine W.seq ?_
    refine W.regS (SR.q' (r_as (v := .bool false) rfl) <| SR.nil ?_)
    refine W.ret ?_
    refine ret1 rfl (v := .bool _) rfl ?_
    exact ⟨eR (eDF (z_c_laws_vInts_2 L nL hbdL hleL M nM hbdM hleM h1)), (Lo.refl w)⟩
  · refine W.skip ?_
    refine W.seq ?_
    refine W.seq ?_
    refine W.regS (SR.q' (r_as (v := .int .i64 0) rfl) <| SR.nil ?_)
    refine W.block ?_
    refine W.loop (σ := Nat) (fun g => [(0, .slice AL nL cL), (1, .slice AM nM cM), (5, .int .i64 (g : Int))]) (fun g w' => (Lo w w') ∧ (SlR w' BL encI 1 AL nL cL L) ∧ (SlR w' BM encI 1 AM nM cM M) ∧ (g ≤ nL ∧ L.take g = M.take g)) (fun g => nL - g) 0 ?_ ?_ ?_
    · exact ⟨rfl, rfl, rfl, trivial⟩
    · exact ⟨(Lo.refl w), hL, hM, (z_c_laws_vInts_3 L nL hbdL hleL M nM hbdM hleM h1)⟩
    · rintro k f4 w5 hP7
      obtain ⟨hB6, hm8, hm9, hi10⟩ : (Lo w w5) ∧ (SlR w5 BL encI 1 AL nL cL L) ∧ (SlR w5 BM encI 1 AM nM cM M) ∧ (k ≤ nL ∧ L.take k = M.take k) := hP7
      refine (?_ : W _ _ _ _ _ (act _ (sets f4 [(0, .slice AL nL cL), (1, .slice AM nM cM), (5, .int .i64 (k : Int))])) _)
      have hzw5 := hB6.size
      refine W.seq ?_
      refine W.seq ?_
      refine W.regS (SR.q' (r_mv (v := .int .i64 _) rfl) <| SR.q' (r_mv (v := .slice _ _ _) rfl) <| SR.q' (r_len und22 rfl) <| SR.q' (r_lt rfl rfl) <| SR.nil ?_)
      refine W.cond_d rfl (fun h11 => ?_) (fun h11 => ?_)
      · refine W.skip ?_
        refine W.seq ?_
        refine W.block ?_
        refine W.seq ?_
        refine W.regD mo (by kernel_rfl) (QR.q' (fun w' hw' => r_mv (v := .slice _ _ _) rfl) <| QR.q' (fun w' hw' => r_mv (v := .int .i64 _) rfl) <| ?_)
        have hx13 := (hm8).elem (i := k) (by omega)
        refine QR.q' (fun w' hw' => r_ixR tsl22 (((hm8).lo hw')) rfl rfl (by omega)) <| QR.q' (fun w' hw' => r_ld (v := .int .i64 (gt L k)) sca3 rfl ((((hm8).lo hw')).cell0 hx13 rfl)) <| QR.q' (fun w' hw' => r_mv (v := .slice _ _ _) rfl) <| QR.q' (fun w' hw' => r_mv (v := .int .i64 _) rfl) <| ?_
        have hx15 := (hm9).elem (i := k) (by omega)
        refine QR.q' (fun w' hw' => r_ixR tsl22 (((hm9).lo hw')) rfl rfl (by omega)) <| QR.q' (fun w' hw' => r_ld (v := .int .i64 (gt M k)) sca3 rfl ((((hm9).lo hw')).cell0 hx15 rfl)) <| QR.q' (fun w' hw' => r_ne rfl rfl) <| QR.nil ?_
        intro w16 hk17
        have hz18 := hk17.size
        have hB19 := hB6.lo hk17
        refine W.cond_n rfl (fun h20 => ?_) (fun h20 => ?_)
        · refine W.seq ?_
          refine W.regS (SR.q' (r_as (v := .bool false) rfl) <| SR.nil ?_)
          refine W.ret ?_
          refine ret1 rfl (v := .bool _) rfl ?_
          exact ⟨eR (eDF (z_c_laws_vInts_21 L nL hbdL hleL M nM hbdM hleM h1 k hi10 h11 hx13 hx15 h20)), hB19⟩
        · refine W.skip ?_
          refine W.regS (SR.q' (r_mv (v := .int .i64 _) rfl) <| SR.q' (r_add rfl rfl (by omega)) <| SR.q' (r_as (v := .int .i64 _) rfl) <| SR.nil ?_)
          refine ⟨k + 1, _, rfl, ⟨rfl, rfl, rfl, trivial⟩, ⟨hB19, (hm8).lo hk17, (hm9).lo hk17, ?_⟩, ?_⟩
          · exact (z_c_laws_vInts_22 L nL hbdL hleL M nM hbdM hleM h1 k hi10 h11 hx13 hx15 h20)
          · exact (z_c_laws_vInts_23 L nL hbdL hleL M nM hbdM hleM h1 k hi10 h11 hx13 hx15 h20)
      · refine W.exit (xin_here ?_)
        refine W.seq ?_
        refine W.regS (SR.q' (r_as (v := .bool true) rfl) <| SR.nil ?_)
        refine W.ret ?_
        refine ret1 rfl (v := .bool _) rfl ?_
        exact ⟨eR (eDT (z_c_laws_vInts_24 L nL hbdL hleL M nM hbdM hleM h1 k hi10 h11)), hB6⟩

theorem z_c_laws_vChest_32 (a : Chest) (na_Stack : Nat) (hbda_Stack : (na_Stack : Int) ≤ 9223372036854775807) (hlea_Stack : na_Stack = a.Stack.length) (b : Chest) (nb_Stack : Nat) (hbdb_Stack : (nb_Stack : Int) ≤ 9223372036854775807) (hleb_Stack : nb_Stack = b.Stack.length) : ((a.State = b.State) ∧ ((a.Key = b.Key) ∧ ((a.Stack = b.Stack) ∧ ((a.Dust = b.Dust) ∧ ((a.Laid = b.Laid) ∧ (a.Given = b.Given)))))) ↔ (a = b) := by
  cases a; cases b; simp_all
theorem c_laws_vChest (w : World) (a : Chest) {Aa_Stack : Option Addr} {na_Stack ca_Stack Ba_Stack : Nat} (ha_Stack : SlR w Ba_Stack encI 1 Aa_Stack na_Stack ca_Stack a.Stack) (b : Chest) {Ab_Stack : Option Addr} {nb_Stack cb_Stack Bb_Stack : Nat} (hb_Stack : SlR w Bb_Stack encI 1 Ab_Stack nb_Stack cb_Stack b.Stack) : Calls Try.prog 48 #[.agg (List.toArray [.int .i64 a.State, .int .i64 a.Key, .slice Aa_Stack na_Stack ca_Stack, .int .i64 a.Dust, .int .i64 a.Laid, .int .i64 a.Given]), .agg (List.toArray [.int .i64 b.State, .int .i64 b.Key, .slice Ab_Stack nb_Stack cb_Stack, .int .i64 b.Dust, .int .i64 b.Laid, .int .i64 b.Given])] w fun e w' => e = .returned (.bool (decide (a = b))) ∧ Lo w w' := by
  refine calls_W 45 Try.func48 rfl rfl rfl ?_
  have hbda_Stack := ha_Stack.bound
  have hlea_Stack := ha_Stack.len
  have hBba_Stack := ha_Stack.bd
  have hbdb_Stack := hb_Stack.bound
  have hleb_Stack := hb_Stack.len
  have hBbb_Stack := hb_Stack.bd
  refine W.seq ?_
  refine W.regS (SR.box (v := .agg (List.toArray _)) (l := [.int .i64 a.State, .int .i64 a.Key, .slice Aa_Stack na_Stack ca_Stack, .int .i64 a.Dust, .int .i64 a.Laid, .int .i64 a.Given]) rfl rfl ?_)
  intro g1 w2 hg3 hk4 hs5 hb6
  have hz7 := hk4.size
  have hB8 := (Lo.refl w).lo hk4
  refine SR.box (v := .agg (List.toArray _)) (l := [.int .i64 b.State, .int .i64 b.Key, .slice Ab_Stack nb_Stack cb_Stack, .int .i64 b.Dust, .int .i64 b.Laid, .int .i64 b.Given]) rfl rfl ?_
  intro g9 w10 hg11 hk12 hs13 hb14
  have hz15 := hk12.size
  have hB16 := hB8.lo hk12
  refine SR.q' (r_as (v := .bool false) rfl) <| SR.nil ?_
  refine W.seq ?_
  refine W.regJS (fun f' w' => At f' [(4, .bool (decide ((a.State = b.State) ∧ ((a.Key = b.Key) ∧ ((a.Stack = b.Stack) ∧ ((a.Dust = b.Dust) ∧ ((a.Laid = b.Laid) ∧ (a.Given = b.Given))))))))] ∧ Lo w10 w') ?_ ?_
  · refine SR.q' (r_fa fa28_0 rfl) <| SR.q' (r_ld (v := .int .i64 a.State) sca3 rfl (((hb6).lo hk12).cell rfl)) <| SR.q' (r_fa fa28_0 rfl) <| SR.q' (r_ld (v := .int .i64 b.State) sca3 rfl ((hb14).cell rfl)) <| SR.q' (r_eq rfl rfl) <| SR.q' (r_mv (v := .bool _) rfl) <| SR.splitD (fun h17 => ?_) (fun h17 => ?_)
    · refine SR.g' rfl (r_fa fa28_1 rfl) <| SR.g' rfl (r_ld (v := .int .i64 a.Key) sca3 rfl (((hb6).lo hk12).cell rfl)) <| SR.g' rfl (r_fa fa28_1 rfl) <| SR.g' rfl (r_ld (v := .int .i64 b.Key) sca3 rfl ((hb14).cell rfl)) <| SR.g' rfl (r_eq rfl rfl) <| SR.q' (r_pick true rfl (v := .bool _) rfl) <| SR.q' (r_mv (v := .bool _) rfl) <| SR.splitD (fun h18 => ?_) (fun h18 => ?_)
      · refine SR.g' rfl (r_fa fa28_2 rfl) <| SR.g' rfl (r_ld (v := .slice Aa_Stack na_Stack ca_Stack) sca22 rfl (((hb6).lo hk12).cell rfl)) <| SR.g' rfl (r_fa fa28_2 rfl) <| SR.g' rfl (r_ld (v := .slice Ab_Stack nb_Stack cb_Stack) sca22 rfl ((hb14).cell rfl)) <| SR.gcall rfl ent78 (c_laws_vInts w10 a.Stack ((((ha_Stack).lo hk4).lo hk12)) b.Stack ((((hb_Stack).lo hk4).lo hk12))) rfl ?_
        rintro e w19 ⟨rfl, hk20⟩
        refine ⟨_, rfl, ?_⟩
        have hz21 := hk20.size
        have hB22 := hB16.lo hk20
        refine SR.q' (r_pick true rfl (v := .bool _) rfl) <| SR.q' (r_mv (v := .bool _) rfl) <| SR.splitD (fun h23 => ?_) (fun h23 => ?_)
        · refine SR.g' rfl (r_fa fa28_3 rfl) <| SR.g' rfl (r_ld (v := .int .i64 a.Dust) sca3 rfl ((((hb6).lo hk12).lo hk20).cell rfl)) <| SR.g' rfl (r_fa fa28_3 rfl) <| SR.g' rfl (r_ld (v := .int .i64 b.Dust) sca3 rfl (((hb14).lo hk20).cell rfl)) <| SR.g' rfl (r_eq rfl rfl) <| SR.q' (r_pick true rfl (v := .bool _) rfl) <| SR.q' (r_mv (v := .bool _) rfl) <| SR.splitD (fun h24 => ?_) (fun h24 => ?_)
          · refine SR.g' rfl (r_fa fa28_4 rfl) <| SR.g' rfl (r_ld (v := .int .i64 a.Laid) sca3 rfl ((((hb6).lo hk12).lo hk20).cell rfl)) <| SR.g' rfl (r_fa fa28_4 rfl) <| SR.g' rfl (r_ld (v := .int .i64 b.Laid) sca3 rfl (((hb14).lo hk20).cell rfl)) <| SR.g' rfl (r_eq rfl rfl) <| SR.q' (r_pick true rfl (v := .bool _) rfl) <| SR.q' (r_mv (v := .bool _) rfl) <| SR.splitD (fun h25 => ?_) (fun h25 => ?_)
            · refine SR.g' rfl (r_fa fa28_5 rfl) <| SR.g' rfl (r_ld (v := .int .i64 a.Given) sca3 rfl ((((hb6).lo hk12).lo hk20).cell rfl)) <| SR.g' rfl (r_fa fa28_5 rfl) <| SR.g' rfl (r_ld (v := .int .i64 b.Given) sca3 rfl (((hb14).lo hk20).cell rfl)) <| SR.g' rfl (r_eq rfl rfl) <| SR.q' (r_pick true rfl (v := .bool _) rfl) <| SR.q' (r_as (v := .bool _) rfl) <| SR.nil ?_
              exact ⟨_, rfl, ⟨⟨(eDD (((((jat h25).trans (jat h24)).trans (jat h23)).trans (jat h18)).trans (jat h17))), trivial⟩, (hk20)⟩⟩
            · refine SR.s' rfl <| SR.s' rfl <| SR.s' rfl <| SR.s' rfl <| SR.s' rfl <| SR.q' (r_pick false rfl (v := .bool false) rfl) <| SR.q' (r_as (v := .bool _) rfl) <| SR.nil ?_
              exact ⟨_, rfl, ⟨⟨(eDF (((((jaf h25).trans (jat h24)).trans (jat h23)).trans (jat h18)).trans (jat h17)).2), trivial⟩, (hk20)⟩⟩
          · refine SR.s' rfl <| SR.s' rfl <| SR.s' rfl <| SR.s' rfl <| SR.s' rfl <| SR.q' (r_pick false rfl (v := .bool false) rfl) <| SR.q' (r_mv (v := .bool _) rfl) <| SR.s' rfl <| SR.s' rfl <| SR.s' rfl <| SR.s' rfl <| SR.s' rfl <| SR.q' (r_pick false rfl (v := .bool false) rfl) <| SR.q' (r_as (v := .bool _) rfl) <| SR.nil ?_
            exact ⟨_, rfl, ⟨⟨(eDF ((((jaf h24).trans (jat h23)).trans (jat h18)).trans (jat h17)).2), trivial⟩, (hk20)⟩⟩
        · refine SR.s' rfl <| SR.s' rfl <| SR.s' rfl <| SR.s' rfl <| SR.s' rfl <| SR.q' (r_pick false rfl (v := .bool false) rfl) <| SR.q' (r_mv (v := .bool _) rfl) <| SR.s' rfl <| SR.s' rfl <| SR.s' rfl <| SR.s' rfl <| SR.s' rfl <| SR.q' (r_pick false rfl (v := .bool false) rfl) <| SR.q' (r_mv (v := .bool _) rfl) <| SR.s' rfl <| SR.s' rfl <| SR.s' rfl <| SR.s' rfl <| SR.s' rfl <| SR.q' (r_pick false rfl (v := .bool false) rfl) <| SR.q' (r_as (v := .bool _) rfl) <| SR.nil ?_
          exact ⟨_, rfl, ⟨⟨(eDF (((jaf h23).trans (jat h18)).trans (jat h17)).2), trivial⟩, (hk20)⟩⟩
      · refine SR.s' rfl <| SR.s' rfl <| SR.s' rfl <| SR.s' rfl <| SR.s' rfl <| SR.q' (r_pick false rfl (v := .bool false) rfl) <| SR.q' (r_mv (v := .bool _) rfl) <| SR.s' rfl <| SR.s' rfl <| SR.s' rfl <| SR.s' rfl <| SR.s' rfl <| SR.q' (r_pick false rfl (v := .bool false) rfl) <| SR.q' (r_mv (v := .bool _) rfl) <| SR.s' rfl <| SR.s' rfl <| SR.s' rfl <| SR.s' rfl <| SR.s' rfl <| SR.q' (r_pick false rfl (v := .bool false) rfl) <| SR.q' (r_mv (v := .bool _) rfl) <| SR.s' rfl <| SR.s' rfl <| SR.s' rfl <| SR.s' rfl <| SR.s' rfl <| SR.q' (r_pick false rfl (v := .bool false) rfl) <| SR.q' (r_as (v := .bool _) rfl) <| SR.nil ?_
        exact ⟨_, rfl, ⟨⟨(eDF ((jaf h18).trans (jat h17)).2), trivial⟩, (Lo.refl _)⟩⟩
    · refine SR.s' rfl <| SR.s' rfl <| SR.s' rfl <| SR.s' rfl <| SR.s' rfl <| SR.q' (r_pick false rfl (v := .bool false) rfl) <| SR.q' (r_mv (v := .bool _) rfl) <| SR.s' rfl <| SR.s' rfl <| SR.s' rfl <| SR.s' rfl <| SR.s' rfl <| SR.q' (r_pick false rfl (v := .bool false) rfl) <| SR.q' (r_mv (v := .bool _) rfl) <| SR.s' rfl <| SR.s' rfl <| SR.s' rfl <| SR.s' rfl <| SR.s' rfl <| SR.q' (r_pick false rfl (v := .bool false) rfl) <| SR.q' (r_mv (v := .bool _) rfl) <| SR.s' rfl <| SR.s' rfl <| SR.s' rfl <| SR.s' rfl <| SR.s' rfl <| SR.q' (r_pick false rfl (v := .bool false) rfl) <| SR.q' (r_mv (v := .bool _) rfl) <| SR.s' rfl <| SR.s' rfl <| SR.s' rfl <| SR.s' rfl <| SR.s' rfl <| SR.q' (r_pick false rfl (v := .bool false) rfl) <| SR.q' (r_as (v := .bool _) rfl) <| SR.nil ?_
      exact ⟨_, rfl, ⟨⟨(eDF (jaf h17).2), trivial⟩, (Lo.refl _)⟩⟩
  rintro f26 w27 ⟨hat28, hk29⟩
  rw [← sets_of_at hat28]
  have hz30 := hk29.size
  have hB31 := hB16.lo hk29
  refine W.ret ?_
  refine ret1 rfl (v := .bool _) rfl ?_
  exact ⟨eR (eDD (z_c_laws_vChest_32 a na_Stack hbda_Stack hlea_Stack b nb_Stack hbdb_Stack hleb_Stack)), hB31⟩

theorem c_spec_IsChest (w : World) (x : Chest) {Ax_Stack : Option Addr} {nx_Stack cx_Stack Bx_Stack : Nat} (hx_Stack : SlR w Bx_Stack encI 1 Ax_Stack nx_Stack cx_Stack x.Stack) : Calls Try.prog 50 #[.agg (List.toArray [.int .i64 x.State, .int .i64 x.Key, .slice Ax_Stack nx_Stack cx_Stack, .int .i64 x.Dust, .int .i64 x.Laid, .int .i64 x.Given])] w fun e w' => e = .returned (.bool (decide (ChestOK x))) ∧ Lo w w' := by
  refine calls_W 5 Try.func50 rfl rfl rfl ?_
  have hbdx_Stack := hx_Stack.bound
  have hlex_Stack := hx_Stack.len
  have hBbx_Stack := hx_Stack.bd
  refine W.seq ?_
  refine W.regS (SR.box (v := .agg (List.toArray _)) (l := [.int .i64 x.State, .int .i64 x.Key, .slice Ax_Stack nx_Stack cx_Stack, .int .i64 x.Dust, .int .i64 x.Laid, .int .i64 x.Given]) rfl rfl ?_)
  intro g1 w2 hg3 hk4 hs5 hb6
  have hz7 := hk4.size
  have hB8 := (Lo.refl w).lo hk4
  refine SR.q' (r_as (v := .bool false) rfl) <| SR.nil ?_
  refine W.seq ?_
  refine W.regS (SR.q' (r_lda (l := [.int .i64 x.State, .int .i64 x.Key, .slice Ax_Stack nx_Stack cx_Stack, .int .i64 x.Dust, .int .i64 x.Laid, .int .i64 x.Given]) agg28 rfl (fun _ _ hu => (hb6).cell hu) rfl) <| SR.call ent58 (c_spec_l21Good w2 x (((hx_Stack).lo hk4))) rfl ?_)
  rintro e w9 ⟨rfl, hk10⟩
  refine ⟨_, rfl, ?_⟩
  have hz11 := hk10.size
  have hB12 := hB8.lo hk10
  refine SR.q' (r_as (v := .bool _) rfl) <| SR.nil ?_
  refine W.ret ?_
  refine ret1 rfl (v := .bool _) rfl ?_
  exact ⟨eR rfl, hB12⟩
end Go.Proofs.Ytlpapeeaghmjpaa
