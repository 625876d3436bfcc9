/- Walks, printed by a program of this claim's author. -/
import Derived.Test.YtlpapeeaghmjpaaDoorChecked
import Derived.Test.YtlpapeeaghmjpaaDoorSa
import Derived.Test.YtlpapeeaghmjpaaDoorFu
import Derived.Test.YtlpapeeaghmjpaaDoorFs
import Derived.Test.YtlpapeeaghmjpaaDoorFq
import Derived.Test.YtlpapeeaghmjpaaDoorFo
import Derived.Test.YtlpapeeaghmjpaaDoorG29w
namespace Go.Proofs.YtlpapeeaghmjpaaDoor
open Go Go.RowKit Fw
set_option maxRecDepth 10000
set_option linter.unusedVariables false
theorem bld40_2 (a2 : Option Addr) (b2 c2 : Nat) : Tryd.prog.built 40 [(2, .slice a2 b2 c2)] = some (List.toArray [.int .i64 0, .int .i64 0, .slice a2 b2 c2, .int .i64 0, .int .i64 0, .int .i64 0]) := by kernel_rfl
theorem ent96 : Ent Tryd.prog 96 := ent_of Tryd.func96 (by decide +kernel) rfl
theorem ent97 : Ent Tryd.prog 97 := ent_of Tryd.func97 (by decide +kernel) rfl

theorem z_c___spec_l1Cur__chest_42 (Lc : List UInt8) (tc : Int) (sc : Int) (nc : Nat) (htc : 0 ≤ tc ∧ tc + 310 ≤ 4611686018427387904) (hbdc : (nc : Int) ≤ 9223372036854775807) (hlec : nc = Lc.length) (v33 : Int) (t34 : Int) (s35 : Int) (ht37 : tc ≤ t34 ∧ t34 ≤ tc + 2) (hq38 : (0 : Int) ≤ v33 ∧ ((v33 : Int) < 26 ∨ (v33 : Int) = 0)) : (0 ≤ v33 ∧ v33 ≤ 25) ∧ ChestOK (⟨0, 0, ([] : List Int), 0, 0, 0⟩ : Chest) ∧ tc ≤ t34 ∧ t34 ≤ tc + 4 + 12 * (25 - v33) := by
  exact ⟨by omega, nil_chest, by omega, by omega⟩
theorem z_c___spec_l1Cur__chest_43 (Lc : List UInt8) (tc : Int) (sc : Int) (nc : Nat) (htc : 0 ≤ tc ∧ tc + 310 ≤ 4611686018427387904) (hbdc : (nc : Int) ≤ 9223372036854775807) (hlec : nc = Lc.length) (v33 : Int) (t34 : Int) (s35 : Int) (ht37 : tc ≤ t34 ∧ t34 ≤ tc + 2) (hq38 : (0 : Int) ≤ v33 ∧ ((v33 : Int) < 26 ∨ (v33 : Int) = 0)) : 0 = (⟨0, 0, ([] : List Int), 0, 0, 0⟩ : Chest).State := by
  (first | rfl | omega)
theorem z_c___spec_l1Cur__chest_44 (Lc : List UInt8) (tc : Int) (sc : Int) (nc : Nat) (htc : 0 ≤ tc ∧ tc + 310 ≤ 4611686018427387904) (hbdc : (nc : Int) ≤ 9223372036854775807) (hlec : nc = Lc.length) (v33 : Int) (t34 : Int) (s35 : Int) (ht37 : tc ≤ t34 ∧ t34 ≤ tc + 2) (hq38 : (0 : Int) ≤ v33 ∧ ((v33 : Int) < 26 ∨ (v33 : Int) = 0)) : 0 = (⟨0, 0, ([] : List Int), 0, 0, 0⟩ : Chest).Key := by
  (first | rfl | omega)
theorem z_c___spec_l1Cur__chest_45 (Lc : List UInt8) (tc : Int) (sc : Int) (nc : Nat) (htc : 0 ≤ tc ∧ tc + 310 ≤ 4611686018427387904) (hbdc : (nc : Int) ≤ 9223372036854775807) (hlec : nc = Lc.length) (v33 : Int) (t34 : Int) (s35 : Int) (ht37 : tc ≤ t34 ∧ t34 ≤ tc + 2) (hq38 : (0 : Int) ≤ v33 ∧ ((v33 : Int) < 26 ∨ (v33 : Int) = 0)) : 0 = (⟨0, 0, ([] : List Int), 0, 0, 0⟩ : Chest).Dust := by
  (first | rfl | omega)
theorem z_c___spec_l1Cur__chest_46 (Lc : List UInt8) (tc : Int) (sc : Int) (nc : Nat) (htc : 0 ≤ tc ∧ tc + 310 ≤ 4611686018427387904) (hbdc : (nc : Int) ≤ 9223372036854775807) (hlec : nc = Lc.length) (v33 : Int) (t34 : Int) (s35 : Int) (ht37 : tc ≤ t34 ∧ t34 ≤ tc + 2) (hq38 : (0 : Int) ≤ v33 ∧ ((v33 : Int) < 26 ∨ (v33 : Int) = 0)) : 0 = (⟨0, 0, ([] : List Int), 0, 0, 0⟩ : Chest).Laid := by
  (first | rfl | omega)
theorem z_c___spec_l1Cur__chest_47 (Lc : List UInt8) (tc : Int) (sc : Int) (nc : Nat) (htc : 0 ≤ tc ∧ tc + 310 ≤ 4611686018427387904) (hbdc : (nc : Int) ≤ 9223372036854775807) (hlec : nc = Lc.length) (v33 : Int) (t34 : Int) (s35 : Int) (ht37 : tc ≤ t34 ∧ t34 ≤ tc + 2) (hq38 : (0 : Int) ≤ v33 ∧ ((v33 : Int) < 26 ∨ (v33 : Int) = 0)) : 0 = (⟨0, 0, ([] : List Int), 0, 0, 0⟩ : Chest).Given := by
  (first | rfl | omega)
theorem z_c___spec_l1Cur__chest_48 (Lc : List UInt8) (tc : Int) (sc : Int) (nc : Nat) (htc : 0 ≤ tc ∧ tc + 310 ≤ 4611686018427387904) (hbdc : (nc : Int) ≤ 9223372036854775807) (hlec : nc = Lc.length) (v33 : Int) (t34 : Int) (s35 : Int) (ht37 : tc ≤ t34 ∧ t34 ≤ tc + 2) (hq38 : (0 : Int) ≤ v33 ∧ ((v33 : Int) < 26 ∨ (v33 : Int) = 0)) : ([] : List Int) = (⟨0, 0, ([] : List Int), 0, 0, 0⟩ : Chest).Stack := by
  rfl
theorem z_c___spec_l1Cur__chest_226 (Lc : List UInt8) (tc : Int) (sc : Int) (nc : Nat) (htc : 0 ≤ tc ∧ tc + 310 ≤ 4611686018427387904) (hbdc : (nc : Int) ≤ 9223372036854775807) (hlec : nc = Lc.length) (v33 : Int) (t34 : Int) (s35 : Int) (ht37 : tc ≤ t34 ∧ t34 ≤ tc + 2) (hq38 : (0 : Int) ≤ v33 ∧ ((v33 : Int) < 26 ∨ (v33 : Int) = 0)) (n : Int) (o : Chest) (t : Int) (z : Int) (n41 : Nat) (c41 : Nat) (hi58 : (0 ≤ n ∧ n ≤ 25) ∧ ChestOK o ∧ tc ≤ t ∧ t ≤ tc + 4 + 12 * (25 - n)) (hl65 : n41 = (o.Stack).length) (hq67 : ChestOK o) (hq68 : 0 ≤ o.Key ∧ o.Key ≤ 9999) (hq69 : o.Stack.length ≤ 10 ∧ 0 ≤ o.Laid ∧ o.Laid ≤ 9999) (hq70 : (0 ≤ n ∧ n ≤ 25) ∧ tc ≤ t ∧ t ≤ tc + 4 + 12 * (25 - n)) (h71 : 0 < n) (v92 : ChestStep) (t93 : Int) (s94 : Int) (n103 : Nat) (ht96 : t ≤ t93 ∧ t93 ≤ t + 12) (hl109 : n103 = (((spec_StepChest o v92).1).Stack).length) (hl110 : (n103 : Int) ≤ 9223372036854775807) (hq111 : (((spec_StepChest o v92).1).Stack).length ≤ 10) (h219 : ((spec_StepChest o v92).2) = true) : (0 ≤ n - 1 ∧ n - 1 ≤ 25) ∧ ChestOK ((spec_StepChest o v92).1) ∧ tc ≤ t93 ∧ t93 ≤ tc + 4 + 12 * (25 - (n - 1)) := by
  first | exact ⟨by omega, spec_okC ‹(spec_StepChest _ _).2 = true›, by omega, by omega⟩ | exact ⟨by omega, ‹ChestOK _›, by omega, by omega⟩
theorem z_c___spec_l1Cur__chest_227 (Lc : List UInt8) (tc : Int) (sc : Int) (nc : Nat) (htc : 0 ≤ tc ∧ tc + 310 ≤ 4611686018427387904) (hbdc : (nc : Int) ≤ 9223372036854775807) (hlec : nc = Lc.length) (v33 : Int) (t34 : Int) (s35 : Int) (ht37 : tc ≤ t34 ∧ t34 ≤ tc + 2) (hq38 : (0 : Int) ≤ v33 ∧ ((v33 : Int) < 26 ∨ (v33 : Int) = 0)) (n : Int) (o : Chest) (t : Int) (z : Int) (n41 : Nat) (c41 : Nat) (hi58 : (0 ≤ n ∧ n ≤ 25) ∧ ChestOK o ∧ tc ≤ t ∧ t ≤ tc + 4 + 12 * (25 - n)) (hl65 : n41 = (o.Stack).length) (hq67 : ChestOK o) (hq68 : 0 ≤ o.Key ∧ o.Key ≤ 9999) (hq69 : o.Stack.length ≤ 10 ∧ 0 ≤ o.Laid ∧ o.Laid ≤ 9999) (hq70 : (0 ≤ n ∧ n ≤ 25) ∧ tc ≤ t ∧ t ≤ tc + 4 + 12 * (25 - n)) (h71 : 0 < n) (v92 : ChestStep) (t93 : Int) (s94 : Int) (n103 : Nat) (ht96 : t ≤ t93 ∧ t93 ≤ t + 12) (hl109 : n103 = (((spec_StepChest o v92).1).Stack).length) (hl110 : (n103 : Int) ≤ 9223372036854775807) (hq111 : (((spec_StepChest o v92).1).Stack).length ≤ 10) (h219 : ((spec_StepChest o v92).2) = true) : (n - 1).toNat < n.toNat := by
  omega
theorem z_c___spec_l1Cur__chest_228 (Lc : List UInt8) (tc : Int) (sc : Int) (nc : Nat) (htc : 0 ≤ tc ∧ tc + 310 ≤ 4611686018427387904) (hbdc : (nc : Int) ≤ 9223372036854775807) (hlec : nc = Lc.length) (v33 : Int) (t34 : Int) (s35 : Int) (ht37 : tc ≤ t34 ∧ t34 ≤ tc + 2) (hq38 : (0 : Int) ≤ v33 ∧ ((v33 : Int) < 26 ∨ (v33 : Int) = 0)) (n : Int) (o : Chest) (t : Int) (z : Int) (n41 : Nat) (c41 : Nat) (hi58 : (0 ≤ n ∧ n ≤ 25) ∧ ChestOK o ∧ tc ≤ t ∧ t ≤ tc + 4 + 12 * (25 - n)) (hl65 : n41 = (o.Stack).length) (hq67 : ChestOK o) (hq68 : 0 ≤ o.Key ∧ o.Key ≤ 9999) (hq69 : o.Stack.length ≤ 10 ∧ 0 ≤ o.Laid ∧ o.Laid ≤ 9999) (hq70 : (0 ≤ n ∧ n ≤ 25) ∧ tc ≤ t ∧ t ≤ tc + 4 + 12 * (25 - n)) (h71 : 0 < n) (v92 : ChestStep) (t93 : Int) (s94 : Int) (n103 : Nat) (ht96 : t ≤ t93 ∧ t93 ≤ t + 12) (hl109 : n103 = (((spec_StepChest o v92).1).Stack).length) (hl110 : (n103 : Int) ≤ 9223372036854775807) (hq111 : (((spec_StepChest o v92).1).Stack).length ≤ 10) (h219 : ((spec_StepChest o v92).2) = false) : (0 ≤ n - 1 ∧ n - 1 ≤ 25) ∧ ChestOK o ∧ tc ≤ t93 ∧ t93 ≤ tc + 4 + 12 * (25 - (n - 1)) := by
  first | exact ⟨by omega, spec_okC ‹(spec_StepChest _ _).2 = true›, by omega, by omega⟩ | exact ⟨by omega, ‹ChestOK _›, by omega, by omega⟩
theorem z_c___spec_l1Cur__chest_229 (Lc : List UInt8) (tc : Int) (sc : Int) (nc : Nat) (htc : 0 ≤ tc ∧ tc + 310 ≤ 4611686018427387904) (hbdc : (nc : Int) ≤ 9223372036854775807) (hlec : nc = Lc.length) (v33 : Int) (t34 : Int) (s35 : Int) (ht37 : tc ≤ t34 ∧ t34 ≤ tc + 2) (hq38 : (0 : Int) ≤ v33 ∧ ((v33 : Int) < 26 ∨ (v33 : Int) = 0)) (n : Int) (o : Chest) (t : Int) (z : Int) (n41 : Nat) (c41 : Nat) (hi58 : (0 ≤ n ∧ n ≤ 25) ∧ ChestOK o ∧ tc ≤ t ∧ t ≤ tc + 4 + 12 * (25 - n)) (hl65 : n41 = (o.Stack).length) (hq67 : ChestOK o) (hq68 : 0 ≤ o.Key ∧ o.Key ≤ 9999) (hq69 : o.Stack.length ≤ 10 ∧ 0 ≤ o.Laid ∧ o.Laid ≤ 9999) (hq70 : (0 ≤ n ∧ n ≤ 25) ∧ tc ≤ t ∧ t ≤ tc + 4 + 12 * (25 - n)) (h71 : 0 < n) (v92 : ChestStep) (t93 : Int) (s94 : Int) (n103 : Nat) (ht96 : t ≤ t93 ∧ t93 ≤ t + 12) (hl109 : n103 = (((spec_StepChest o v92).1).Stack).length) (hl110 : (n103 : Int) ≤ 9223372036854775807) (hq111 : (((spec_StepChest o v92).1).Stack).length ≤ 10) (h219 : ((spec_StepChest o v92).2) = false) : (n - 1).toNat < n.toNat := by
  omega
theorem z_c___spec_l1Cur__chest_263 (Lc : List UInt8) (tc : Int) (sc : Int) (nc : Nat) (htc : 0 ≤ tc ∧ tc + 310 ≤ 4611686018427387904) (hbdc : (nc : Int) ≤ 9223372036854775807) (hlec : nc = Lc.length) (v33 : Int) (t34 : Int) (s35 : Int) (ht37 : tc ≤ t34 ∧ t34 ≤ tc + 2) (hq38 : (0 : Int) ≤ v33 ∧ ((v33 : Int) < 26 ∨ (v33 : Int) = 0)) (n : Int) (o : Chest) (t : Int) (z : Int) (n41 : Nat) (c41 : Nat) (hi58 : (0 ≤ n ∧ n ≤ 25) ∧ ChestOK o ∧ tc ≤ t ∧ t ≤ tc + 4 + 12 * (25 - n)) (hl65 : n41 = (o.Stack).length) (hq67 : ChestOK o) (hq68 : 0 ≤ o.Key ∧ o.Key ≤ 9999) (hq69 : o.Stack.length ≤ 10 ∧ 0 ≤ o.Laid ∧ o.Laid ≤ 9999) (hq70 : (0 ≤ n ∧ n ≤ 25) ∧ tc ≤ t ∧ t ≤ tc + 4 + 12 * (25 - n)) (h71 : ¬ (0 < n)) (v232 : Int) (t233 : Int) (s234 : Int) (ht236 : t ≤ t233 ∧ t233 ≤ t + 2) (hq237 : (0 : Int) ≤ v232 ∧ ((v232 : Int) < 32 ∨ (v232 : Int) = 0)) (h240 : v232 = 0) (v243 : Int) (t244 : Int) (s245 : Int) (ht247 : t233 ≤ t244 ∧ t244 ≤ t233 + 2) (hq248 : (0 : Int) ≤ v243 ∧ ((v243 : Int) < 4 ∨ (v243 : Int) = 0)) : o.Stack = (⟨v243, o.Key, o.Stack, o.Dust, o.Laid, o.Given⟩ : Chest).Stack := by
  first | rfl | omega | grind
theorem z_c___spec_l1Cur__chest_264 (Lc : List UInt8) (tc : Int) (sc : Int) (nc : Nat) (htc : 0 ≤ tc ∧ tc + 310 ≤ 4611686018427387904) (hbdc : (nc : Int) ≤ 9223372036854775807) (hlec : nc = Lc.length) (v33 : Int) (t34 : Int) (s35 : Int) (ht37 : tc ≤ t34 ∧ t34 ≤ tc + 2) (hq38 : (0 : Int) ≤ v33 ∧ ((v33 : Int) < 26 ∨ (v33 : Int) = 0)) (n : Int) (o : Chest) (t : Int) (z : Int) (n41 : Nat) (c41 : Nat) (hi58 : (0 ≤ n ∧ n ≤ 25) ∧ ChestOK o ∧ tc ≤ t ∧ t ≤ tc + 4 + 12 * (25 - n)) (hl65 : n41 = (o.Stack).length) (hq67 : ChestOK o) (hq68 : 0 ≤ o.Key ∧ o.Key ≤ 9999) (hq69 : o.Stack.length ≤ 10 ∧ 0 ≤ o.Laid ∧ o.Laid ≤ 9999) (hq70 : (0 ≤ n ∧ n ≤ 25) ∧ tc ≤ t ∧ t ≤ tc + 4 + 12 * (25 - n)) (h71 : ¬ (0 < n)) (v232 : Int) (t233 : Int) (s234 : Int) (ht236 : t ≤ t233 ∧ t233 ≤ t + 2) (hq237 : (0 : Int) ≤ v232 ∧ ((v232 : Int) < 32 ∨ (v232 : Int) = 0)) (h240 : v232 = 0) (v243 : Int) (t244 : Int) (s245 : Int) (ht247 : t233 ≤ t244 ∧ t244 ≤ t233 + 2) (hq248 : (0 : Int) ≤ v243 ∧ ((v243 : Int) < 4 ∨ (v243 : Int) = 0)) : v243 = (⟨v243, o.Key, o.Stack, o.Dust, o.Laid, o.Given⟩ : Chest).State := by
  first | rfl | omega | grind
theorem z_c___spec_l1Cur__chest_265 (Lc : List UInt8) (tc : Int) (sc : Int) (nc : Nat) (htc : 0 ≤ tc ∧ tc + 310 ≤ 4611686018427387904) (hbdc : (nc : Int) ≤ 9223372036854775807) (hlec : nc = Lc.length) (v33 : Int) (t34 : Int) (s35 : Int) (ht37 : tc ≤ t34 ∧ t34 ≤ tc + 2) (hq38 : (0 : Int) ≤ v33 ∧ ((v33 : Int) < 26 ∨ (v33 : Int) = 0)) (n : Int) (o : Chest) (t : Int) (z : Int) (n41 : Nat) (c41 : Nat) (hi58 : (0 ≤ n ∧ n ≤ 25) ∧ ChestOK o ∧ tc ≤ t ∧ t ≤ tc + 4 + 12 * (25 - n)) (hl65 : n41 = (o.Stack).length) (hq67 : ChestOK o) (hq68 : 0 ≤ o.Key ∧ o.Key ≤ 9999) (hq69 : o.Stack.length ≤ 10 ∧ 0 ≤ o.Laid ∧ o.Laid ≤ 9999) (hq70 : (0 ≤ n ∧ n ≤ 25) ∧ tc ≤ t ∧ t ≤ tc + 4 + 12 * (25 - n)) (h71 : ¬ (0 < n)) (v232 : Int) (t233 : Int) (s234 : Int) (ht236 : t ≤ t233 ∧ t233 ≤ t + 2) (hq237 : (0 : Int) ≤ v232 ∧ ((v232 : Int) < 32 ∨ (v232 : Int) = 0)) (h240 : v232 = 0) (v243 : Int) (t244 : Int) (s245 : Int) (ht247 : t233 ≤ t244 ∧ t244 ≤ t233 + 2) (hq248 : (0 : Int) ≤ v243 ∧ ((v243 : Int) < 4 ∨ (v243 : Int) = 0)) : o.Key = (⟨v243, o.Key, o.Stack, o.Dust, o.Laid, o.Given⟩ : Chest).Key := by
  first | rfl | omega | grind
theorem z_c___spec_l1Cur__chest_266 (Lc : List UInt8) (tc : Int) (sc : Int) (nc : Nat) (htc : 0 ≤ tc ∧ tc + 310 ≤ 4611686018427387904) (hbdc : (nc : Int) ≤ 9223372036854775807) (hlec : nc = Lc.length) (v33 : Int) (t34 : Int) (s35 : Int) (ht37 : tc ≤ t34 ∧ t34 ≤ tc + 2) (hq38 : (0 : Int) ≤ v33 ∧ ((v33 : Int) < 26 ∨ (v33 : Int) = 0)) (n : Int) (o : Chest) (t : Int) (z : Int) (n41 : Nat) (c41 : Nat) (hi58 : (0 ≤ n ∧ n ≤ 25) ∧ ChestOK o ∧ tc ≤ t ∧ t ≤ tc + 4 + 12 * (25 - n)) (hl65 : n41 = (o.Stack).length) (hq67 : ChestOK o) (hq68 : 0 ≤ o.Key ∧ o.Key ≤ 9999) (hq69 : o.Stack.length ≤ 10 ∧ 0 ≤ o.Laid ∧ o.Laid ≤ 9999) (hq70 : (0 ≤ n ∧ n ≤ 25) ∧ tc ≤ t ∧ t ≤ tc + 4 + 12 * (25 - n)) (h71 : ¬ (0 < n)) (v232 : Int) (t233 : Int) (s234 : Int) (ht236 : t ≤ t233 ∧ t233 ≤ t + 2) (hq237 : (0 : Int) ≤ v232 ∧ ((v232 : Int) < 32 ∨ (v232 : Int) = 0)) (h240 : v232 = 0) (v243 : Int) (t244 : Int) (s245 : Int) (ht247 : t233 ≤ t244 ∧ t244 ≤ t233 + 2) (hq248 : (0 : Int) ≤ v243 ∧ ((v243 : Int) < 4 ∨ (v243 : Int) = 0)) : o.Dust = (⟨v243, o.Key, o.Stack, o.Dust, o.Laid, o.Given⟩ : Chest).Dust := by
  first | rfl | omega | grind
theorem z_c___spec_l1Cur__chest_267 (Lc : List UInt8) (tc : Int) (sc : Int) (nc : Nat) (htc : 0 ≤ tc ∧ tc + 310 ≤ 4611686018427387904) (hbdc : (nc : Int) ≤ 9223372036854775807) (hlec : nc = Lc.length) (v33 : Int) (t34 : Int) (s35 : Int) (ht37 : tc ≤ t34 ∧ t34 ≤ tc + 2) (hq38 : (0 : Int) ≤ v33 ∧ ((v33 : Int) < 26 ∨ (v33 : Int) = 0)) (n : Int) (o : Chest) (t : Int) (z : Int) (n41 : Nat) (c41 : Nat) (hi58 : (0 ≤ n ∧ n ≤ 25) ∧ ChestOK o ∧ tc ≤ t ∧ t ≤ tc + 4 + 12 * (25 - n)) (hl65 : n41 = (o.Stack).length) (hq67 : ChestOK o) (hq68 : 0 ≤ o.Key ∧ o.Key ≤ 9999) (hq69 : o.Stack.length ≤ 10 ∧ 0 ≤ o.Laid ∧ o.Laid ≤ 9999) (hq70 : (0 ≤ n ∧ n ≤ 25) ∧ tc ≤ t ∧ t ≤ tc + 4 + 12 * (25 - n)) (h71 : ¬ (0 < n)) (v232 : Int) (t233 : Int) (s234 : Int) (ht236 : t ≤ t233 ∧ t233 ≤ t + 2) (hq237 : (0 : Int) ≤ v232 ∧ ((v232 : Int) < 32 ∨ (v232 : Int) = 0)) (h240 : v232 = 0) (v243 : Int) (t244 : Int) (s245 : Int) (ht247 : t233 ≤ t244 ∧ t244 ≤ t233 + 2) (hq248 : (0 : Int) ≤ v243 ∧ ((v243 : Int) < 4 ∨ (v243 : Int) = 0)) : o.Laid = (⟨v243, o.Key, o.Stack, o.Dust, o.Laid, o.Given⟩ : Chest).Laid := by
  first | rfl | omega | grind
theorem z_c___spec_l1Cur__chest_268 (Lc : List UInt8) (tc : Int) (sc : Int) (nc : Nat) (htc : 0 ≤ tc ∧ tc + 310 ≤ 4611686018427387904) (hbdc : (nc : Int) ≤ 9223372036854775807) (hlec : nc = Lc.length) (v33 : Int) (t34 : Int) (s35 : Int) (ht37 : tc ≤ t34 ∧ t34 ≤ tc + 2) (hq38 : (0 : Int) ≤ v33 ∧ ((v33 : Int) < 26 ∨ (v33 : Int) = 0)) (n : Int) (o : Chest) (t : Int) (z : Int) (n41 : Nat) (c41 : Nat) (hi58 : (0 ≤ n ∧ n ≤ 25) ∧ ChestOK o ∧ tc ≤ t ∧ t ≤ tc + 4 + 12 * (25 - n)) (hl65 : n41 = (o.Stack).length) (hq67 : ChestOK o) (hq68 : 0 ≤ o.Key ∧ o.Key ≤ 9999) (hq69 : o.Stack.length ≤ 10 ∧ 0 ≤ o.Laid ∧ o.Laid ≤ 9999) (hq70 : (0 ≤ n ∧ n ≤ 25) ∧ tc ≤ t ∧ t ≤ tc + 4 + 12 * (25 - n)) (h71 : ¬ (0 < n)) (v232 : Int) (t233 : Int) (s234 : Int) (ht236 : t ≤ t233 ∧ t233 ≤ t + 2) (hq237 : (0 : Int) ≤ v232 ∧ ((v232 : Int) < 32 ∨ (v232 : Int) = 0)) (h240 : v232 = 0) (v243 : Int) (t244 : Int) (s245 : Int) (ht247 : t233 ≤ t244 ∧ t244 ≤ t233 + 2) (hq248 : (0 : Int) ≤ v243 ∧ ((v243 : Int) < 4 ∨ (v243 : Int) = 0)) : o.Given = (⟨v243, o.Key, o.Stack, o.Dust, o.Laid, o.Given⟩ : Chest).Given := by
  first | rfl | omega | grind
theorem z_c___spec_l1Cur__chest_269 (Lc : List UInt8) (tc : Int) (sc : Int) (nc : Nat) (htc : 0 ≤ tc ∧ tc + 310 ≤ 4611686018427387904) (hbdc : (nc : Int) ≤ 9223372036854775807) (hlec : nc = Lc.length) (v33 : Int) (t34 : Int) (s35 : Int) (ht37 : tc ≤ t34 ∧ t34 ≤ tc + 2) (hq38 : (0 : Int) ≤ v33 ∧ ((v33 : Int) < 26 ∨ (v33 : Int) = 0)) (n : Int) (o : Chest) (t : Int) (z : Int) (n41 : Nat) (c41 : Nat) (hi58 : (0 ≤ n ∧ n ≤ 25) ∧ ChestOK o ∧ tc ≤ t ∧ t ≤ tc + 4 + 12 * (25 - n)) (hl65 : n41 = (o.Stack).length) (hq67 : ChestOK o) (hq68 : 0 ≤ o.Key ∧ o.Key ≤ 9999) (hq69 : o.Stack.length ≤ 10 ∧ 0 ≤ o.Laid ∧ o.Laid ≤ 9999) (hq70 : (0 ≤ n ∧ n ≤ 25) ∧ tc ≤ t ∧ t ≤ tc + 4 + 12 * (25 - n)) (h71 : ¬ (0 < n)) (v232 : Int) (t233 : Int) (s234 : Int) (ht236 : t ≤ t233 ∧ t233 ≤ t + 2) (hq237 : (0 : Int) ≤ v232 ∧ ((v232 : Int) < 32 ∨ (v232 : Int) = 0)) (h240 : v232 = 0) (v243 : Int) (t244 : Int) (s245 : Int) (ht247 : t233 ≤ t244 ∧ t244 ≤ t233 + 2) (hq248 : (0 : Int) ≤ v243 ∧ ((v243 : Int) < 4 ∨ (v243 : Int) = 0)) : (o.Stack.length ≤ 11) ∧ 0 ≤ o.Key ∧ o.Key ≤ 9999 := by
  first | omega | (simp only [List.length_append, List.length_cons, List.length_nil]; omega)
theorem z_c___spec_l1Cur__chest_420 (Lc : List UInt8) (tc : Int) (sc : Int) (nc : Nat) (htc : 0 ≤ tc ∧ tc + 310 ≤ 4611686018427387904) (hbdc : (nc : Int) ≤ 9223372036854775807) (hlec : nc = Lc.length) (v33 : Int) (t34 : Int) (s35 : Int) (ht37 : tc ≤ t34 ∧ t34 ≤ tc + 2) (hq38 : (0 : Int) ≤ v33 ∧ ((v33 : Int) < 26 ∨ (v33 : Int) = 0)) (n : Int) (o : Chest) (t : Int) (z : Int) (n41 : Nat) (c41 : Nat) (hi58 : (0 ≤ n ∧ n ≤ 25) ∧ ChestOK o ∧ tc ≤ t ∧ t ≤ tc + 4 + 12 * (25 - n)) (hl65 : n41 = (o.Stack).length) (hq67 : ChestOK o) (hq68 : 0 ≤ o.Key ∧ o.Key ≤ 9999) (hq69 : o.Stack.length ≤ 10 ∧ 0 ≤ o.Laid ∧ o.Laid ≤ 9999) (hq70 : (0 ≤ n ∧ n ≤ 25) ∧ tc ≤ t ∧ t ≤ tc + 4 + 12 * (25 - n)) (h71 : ¬ (0 < n)) (v232 : Int) (t233 : Int) (s234 : Int) (ht236 : t ≤ t233 ∧ t233 ≤ t + 2) (hq237 : (0 : Int) ≤ v232 ∧ ((v232 : Int) < 32 ∨ (v232 : Int) = 0)) (h240 : ¬ (v232 = 0)) (h270 : v232 = 1) (v342 : Int) (t343 : Int) (s344 : Int) (ht346 : t233 ≤ t343 ∧ t343 ≤ t233 + 2) (hq347 : v342 ∈ ([1, (-1)] : List Int)) (hq351 : ((-1) : Int) ≤ v342 ∧ v342 ≤ 1) : o.Stack = (⟨o.State, o.Key, o.Stack, o.Dust, o.Laid + v342, o.Given⟩ : Chest).Stack := by
  first | rfl | omega | grind
theorem z_c___spec_l1Cur__chest_421 (Lc : List UInt8) (tc : Int) (sc : Int) (nc : Nat) (htc : 0 ≤ tc ∧ tc + 310 ≤ 4611686018427387904) (hbdc : (nc : Int) ≤ 9223372036854775807) (hlec : nc = Lc.length) (v33 : Int) (t34 : Int) (s35 : Int) (ht37 : tc ≤ t34 ∧ t34 ≤ tc + 2) (hq38 : (0 : Int) ≤ v33 ∧ ((v33 : Int) < 26 ∨ (v33 : Int) = 0)) (n : Int) (o : Chest) (t : Int) (z : Int) (n41 : Nat) (c41 : Nat) (hi58 : (0 ≤ n ∧ n ≤ 25) ∧ ChestOK o ∧ tc ≤ t ∧ t ≤ tc + 4 + 12 * (25 - n)) (hl65 : n41 = (o.Stack).length) (hq67 : ChestOK o) (hq68 : 0 ≤ o.Key ∧ o.Key ≤ 9999) (hq69 : o.Stack.length ≤ 10 ∧ 0 ≤ o.Laid ∧ o.Laid ≤ 9999) (hq70 : (0 ≤ n ∧ n ≤ 25) ∧ tc ≤ t ∧ t ≤ tc + 4 + 12 * (25 - n)) (h71 : ¬ (0 < n)) (v232 : Int) (t233 : Int) (s234 : Int) (ht236 : t ≤ t233 ∧ t233 ≤ t + 2) (hq237 : (0 : Int) ≤ v232 ∧ ((v232 : Int) < 32 ∨ (v232 : Int) = 0)) (h240 : ¬ (v232 = 0)) (h270 : v232 = 1) (v342 : Int) (t343 : Int) (s344 : Int) (ht346 : t233 ≤ t343 ∧ t343 ≤ t233 + 2) (hq347 : v342 ∈ ([1, (-1)] : List Int)) (hq351 : ((-1) : Int) ≤ v342 ∧ v342 ≤ 1) : o.State = (⟨o.State, o.Key, o.Stack, o.Dust, o.Laid + v342, o.Given⟩ : Chest).State := by
  first | rfl | omega | grind
theorem z_c___spec_l1Cur__chest_422 (Lc : List UInt8) (tc : Int) (sc : Int) (nc : Nat) (htc : 0 ≤ tc ∧ tc + 310 ≤ 4611686018427387904) (hbdc : (nc : Int) ≤ 9223372036854775807) (hlec : nc = Lc.length) (v33 : Int) (t34 : Int) (s35 : Int) (ht37 : tc ≤ t34 ∧ t34 ≤ tc + 2) (hq38 : (0 : Int) ≤ v33 ∧ ((v33 : Int) < 26 ∨ (v33 : Int) = 0)) (n : Int) (o : Chest) (t : Int) (z : Int) (n41 : Nat) (c41 : Nat) (hi58 : (0 ≤ n ∧ n ≤ 25) ∧ ChestOK o ∧ tc ≤ t ∧ t ≤ tc + 4 + 12 * (25 - n)) (hl65 : n41 = (o.Stack).length) (hq67 : ChestOK o) (hq68 : 0 ≤ o.Key ∧ o.Key ≤ 9999) (hq69 : o.Stack.length ≤ 10 ∧ 0 ≤ o.Laid ∧ o.Laid ≤ 9999) (hq70 : (0 ≤ n ∧ n ≤ 25) ∧ tc ≤ t ∧ t ≤ tc + 4 + 12 * (25 - n)) (h71 : ¬ (0 < n)) (v232 : Int) (t233 : Int) (s234 : Int) (ht236 : t ≤ t233 ∧ t233 ≤ t + 2) (hq237 : (0 : Int) ≤ v232 ∧ ((v232 : Int) < 32 ∨ (v232 : Int) = 0)) (h240 : ¬ (v232 = 0)) (h270 : v232 = 1) (v342 : Int) (t343 : Int) (s344 : Int) (ht346 : t233 ≤ t343 ∧ t343 ≤ t233 + 2) (hq347 : v342 ∈ ([1, (-1)] : List Int)) (hq351 : ((-1) : Int) ≤ v342 ∧ v342 ≤ 1) : o.Key = (⟨o.State, o.Key, o.Stack, o.Dust, o.Laid + v342, o.Given⟩ : Chest).Key := by
  first | rfl | omega | grind
theorem z_c___spec_l1Cur__chest_423 (Lc : List UInt8) (tc : Int) (sc : Int) (nc : Nat) (htc : 0 ≤ tc ∧ tc + 310 ≤ 4611686018427387904) (hbdc : (nc : Int) ≤ 9223372036854775807) (hlec : nc = Lc.length) (v33 : Int) (t34 : Int) (s35 : Int) (ht37 : tc ≤ t34 ∧ t34 ≤ tc + 2) (hq38 : (0 : Int) ≤ v33 ∧ ((v33 : Int) < 26 ∨ (v33 : Int) = 0)) (n : Int) (o : Chest) (t : Int) (z : Int) (n41 : Nat) (c41 : Nat) (hi58 : (0 ≤ n ∧ n ≤ 25) ∧ ChestOK o ∧ tc ≤ t ∧ t ≤ tc + 4 + 12 * (25 - n)) (hl65 : n41 = (o.Stack).length) (hq67 : ChestOK o) (hq68 : 0 ≤ o.Key ∧ o.Key ≤ 9999) (hq69 : o.Stack.length ≤ 10 ∧ 0 ≤ o.Laid ∧ o.Laid ≤ 9999) (hq70 : (0 ≤ n ∧ n ≤ 25) ∧ tc ≤ t ∧ t ≤ tc + 4 + 12 * (25 - n)) (h71 : ¬ (0 < n)) (v232 : Int) (t233 : Int) (s234 : Int) (ht236 : t ≤ t233 ∧ t233 ≤ t + 2) (hq237 : (0 : Int) ≤ v232 ∧ ((v232 : Int) < 32 ∨ (v232 : Int) = 0)) (h240 : ¬ (v232 = 0)) (h270 : v232 = 1) (v342 : Int) (t343 : Int) (s344 : Int) (ht346 : t233 ≤ t343 ∧ t343 ≤ t233 + 2) (hq347 : v342 ∈ ([1, (-1)] : List Int)) (hq351 : ((-1) : Int) ≤ v342 ∧ v342 ≤ 1) : o.Dust = (⟨o.State, o.Key, o.Stack, o.Dust, o.Laid + v342, o.Given⟩ : Chest).Dust := by
  first | rfl | omega | grind
theorem z_c___spec_l1Cur__chest_424 (Lc : List UInt8) (tc : Int) (sc : Int) (nc : Nat) (htc : 0 ≤ tc ∧ tc + 310 ≤ 4611686018427387904) (hbdc : (nc : Int) ≤ 9223372036854775807) (hlec : nc = Lc.length) (v33 : Int) (t34 : Int) (s35 : Int) (ht37 : tc ≤ t34 ∧ t34 ≤ tc + 2) (hq38 : (0 : Int) ≤ v33 ∧ ((v33 : Int) < 26 ∨ (v33 : Int) = 0)) (n : Int) (o : Chest) (t : Int) (z : Int) (n41 : Nat) (c41 : Nat) (hi58 : (0 ≤ n ∧ n ≤ 25) ∧ ChestOK o ∧ tc ≤ t ∧ t ≤ tc + 4 + 12 * (25 - n)) (hl65 : n41 = (o.Stack).length) (hq67 : ChestOK o) (hq68 : 0 ≤ o.Key ∧ o.Key ≤ 9999) (hq69 : o.Stack.length ≤ 10 ∧ 0 ≤ o.Laid ∧ o.Laid ≤ 9999) (hq70 : (0 ≤ n ∧ n ≤ 25) ∧ tc ≤ t ∧ t ≤ tc + 4 + 12 * (25 - n)) (h71 : ¬ (0 < n)) (v232 : Int) (t233 : Int) (s234 : Int) (ht236 : t ≤ t233 ∧ t233 ≤ t + 2) (hq237 : (0 : Int) ≤ v232 ∧ ((v232 : Int) < 32 ∨ (v232 : Int) = 0)) (h240 : ¬ (v232 = 0)) (h270 : v232 = 1) (v342 : Int) (t343 : Int) (s344 : Int) (ht346 : t233 ≤ t343 ∧ t343 ≤ t233 + 2) (hq347 : v342 ∈ ([1, (-1)] : List Int)) (hq351 : ((-1) : Int) ≤ v342 ∧ v342 ≤ 1) : o.Laid + v342 = (⟨o.State, o.Key, o.Stack, o.Dust, o.Laid + v342, o.Given⟩ : Chest).Laid := by
  first | rfl | omega | grind
theorem z_c___spec_l1Cur__chest_425 (Lc : List UInt8) (tc : Int) (sc : Int) (nc : Nat) (htc : 0 ≤ tc ∧ tc + 310 ≤ 4611686018427387904) (hbdc : (nc : Int) ≤ 9223372036854775807) (hlec : nc = Lc.length) (v33 : Int) (t34 : Int) (s35 : Int) (ht37 : tc ≤ t34 ∧ t34 ≤ tc + 2) (hq38 : (0 : Int) ≤ v33 ∧ ((v33 : Int) < 26 ∨ (v33 : Int) = 0)) (n : Int) (o : Chest) (t : Int) (z : Int) (n41 : Nat) (c41 : Nat) (hi58 : (0 ≤ n ∧ n ≤ 25) ∧ ChestOK o ∧ tc ≤ t ∧ t ≤ tc + 4 + 12 * (25 - n)) (hl65 : n41 = (o.Stack).length) (hq67 : ChestOK o) (hq68 : 0 ≤ o.Key ∧ o.Key ≤ 9999) (hq69 : o.Stack.length ≤ 10 ∧ 0 ≤ o.Laid ∧ o.Laid ≤ 9999) (hq70 : (0 ≤ n ∧ n ≤ 25) ∧ tc ≤ t ∧ t ≤ tc + 4 + 12 * (25 - n)) (h71 : ¬ (0 < n)) (v232 : Int) (t233 : Int) (s234 : Int) (ht236 : t ≤ t233 ∧ t233 ≤ t + 2) (hq237 : (0 : Int) ≤ v232 ∧ ((v232 : Int) < 32 ∨ (v232 : Int) = 0)) (h240 : ¬ (v232 = 0)) (h270 : v232 = 1) (v342 : Int) (t343 : Int) (s344 : Int) (ht346 : t233 ≤ t343 ∧ t343 ≤ t233 + 2) (hq347 : v342 ∈ ([1, (-1)] : List Int)) (hq351 : ((-1) : Int) ≤ v342 ∧ v342 ≤ 1) : o.Given = (⟨o.State, o.Key, o.Stack, o.Dust, o.Laid + v342, o.Given⟩ : Chest).Given := by
  first | rfl | omega | grind
theorem z_c___spec_l1Cur__chest_426 (Lc : List UInt8) (tc : Int) (sc : Int) (nc : Nat) (htc : 0 ≤ tc ∧ tc + 310 ≤ 4611686018427387904) (hbdc : (nc : Int) ≤ 9223372036854775807) (hlec : nc = Lc.length) (v33 : Int) (t34 : Int) (s35 : Int) (ht37 : tc ≤ t34 ∧ t34 ≤ tc + 2) (hq38 : (0 : Int) ≤ v33 ∧ ((v33 : Int) < 26 ∨ (v33 : Int) = 0)) (n : Int) (o : Chest) (t : Int) (z : Int) (n41 : Nat) (c41 : Nat) (hi58 : (0 ≤ n ∧ n ≤ 25) ∧ ChestOK o ∧ tc ≤ t ∧ t ≤ tc + 4 + 12 * (25 - n)) (hl65 : n41 = (o.Stack).length) (hq67 : ChestOK o) (hq68 : 0 ≤ o.Key ∧ o.Key ≤ 9999) (hq69 : o.Stack.length ≤ 10 ∧ 0 ≤ o.Laid ∧ o.Laid ≤ 9999) (hq70 : (0 ≤ n ∧ n ≤ 25) ∧ tc ≤ t ∧ t ≤ tc + 4 + 12 * (25 - n)) (h71 : ¬ (0 < n)) (v232 : Int) (t233 : Int) (s234 : Int) (ht236 : t ≤ t233 ∧ t233 ≤ t + 2) (hq237 : (0 : Int) ≤ v232 ∧ ((v232 : Int) < 32 ∨ (v232 : Int) = 0)) (h240 : ¬ (v232 = 0)) (h270 : v232 = 1) (v342 : Int) (t343 : Int) (s344 : Int) (ht346 : t233 ≤ t343 ∧ t343 ≤ t233 + 2) (hq347 : v342 ∈ ([1, (-1)] : List Int)) (hq351 : ((-1) : Int) ≤ v342 ∧ v342 ≤ 1) : (o.Stack.length ≤ 11) ∧ 0 ≤ o.Key ∧ o.Key ≤ 9999 := by
  first | omega | (simp only [List.length_append, List.length_cons, List.length_nil]; omega)
theorem z_c___spec_l1Cur__chest_767 (Lc : List UInt8) (tc : Int) (sc : Int) (nc : Nat) (htc : 0 ≤ tc ∧ tc + 310 ≤ 4611686018427387904) (hbdc : (nc : Int) ≤ 9223372036854775807) (hlec : nc = Lc.length) (v33 : Int) (t34 : Int) (s35 : Int) (ht37 : tc ≤ t34 ∧ t34 ≤ tc + 2) (hq38 : (0 : Int) ≤ v33 ∧ ((v33 : Int) < 26 ∨ (v33 : Int) = 0)) (n : Int) (o : Chest) (t : Int) (z : Int) (n41 : Nat) (c41 : Nat) (hi58 : (0 ≤ n ∧ n ≤ 25) ∧ ChestOK o ∧ tc ≤ t ∧ t ≤ tc + 4 + 12 * (25 - n)) (hl65 : n41 = (o.Stack).length) (hq67 : ChestOK o) (hq68 : 0 ≤ o.Key ∧ o.Key ≤ 9999) (hq69 : o.Stack.length ≤ 10 ∧ 0 ≤ o.Laid ∧ o.Laid ≤ 9999) (hq70 : (0 ≤ n ∧ n ≤ 25) ∧ tc ≤ t ∧ t ≤ tc + 4 + 12 * (25 - n)) (h71 : ¬ (0 < n)) (v232 : Int) (t233 : Int) (s234 : Int) (ht236 : t ≤ t233 ∧ t233 ≤ t + 2) (hq237 : (0 : Int) ≤ v232 ∧ ((v232 : Int) < 32 ∨ (v232 : Int) = 0)) (h240 : ¬ (v232 = 0)) (h270 : ¬ (v232 = 1)) (h427 : v232 = 2) (v567 : Int) (t568 : Int) (s569 : Int) (ht571 : t233 ≤ t568 ∧ t568 ≤ t233 + 2) (hq572 : v567 ∈ ([0, 5, 1000] : List Int)) (hq576 : (0 : Int) ≤ v567 ∧ v567 ≤ 1000) : o.Stack ++ ([v567] : List Int) = (⟨o.State, o.Key, o.Stack ++ ([v567] : List Int), o.Dust, o.Laid + 1, o.Given⟩ : Chest).Stack := by
  first | rfl | omega | grind
theorem z_c___spec_l1Cur__chest_768 (Lc : List UInt8) (tc : Int) (sc : Int) (nc : Nat) (htc : 0 ≤ tc ∧ tc + 310 ≤ 4611686018427387904) (hbdc : (nc : Int) ≤ 9223372036854775807) (hlec : nc = Lc.length) (v33 : Int) (t34 : Int) (s35 : Int) (ht37 : tc ≤ t34 ∧ t34 ≤ tc + 2) (hq38 : (0 : Int) ≤ v33 ∧ ((v33 : Int) < 26 ∨ (v33 : Int) = 0)) (n : Int) (o : Chest) (t : Int) (z : Int) (n41 : Nat) (c41 : Nat) (hi58 : (0 ≤ n ∧ n ≤ 25) ∧ ChestOK o ∧ tc ≤ t ∧ t ≤ tc + 4 + 12 * (25 - n)) (hl65 : n41 = (o.Stack).length) (hq67 : ChestOK o) (hq68 : 0 ≤ o.Key ∧ o.Key ≤ 9999) (hq69 : o.Stack.length ≤ 10 ∧ 0 ≤ o.Laid ∧ o.Laid ≤ 9999) (hq70 : (0 ≤ n ∧ n ≤ 25) ∧ tc ≤ t ∧ t ≤ tc + 4 + 12 * (25 - n)) (h71 : ¬ (0 < n)) (v232 : Int) (t233 : Int) (s234 : Int) (ht236 : t ≤ t233 ∧ t233 ≤ t + 2) (hq237 : (0 : Int) ≤ v232 ∧ ((v232 : Int) < 32 ∨ (v232 : Int) = 0)) (h240 : ¬ (v232 = 0)) (h270 : ¬ (v232 = 1)) (h427 : v232 = 2) (v567 : Int) (t568 : Int) (s569 : Int) (ht571 : t233 ≤ t568 ∧ t568 ≤ t233 + 2) (hq572 : v567 ∈ ([0, 5, 1000] : List Int)) (hq576 : (0 : Int) ≤ v567 ∧ v567 ≤ 1000) : o.State = (⟨o.State, o.Key, o.Stack ++ ([v567] : List Int), o.Dust, o.Laid + 1, o.Given⟩ : Chest).State := by
  first | rfl | omega | grind
theorem z_c___spec_l1Cur__chest_769 (Lc : List UInt8) (tc : Int) (sc : Int) (nc : Nat) (htc : 0 ≤ tc ∧ tc + 310 ≤ 4611686018427387904) (hbdc : (nc : Int) ≤ 9223372036854775807) (hlec : nc = Lc.length) (v33 : Int) (t34 : Int) (s35 : Int) (ht37 : tc ≤ t34 ∧ t34 ≤ tc + 2) (hq38 : (0 : Int) ≤ v33 ∧ ((v33 : Int) < 26 ∨ (v33 : Int) = 0)) (n : Int) (o : Chest) (t : Int) (z : Int) (n41 : Nat) (c41 : Nat) (hi58 : (0 ≤ n ∧ n ≤ 25) ∧ ChestOK o ∧ tc ≤ t ∧ t ≤ tc + 4 + 12 * (25 - n)) (hl65 : n41 = (o.Stack).length) (hq67 : ChestOK o) (hq68 : 0 ≤ o.Key ∧ o.Key ≤ 9999) (hq69 : o.Stack.length ≤ 10 ∧ 0 ≤ o.Laid ∧ o.Laid ≤ 9999) (hq70 : (0 ≤ n ∧ n ≤ 25) ∧ tc ≤ t ∧ t ≤ tc + 4 + 12 * (25 - n)) (h71 : ¬ (0 < n)) (v232 : Int) (t233 : Int) (s234 : Int) (ht236 : t ≤ t233 ∧ t233 ≤ t + 2) (hq237 : (0 : Int) ≤ v232 ∧ ((v232 : Int) < 32 ∨ (v232 : Int) = 0)) (h240 : ¬ (v232 = 0)) (h270 : ¬ (v232 = 1)) (h427 : v232 = 2) (v567 : Int) (t568 : Int) (s569 : Int) (ht571 : t233 ≤ t568 ∧ t568 ≤ t233 + 2) (hq572 : v567 ∈ ([0, 5, 1000] : List Int)) (hq576 : (0 : Int) ≤ v567 ∧ v567 ≤ 1000) : o.Key = (⟨o.State, o.Key, o.Stack ++ ([v567] : List Int), o.Dust, o.Laid + 1, o.Given⟩ : Chest).Key := by
  first | rfl | omega | grind
theorem z_c___spec_l1Cur__chest_770 (Lc : List UInt8) (tc : Int) (sc : Int) (nc : Nat) (htc : 0 ≤ tc ∧ tc + 310 ≤ 4611686018427387904) (hbdc : (nc : Int) ≤ 9223372036854775807) (hlec : nc = Lc.length) (v33 : Int) (t34 : Int) (s35 : Int) (ht37 : tc ≤ t34 ∧ t34 ≤ tc + 2) (hq38 : (0 : Int) ≤ v33 ∧ ((v33 : Int) < 26 ∨ (v33 : Int) = 0)) (n : Int) (o : Chest) (t : Int) (z : Int) (n41 : Nat) (c41 : Nat) (hi58 : (0 ≤ n ∧ n ≤ 25) ∧ ChestOK o ∧ tc ≤ t ∧ t ≤ tc + 4 + 12 * (25 - n)) (hl65 : n41 = (o.Stack).length) (hq67 : ChestOK o) (hq68 : 0 ≤ o.Key ∧ o.Key ≤ 9999) (hq69 : o.Stack.length ≤ 10 ∧ 0 ≤ o.Laid ∧ o.Laid ≤ 9999) (hq70 : (0 ≤ n ∧ n ≤ 25) ∧ tc ≤ t ∧ t ≤ tc + 4 + 12 * (25 - n)) (h71 : ¬ (0 < n)) (v232 : Int) (t233 : Int) (s234 : Int) (ht236 : t ≤ t233 ∧ t233 ≤ t + 2) (hq237 : (0 : Int) ≤ v232 ∧ ((v232 : Int) < 32 ∨ (v232 : Int) = 0)) (h240 : ¬ (v232 = 0)) (h270 : ¬ (v232 = 1)) (h427 : v232 = 2) (v567 : Int) (t568 : Int) (s569 : Int) (ht571 : t233 ≤ t568 ∧ t568 ≤ t233 + 2) (hq572 : v567 ∈ ([0, 5, 1000] : List Int)) (hq576 : (0 : Int) ≤ v567 ∧ v567 ≤ 1000) : o.Dust = (⟨o.State, o.Key, o.Stack ++ ([v567] : List Int), o.Dust, o.Laid + 1, o.Given⟩ : Chest).Dust := by
  first | rfl | omega | grind
theorem z_c___spec_l1Cur__chest_771 (Lc : List UInt8) (tc : Int) (sc : Int) (nc : Nat) (htc : 0 ≤ tc ∧ tc + 310 ≤ 4611686018427387904) (hbdc : (nc : Int) ≤ 9223372036854775807) (hlec : nc = Lc.length) (v33 : Int) (t34 : Int) (s35 : Int) (ht37 : tc ≤ t34 ∧ t34 ≤ tc + 2) (hq38 : (0 : Int) ≤ v33 ∧ ((v33 : Int) < 26 ∨ (v33 : Int) = 0)) (n : Int) (o : Chest) (t : Int) (z : Int) (n41 : Nat) (c41 : Nat) (hi58 : (0 ≤ n ∧ n ≤ 25) ∧ ChestOK o ∧ tc ≤ t ∧ t ≤ tc + 4 + 12 * (25 - n)) (hl65 : n41 = (o.Stack).length) (hq67 : ChestOK o) (hq68 : 0 ≤ o.Key ∧ o.Key ≤ 9999) (hq69 : o.Stack.length ≤ 10 ∧ 0 ≤ o.Laid ∧ o.Laid ≤ 9999) (hq70 : (0 ≤ n ∧ n ≤ 25) ∧ tc ≤ t ∧ t ≤ tc + 4 + 12 * (25 - n)) (h71 : ¬ (0 < n)) (v232 : Int) (t233 : Int) (s234 : Int) (ht236 : t ≤ t233 ∧ t233 ≤ t + 2) (hq237 : (0 : Int) ≤ v232 ∧ ((v232 : Int) < 32 ∨ (v232 : Int) = 0)) (h240 : ¬ (v232 = 0)) (h270 : ¬ (v232 = 1)) (h427 : v232 = 2) (v567 : Int) (t568 : Int) (s569 : Int) (ht571 : t233 ≤ t568 ∧ t568 ≤ t233 + 2) (hq572 : v567 ∈ ([0, 5, 1000] : List Int)) (hq576 : (0 : Int) ≤ v567 ∧ v567 ≤ 1000) : o.Laid + 1 = (⟨o.State, o.Key, o.Stack ++ ([v567] : List Int), o.Dust, o.Laid + 1, o.Given⟩ : Chest).Laid := by
  first | rfl | omega | grind
theorem z_c___spec_l1Cur__chest_772 (Lc : List UInt8) (tc : Int) (sc : Int) (nc : Nat) (htc : 0 ≤ tc ∧ tc + 310 ≤ 4611686018427387904) (hbdc : (nc : Int) ≤ 9223372036854775807) (hlec : nc = Lc.length) (v33 : Int) (t34 : Int) (s35 : Int) (ht37 : tc ≤ t34 ∧ t34 ≤ tc + 2) (hq38 : (0 : Int) ≤ v33 ∧ ((v33 : Int) < 26 ∨ (v33 : Int) = 0)) (n : Int) (o : Chest) (t : Int) (z : Int) (n41 : Nat) (c41 : Nat) (hi58 : (0 ≤ n ∧ n ≤ 25) ∧ ChestOK o ∧ tc ≤ t ∧ t ≤ tc + 4 + 12 * (25 - n)) (hl65 : n41 = (o.Stack).length) (hq67 : ChestOK o) (hq68 : 0 ≤ o.Key ∧ o.Key ≤ 9999) (hq69 : o.Stack.length ≤ 10 ∧ 0 ≤ o.Laid ∧ o.Laid ≤ 9999) (hq70 : (0 ≤ n ∧ n ≤ 25) ∧ tc ≤ t ∧ t ≤ tc + 4 + 12 * (25 - n)) (h71 : ¬ (0 < n)) (v232 : Int) (t233 : Int) (s234 : Int) (ht236 : t ≤ t233 ∧ t233 ≤ t + 2) (hq237 : (0 : Int) ≤ v232 ∧ ((v232 : Int) < 32 ∨ (v232 : Int) = 0)) (h240 : ¬ (v232 = 0)) (h270 : ¬ (v232 = 1)) (h427 : v232 = 2) (v567 : Int) (t568 : Int) (s569 : Int) (ht571 : t233 ≤ t568 ∧ t568 ≤ t233 + 2) (hq572 : v567 ∈ ([0, 5, 1000] : List Int)) (hq576 : (0 : Int) ≤ v567 ∧ v567 ≤ 1000) : o.Given = (⟨o.State, o.Key, o.Stack ++ ([v567] : List Int), o.Dust, o.Laid + 1, o.Given⟩ : Chest).Given := by
  first | rfl | omega | grind
theorem z_c___spec_l1Cur__chest_773 (Lc : List UInt8) (tc : Int) (sc : Int) (nc : Nat) (htc : 0 ≤ tc ∧ tc + 310 ≤ 4611686018427387904) (hbdc : (nc : Int) ≤ 9223372036854775807) (hlec : nc = Lc.length) (v33 : Int) (t34 : Int) (s35 : Int) (ht37 : tc ≤ t34 ∧ t34 ≤ tc + 2) (hq38 : (0 : Int) ≤ v33 ∧ ((v33 : Int) < 26 ∨ (v33 : Int) = 0)) (n : Int) (o : Chest) (t : Int) (z : Int) (n41 : Nat) (c41 : Nat) (hi58 : (0 ≤ n ∧ n ≤ 25) ∧ ChestOK o ∧ tc ≤ t ∧ t ≤ tc + 4 + 12 * (25 - n)) (hl65 : n41 = (o.Stack).length) (hq67 : ChestOK o) (hq68 : 0 ≤ o.Key ∧ o.Key ≤ 9999) (hq69 : o.Stack.length ≤ 10 ∧ 0 ≤ o.Laid ∧ o.Laid ≤ 9999) (hq70 : (0 ≤ n ∧ n ≤ 25) ∧ tc ≤ t ∧ t ≤ tc + 4 + 12 * (25 - n)) (h71 : ¬ (0 < n)) (v232 : Int) (t233 : Int) (s234 : Int) (ht236 : t ≤ t233 ∧ t233 ≤ t + 2) (hq237 : (0 : Int) ≤ v232 ∧ ((v232 : Int) < 32 ∨ (v232 : Int) = 0)) (h240 : ¬ (v232 = 0)) (h270 : ¬ (v232 = 1)) (h427 : v232 = 2) (v567 : Int) (t568 : Int) (s569 : Int) (ht571 : t233 ≤ t568 ∧ t568 ≤ t233 + 2) (hq572 : v567 ∈ ([0, 5, 1000] : List Int)) (hq576 : (0 : Int) ≤ v567 ∧ v567 ≤ 1000) : ((o.Stack ++ ([v567] : List Int)).length ≤ 11) ∧ 0 ≤ o.Key ∧ o.Key ≤ 9999 := by
  first | omega | (simp only [List.length_append, List.length_cons, List.length_nil]; omega)
theorem z_c___spec_l1Cur__chest_780 (Lc : List UInt8) (tc : Int) (sc : Int) (nc : Nat) (htc : 0 ≤ tc ∧ tc + 310 ≤ 4611686018427387904) (hbdc : (nc : Int) ≤ 9223372036854775807) (hlec : nc = Lc.length) (v33 : Int) (t34 : Int) (s35 : Int) (ht37 : tc ≤ t34 ∧ t34 ≤ tc + 2) (hq38 : (0 : Int) ≤ v33 ∧ ((v33 : Int) < 26 ∨ (v33 : Int) = 0)) (n : Int) (o : Chest) (t : Int) (z : Int) (n41 : Nat) (c41 : Nat) (hi58 : (0 ≤ n ∧ n ≤ 25) ∧ ChestOK o ∧ tc ≤ t ∧ t ≤ tc + 4 + 12 * (25 - n)) (hl65 : n41 = (o.Stack).length) (hq67 : ChestOK o) (hq68 : 0 ≤ o.Key ∧ o.Key ≤ 9999) (hq69 : o.Stack.length ≤ 10 ∧ 0 ≤ o.Laid ∧ o.Laid ≤ 9999) (hq70 : (0 ≤ n ∧ n ≤ 25) ∧ tc ≤ t ∧ t ≤ tc + 4 + 12 * (25 - n)) (h71 : ¬ (0 < n)) (v232 : Int) (t233 : Int) (s234 : Int) (ht236 : t ≤ t233 ∧ t233 ≤ t + 2) (hq237 : (0 : Int) ≤ v232 ∧ ((v232 : Int) < 32 ∨ (v232 : Int) = 0)) (h240 : ¬ (v232 = 0)) (h270 : ¬ (v232 = 1)) (h427 : ¬ (v232 = 2)) : (o.Stack.length ≤ 11) ∧ 0 ≤ o.Key ∧ o.Key ≤ 9999 := by
  first | omega | (simp only [List.length_append, List.length_cons, List.length_nil]; omega)
theorem c___spec_l1Cur__chest (w : World) {gc ec : Nat} {Ac : Option Addr} {nc cc Bc : Nat} (Lc : List UInt8) (tc sc : Int) (hc : Blk w gc ec [.slice Ac nc cc, .int .i64 tc, .int .u64 sc]) (hLc : SlR w Bc encB 1 Ac nc cc Lc) (hgc : Bc ≤ gc) (htc : 0 ≤ tc ∧ tc + 310 ≤ 4611686018427387904) : Calls Tryd.prog 53 #[.pointer (some ⟨gc, 0, none⟩)] w fun e w' => ∃ (A1' : Option Addr) (n1' c1' : Nat) (x : Chest) (tc' sc' : Int), e = .returned (.agg (List.toArray [.int .i64 x.State, .int .i64 x.Key, .slice A1' n1' c1', .int .i64 x.Dust, .int .i64 x.Laid, .int .i64 x.Given])) ∧ SlO w' w.heap.size encI 1 3 A1' n1' c1' x.Stack ∧ Blk w' gc ec [.slice Ac nc cc, .int .i64 tc', .int .u64 sc'] ∧ (tc ≤ tc' ∧ tc' ≤ tc + 310) ∧ ((x.Stack.length ≤ 11) ∧ 0 ≤ x.Key ∧ x.Key ≤ 9999) ∧ Kp (fun b_ => b_ = gc) w w' := by
  refine calls_W 56 Tryd.func53 rfl rfl rfl ?_
  have hBlc := hc.lt
  have hbdc := hLc.bound
  have hlec := hLc.len
  have hBbc := hLc.bd
  refine W.seq ?_
  refine W.regS (SR.alloc (l := [.int .i64 0, .int .i64 0, .slice none 0 0, .int .i64 0, .int .i64 0, .int .i64 0]) tz40 rfl ?_)
  intro g1 w2 hg3 hk4 hs5 hb6
  have hz7 := hk4.size
  have hB8 := (Kp.refl w : Kp (fun b_ => b_ = gc) w w).lo hk4
  refine SR.nil ?_
  refine W.seq ?_
  refine W.regS (SR.lit (vs := []) (L := ([] : List Int)) (enc := encI) tel38 (fun _ => rfl) rfl rfl rfl (by decide) ?_)
  intro g9 w10 hg11 hk12 hO13
  have hz14 := hk12.size
  have hB15 := hB8.lo hk12
  refine SR.q' (r_build (vs := [(2, .slice (some (⟨g9, 0, none⟩ : Addr)) 0 0)]) rfl (bld40_2 _ _ _)) <| SR.alloc (l := [.int .i64 0, .int .i64 0, .slice none 0 0, .int .i64 0, .int .i64 0, .int .i64 0]) tz40 rfl ?_
  intro g16 w17 hg18 hk19 hs20 hb21
  have hz22 := hk19.size
  have hB23 := hB15.lo hk19
  have hd24 : ¬ (some (⟨g9, 0, none⟩ : Addr)) = some ⟨g16, 0, none⟩ := fun e' => by have := (hO13).base_le e'; omega
  refine SR.store (o := 0) (vs := [.int .i64 0, .int .i64 0, .slice (some (⟨g9, 0, none⟩ : Addr)) 0 0, .int .i64 0, .int .i64 0, .int .i64 0]) agg40.2 rfl rfl rfl rfl (hb21) (Nat.le_of_ble_eq_true rfl) rfl ?_
  intro w25 hk26 hs27 hb28
  have hz29 := hk26.size
  have hB30 := hB23.new hk26 (by omega)
  refine SR.nil ?_
  refine W.seq ?_
  refine W.seq ?_
  refine W.regS (SR.q' (r_mv (v := .pointer (some _)) rfl) <| SR.call ent95 (c___spec_l1Cur__pick w25 Lc tc sc (((((hc).lo hk4).lo hk12).lo hk19).kp hk26 (fun e' => by have e'' : gc = g16 := e'; omega)) ((((((hLc).lo hk4).lo hk12).lo hk19).kp hk26 (fun b_ hb e' => by have e'' : b_ = g16 := e'; omega))) (by omega) (by omega) 26 (by first | omega | (simp only [List.length_append, List.length_cons, List.length_nil, List.length_take, List.length_drop]; omega))) rfl ?_)
  rintro e w31 ⟨v33, t34, s35, rfl, hb36, ht37, hq38, hk32⟩
  refine ⟨_, rfl, ?_⟩
  have hz39 := hk32.size
  have hB40 := hB30.step hk32 (fun i_ hi_ e' => e')
  refine SR.q' (r_as (v := .int .i64 _) rfl) <| SR.nil ?_
  refine W.block ?_
  refine W.loop (σ := Int × Chest × Int × Int × (Option Addr) × Nat × Nat) (fun g => [(0, .pointer (some ((⟨gc, 0, none⟩ : Addr)))), (2, .pointer (some ((⟨g1, 0, none⟩ : Addr)))), (3, .pointer (some ((⟨g16, 0, none⟩ : Addr)))), (4, .int .i64 g.1)]) (fun g w' => (Kp (fun b_ => b_ = gc) w w') ∧ (Blk w' gc ec [.slice Ac nc cc, .int .i64 g.2.2.1, .int .u64 g.2.2.2.1]) ∧ (SlR w' Bc encB 1 Ac nc cc Lc) ∧ (Blk w' g1 40 [.int .i64 0, .int .i64 0, .slice none 0 0, .int .i64 0, .int .i64 0, .int .i64 0]) ∧ (Blk w' g16 40 [.int .i64 g.2.1.State, .int .i64 g.2.1.Key, .slice g.2.2.2.2.1 g.2.2.2.2.2.1 g.2.2.2.2.2.2, .int .i64 g.2.1.Dust, .int .i64 g.2.1.Laid, .int .i64 g.2.1.Given]) ∧ (SlO w' w.heap.size encI 1 3 g.2.2.2.2.1 g.2.2.2.2.2.1 g.2.2.2.2.2.2 g.2.1.Stack) ∧ (¬ g.2.2.2.2.1 = some ⟨gc, 0, none⟩) ∧ (¬ g.2.2.2.2.1 = some ⟨g1, 0, none⟩) ∧ (¬ g.2.2.2.2.1 = some ⟨g16, 0, none⟩) ∧ ((0 ≤ g.1 ∧ g.1 ≤ 25) ∧ ChestOK g.2.1 ∧ tc ≤ g.2.2.1 ∧ g.2.2.1 ≤ tc + 4 + 12 * (25 - g.1))) (fun g => g.1.toNat) (v33, (⟨0, 0, ([] : List Int), 0, 0, 0⟩ : Chest), t34, s35, (some (⟨g9, 0, none⟩ : Addr)), 0, 0) ?_ ?_ ?_
  · exact ⟨rfl, rfl, rfl, rfl, trivial⟩
  · show (Kp (fun b_ => b_ = gc) w w31) ∧ (Blk w31 gc ec [.slice Ac nc cc, .int .i64 t34, .int .u64 s35]) ∧ (SlR w31 Bc encB 1 Ac nc cc Lc) ∧ (Blk w31 g1 40 [.int .i64 0, .int .i64 0, .slice none 0 0, .int .i64 0, .int .i64 0, .int .i64 0]) ∧ (Blk w31 g16 40 [.int .i64 ((⟨0, 0, ([] : List Int), 0, 0, 0⟩ : Chest).State), .int .i64 ((⟨0, 0, ([] : List Int), 0, 0, 0⟩ : Chest).Key), .slice (some (⟨g9, 0, none⟩ : Addr)) 0 0, .int .i64 ((⟨0, 0, ([] : List Int), 0, 0, 0⟩ : Chest).Dust), .int .i64 ((⟨0, 0, ([] : List Int), 0, 0, 0⟩ : Chest).Laid), .int .i64 ((⟨0, 0, ([] : List Int), 0, 0, 0⟩ : Chest).Given)]) ∧ (SlO w31 w.heap.size encI 1 3 (some (⟨g9, 0, none⟩ : Addr)) 0 0 ((⟨0, 0, ([] : List Int), 0, 0, 0⟩ : Chest).Stack)) ∧ (¬ (some (⟨g9, 0, none⟩ : Addr)) = some ⟨gc, 0, none⟩) ∧ (¬ (some (⟨g9, 0, none⟩ : Addr)) = some ⟨g1, 0, none⟩) ∧ (¬ (some (⟨g9, 0, none⟩ : Addr)) = some ⟨g16, 0, none⟩) ∧ ((0 ≤ v33 ∧ v33 ≤ 25) ∧ ChestOK (⟨0, 0, ([] : List Int), 0, 0, 0⟩ : Chest) ∧ tc ≤ t34 ∧ t34 ≤ tc + 4 + 12 * (25 - v33))
    exact ⟨hB40, (hb36), (((((hLc).lo hk4).lo hk12).lo hk19).kp hk26 (fun b_ hb e' => by have e'' : b_ = g16 := e'; omega)).kp hk32 (fun b_ hb e' => by have e'' : b_ = gc := e'; omega), ((((hb6).lo hk12).lo hk19).kp hk26 (fun e' => by have e'' : g1 = g16 := e'; omega)).kp hk32 (fun e' => by have e'' : g1 = gc := e'; omega), (Blk.eqv ((hb28).kp hk32 (fun e' => by have e'' : g16 = gc := e'; omega)) (eC (eI (z_c___spec_l1Cur__chest_43 Lc tc sc nc htc hbdc hlec v33 t34 s35 ht37 hq38)) (eC (eI (z_c___spec_l1Cur__chest_44 Lc tc sc nc htc hbdc hlec v33 t34 s35 ht37 hq38)) (eC rfl (eC (eI (z_c___spec_l1Cur__chest_45 Lc tc sc nc htc hbdc hlec v33 t34 s35 ht37 hq38)) (eC (eI (z_c___spec_l1Cur__chest_46 Lc tc sc nc htc hbdc hlec v33 t34 s35 ht37 hq38)) (eC (eI (z_c___spec_l1Cur__chest_47 Lc tc sc nc htc hbdc hlec v33 t34 s35 ht37 hq38)) rfl))))))), (SlO.eqv (((((hO13).lo hk19).kp hk26 (fun b_ hb e' => hd24 (by have e'' : b_ = g16 := e'; rw [← e'']; exact hb))).kp hk32 (fun b_ hb e' => by have e'' : b_ = gc := e'; have := (((hO13).lo hk19).kp hk26 (fun b_ hb e' => hd24 (by have e'' : b_ = g16 := e'; rw [← e'']; exact hb))).base_le hb; omega)).down (by omega)) (z_c___spec_l1Cur__chest_48 Lc tc sc nc htc hbdc hlec v33 t34 s35 ht37 hq38)), (fun e' => by have := ((((hO13).lo hk19).kp hk26 (fun b_ hb e' => hd24 (by have e'' : b_ = g16 := e'; rw [← e'']; exact hb))).kp hk32 (fun b_ hb e' => by have e'' : b_ = gc := e'; have := (((hO13).lo hk19).kp hk26 (fun b_ hb e' => hd24 (by have e'' : b_ = g16 := e'; rw [← e'']; exact hb))).base_le hb; omega)).base_le e'; omega), (fun e' => by have := ((((hO13).lo hk19).kp hk26 (fun b_ hb e' => hd24 (by have e'' : b_ = g16 := e'; rw [← e'']; exact hb))).kp hk32 (fun b_ hb e' => by have e'' : b_ = gc := e'; have := (((hO13).lo hk19).kp hk26 (fun b_ hb e' => hd24 (by have e'' : b_ = g16 := e'; rw [← e'']; exact hb))).base_le hb; omega)).base_le e'; omega), hd24, (z_c___spec_l1Cur__chest_42 Lc tc sc nc htc hbdc hlec v33 t34 s35 ht37 hq38)⟩
  · rintro ⟨n, o, t, z, A41, n41, c41⟩ f49 w50 hP52
    obtain ⟨hB51, hm53, hm54, hm55, hm56, hO57, hd59, hd60, hd61, hi58⟩ : (Kp (fun b_ => b_ = gc) w w50) ∧ (Blk w50 gc ec [.slice Ac nc cc, .int .i64 t, .int .u64 z]) ∧ (SlR w50 Bc encB 1 Ac nc cc Lc) ∧ (Blk w50 g1 40 [.int .i64 0, .int .i64 0, .slice none 0 0, .int .i64 0, .int .i64 0, .int .i64 0]) ∧ (Blk w50 g16 40 [.int .i64 o.State, .int .i64 o.Key, .slice A41 n41 c41, .int .i64 o.Dust, .int .i64 o.Laid, .int .i64 o.Given]) ∧ (SlO w50 w.heap.size encI 1 3 A41 n41 c41 o.Stack) ∧ (¬ A41 = some ⟨gc, 0, none⟩) ∧ (¬ A41 = some ⟨g1, 0, none⟩) ∧ (¬ A41 = some ⟨g16, 0, none⟩) ∧ ((0 ≤ n ∧ n ≤ 25) ∧ ChestOK o ∧ tc ≤ t ∧ t ≤ tc + 4 + 12 * (25 - n)) := hP52
    refine (?_ : W _ _ _ _ _ (act _ (sets f49 [(0, .pointer (some ((⟨gc, 0, none⟩ : Addr)))), (2, .pointer (some ((⟨g1, 0, none⟩ : Addr)))), (3, .pointer (some ((⟨g16, 0, none⟩ : Addr)))), (4, .int .i64 n)])) _)
    have hzw50 := hB51.size
    have hl62 := hm53.lt
    have hl63 := hm55.lt
    have hl64 := hm56.lt
    have hl65 := hO57.len
    have hl66 := hO57.rd.bound
    have hq67 : ChestOK o := hi58.2.1
    have hq68 : 0 ≤ o.Key ∧ o.Key ≤ 9999 := chest_key hi58.2.1
    have hq69 : o.Stack.length ≤ 10 ∧ 0 ≤ o.Laid ∧ o.Laid ≤ 9999 := chest_laid hi58.2.1
    have hq70 : (0 ≤ n ∧ n ≤ 25) ∧ tc ≤ t ∧ t ≤ tc + 4 + 12 * (25 - n) := And.intro hi58.1 hi58.2.2
    refine W.seq ?_
    refine W.seq ?_
    refine W.regS (SR.q' (r_mv (v := .int .i64 _) rfl) <| SR.q' (r_gt rfl rfl) <| SR.nil ?_)
    refine W.cond_d rfl (fun h71 => ?_) (fun h71 => ?_)
    · refine W.skip ?_
      refine W.seq ?_
      refine W.block ?_
      refine W.seq ?_
      refine W.regA (Kp (fun b_ => b_ = gc) w50) (fun f' w' => ∃ (v92 : ChestStep), ∃ (t93 : Int), ∃ (s94 : Int), ∃ (A102 : Option Addr), ∃ (n103 : Nat), ∃ (c104 : Nat), ∃ (g112 : Nat), At f' [(0, .pointer (some ((⟨gc, 0, none⟩ : Addr)))), (2, .pointer (some ((⟨g1, 0, none⟩ : Addr)))), (3, .pointer (some ((⟨g16, 0, none⟩ : Addr)))), (4, .int .i64 n), (5, .pointer (some ((⟨g112, 0, none⟩ : Addr)))), (6, .bool ((spec_StepChest o v92).2))] ∧ (Kp (fun b_ => b_ = gc) w50 w') ∧ (SlO w' w50.heap.size encI 1 3 A102 n103 c104 (((spec_StepChest o v92).1).Stack)) ∧ (Blk w' g112 40 [.int .i64 (((spec_StepChest o v92).1).State), .int .i64 (((spec_StepChest o v92).1).Key), .slice A102 n103 c104, .int .i64 (((spec_StepChest o v92).1).Dust), .int .i64 (((spec_StepChest o v92).1).Laid), .int .i64 (((spec_StepChest o v92).1).Given)]) ∧ (w50.heap.size ≤ g112 ∧ g112 < w'.heap.size) ∧ (Blk w' gc ec [.slice Ac nc cc, .int .i64 t93, .int .u64 s94]) ∧ (¬ A41 = some ⟨g112, 0, none⟩) ∧ (¬ A102 = some ⟨g112, 0, none⟩) ∧ (∀ b_, A102 = some ⟨b_, 0, none⟩ → ¬ A41 = some ⟨b_, 0, none⟩) ∧ (t ≤ t93 ∧ t93 ≤ t + 12) ∧ (n103 = (((spec_StepChest o v92).1).Stack).length) ∧ ((n103 : Int) ≤ 9223372036854775807) ∧ ((((spec_StepChest o v92).1).Stack).length ≤ 10)) mo ?_ ?_
      · intro w86 hk87
        have hz88 := hk87.size
        have hB89 := hB51.lo hk87
        refine AH.take 0 rfl (by kernel_rfl) trivial ((Kp.refl w50 : Kp (fun b_ => b_ = gc) w50 w50).lo hk87) (fun w' hw' => r_lda (l := [.int .i64 o.State, .int .i64 o.Key, .slice A41 n41 c41, .int .i64 o.Dust, .int .i64 o.Laid, .int .i64 o.Given]) agg40 rfl (fun _ _ hu => ((hm56).kp hw' (fun e' => by have e'' : g16 = gc := e'; omega)).cell hu) rfl) <| AH.take 1 rfl (by kernel_rfl) trivial ((Kp.refl w50 : Kp (fun b_ => b_ = gc) w50 w50).lo hk87) (fun w' hw' => r_mv (v := .pointer (some _)) rfl) <| AH.take 2 rfl (by kernel_rfl) trivial ((Kp.refl w50 : Kp (fun b_ => b_ = gc) w50 w50).lo hk87) (fun w' hw' => r_lda (l := [.int .i64 o.State, .int .i64 o.Key, .slice A41 n41 c41, .int .i64 o.Dust, .int .i64 o.Laid, .int .i64 o.Given]) agg40 rfl (fun _ _ hu => ((hm56).kp hw' (fun e' => by have e'' : g16 = gc := e'; omega)).cell hu) rfl) <| AH.br [3, 8] (by kernel_rfl) rfl ⟨Br.mk' rfl trivial ?_, Br.mk' rfl trivial ?_, trivial⟩
        · refine SR.call ent97 (c___spec_l1Cur__chestStep w86 Lc t z ((hm53).lo hk87) (((hm54).lo hk87)) (by omega) (by omega) o ((((hO57).lo hk87).rd)) (by first | omega | (dsimp only; omega)) (by omega) (((hO57).lo hk87).apart hd59)) rfl ?_
          rintro e w90 ⟨v92, t93, s94, rfl, hb95, ht96, hk91⟩
          refine ⟨_, rfl, ?_⟩
          have hz97 := hk91.size
          have hB98 := hB89.step hk91 (fun i_ hi_ e' => e')
          have hS99 := ((Kp.refl w50 : Kp (fun b_ => b_ = gc) w50 w50).lo hk87).step hk91 (fun _ _ e => e)
          refine SR.nil ⟨hS99, _, rfl, ?_⟩
          refine AH.br [4, 8] (by kernel_rfl) rfl ⟨Br.mk' rfl trivial ?_, Br.mk' rfl trivial ?_, trivial⟩
          · refine SR.call ent96 (c_spec_StepChest w90 o (((((hO57).lo hk87).kp hk91 (fun b_ hb e' => hd59 (by have e'' : b_ = gc := e'; rw [← e'']; exact hb))).rd)) v92) rfl ?_
            rintro e w100 ⟨A102, n103, c104, rfl, hO105, hk101⟩
            refine ⟨_, rfl, ?_⟩
            have hz106 := hk101.size
            have hB107 := hB98.lo hk101
            have hS108 := (hS99).lo hk101
            have hl109 := hO105.len
            have hl110 := hO105.rd.bound
            have hq111 := step_len o v92
            refine SR.nil ⟨hS108, _, rfl, ?_⟩
            refine AH.take 5 rfl (by kernel_rfl) trivial (hS108) (fun w' hw' => r_mv (v := .tuple (List.toArray _)) rfl) <| AH.take 6 rfl (by kernel_rfl) trivial (hS108) (fun w' hw' => r_ext (v := .agg (List.toArray _)) rfl rfl) <| AH.take 7 rfl (by kernel_rfl) trivial (hS108) (fun w' hw' => r_ext (v := .bool _) rfl rfl) <| AH.br [8] (by kernel_rfl) rfl ⟨Br.mk' rfl trivial ?_, trivial⟩
            refine SR.alloc (l := [.int .i64 0, .int .i64 0, .slice none 0 0, .int .i64 0, .int .i64 0, .int .i64 0]) tz40 rfl ?_
            intro g112 w113 hg114 hk115 hs116 hb117
            have hz118 := hk115.size
            have hB119 := hB107.lo hk115
            have hS120 := (hS108).lo hk115
            have hd121 : ¬ A41 = some ⟨g112, 0, none⟩ := fun e' => by have := ((((hO57).lo hk87).kp hk91 (fun b_ hb e' => hd59 (by have e'' : b_ = gc := e'; rw [← e'']; exact hb))).lo hk101).base_le e'; omega
            have hd122 : ¬ A102 = some ⟨g112, 0, none⟩ := fun e' => by have := (hO105).base_le e'; omega
            refine SR.nil ⟨hS120, _, rfl, ?_⟩
            refine AH.br [9] (by kernel_rfl) rfl ⟨Br.mk' rfl trivial ?_, trivial⟩
            refine SR.store (o := 0) (vs := [.int .i64 (((spec_StepChest o v92).1).State), .int .i64 (((spec_StepChest o v92).1).Key), .slice A102 n103 c104, .int .i64 (((spec_StepChest o v92).1).Dust), .int .i64 (((spec_StepChest o v92).1).Laid), .int .i64 (((spec_StepChest o v92).1).Given)]) agg40.2 rfl rfl rfl rfl (hb117) (Nat.le_of_ble_eq_true rfl) rfl ?_
            intro w123 hk124 hs125 hb126
            have hz127 := hk124.size
            have hB128 := hB119.new hk124 (by omega)
            have hS129 := (hS120).new hk124 (by omega)
            refine SR.nil ⟨hS129, _, rfl, ?_⟩
            refine AH.take 10 rfl (by kernel_rfl) trivial (hS129) (fun w' hw' => r_as (v := .bool _) rfl) <| AH.done (by kernel_rfl) ?_
            exact ⟨v92, t93, s94, A102, n103, c104, g112, ⟨rfl, rfl, rfl, rfl, rfl, rfl, trivial⟩, hS129, ((((hO105).lo hk115).kp hk124 (fun b_ hb e' => hd122 (by have e'' : b_ = g112 := e'; rw [← e'']; exact hb))).down (by omega)), (hb126), ⟨by omega, (hb126).lt⟩, ((((hb95).lo hk101).lo hk115).kp hk124 (fun e' => by have e'' : gc = g112 := e'; omega)), hd121, hd122, (fun b_ h h' => by have h1 := (((hO105).lo hk115).kp hk124 (fun b_ hb e' => hd122 (by have e'' : b_ = g112 := e'; rw [← e'']; exact hb))).base_le h; have h2 := (((hO57).lo hk87).kp hk91 (fun b_ hb e' => hd59 (by have e'' : b_ = gc := e'; rw [← e'']; exact hb))).base_le h'; omega), ht96, hl109, hl110, hq111⟩
          · refine SR.alloc (l := [.int .i64 0, .int .i64 0, .slice none 0 0, .int .i64 0, .int .i64 0, .int .i64 0]) tz40 rfl ?_
            intro g137 w138 hg139 hk140 hs141 hb142
            have hz143 := hk140.size
            have hB144 := hB98.lo hk140
            have hS145 := (hS99).lo hk140
            have hd146 : ¬ A41 = some ⟨g137, 0, none⟩ := fun e' => by have := (((hO57).lo hk87).kp hk91 (fun b_ hb e' => hd59 (by have e'' : b_ = gc := e'; rw [← e'']; exact hb))).base_le e'; omega
            refine SR.nil ⟨hS145, _, rfl, ?_⟩
            refine AH.br [4] (by kernel_rfl) rfl ⟨Br.mk' rfl trivial ?_, trivial⟩
            refine SR.call ent96 (c_spec_StepChest w138 o ((((((hO57).lo hk87).kp hk91 (fun b_ hb e' => hd59 (by have e'' : b_ = gc := e'; rw [← e'']; exact hb))).lo hk140).rd)) v92) rfl ?_
            rintro e w147 ⟨A149, n150, c151, rfl, hO152, hk148⟩
            refine ⟨_, rfl, ?_⟩
            have hz153 := hk148.size
            have hB154 := hB144.lo hk148
            have hS155 := (hS145).lo hk148
            have hl156 := hO152.len
            have hl157 := hO152.rd.bound
            have hq158 := step_len o v92
            refine SR.nil ⟨hS155, _, rfl, ?_⟩
            refine AH.take 5 rfl (by kernel_rfl) trivial (hS155) (fun w' hw' => r_mv (v := .tuple (List.toArray _)) rfl) <| AH.take 6 rfl (by kernel_rfl) trivial (hS155) (fun w' hw' => r_ext (v := .agg (List.toArray _)) rfl rfl) <| AH.take 7 rfl (by kernel_rfl) trivial (hS155) (fun w' hw' => r_ext (v := .bool _) rfl rfl) <| AH.br [9] (by kernel_rfl) rfl ⟨Br.mk' rfl trivial ?_, trivial⟩
            refine SR.store (o := 0) (vs := [.int .i64 (((spec_StepChest o v92).1).State), .int .i64 (((spec_StepChest o v92).1).Key), .slice A149 n150 c151, .int .i64 (((spec_StepChest o v92).1).Dust), .int .i64 (((spec_StepChest o v92).1).Laid), .int .i64 (((spec_StepChest o v92).1).Given)]) agg40.2 rfl rfl rfl rfl ((hb142).lo hk148) (Nat.le_of_ble_eq_true rfl) rfl ?_
            intro w159 hk160 hs161 hb162
            have hz163 := hk160.size
            have hB164 := hB154.new hk160 (by omega)
            have hS165 := (hS155).new hk160 (by omega)
            refine SR.nil ⟨hS165, _, rfl, ?_⟩
            refine AH.take 10 rfl (by kernel_rfl) trivial (hS165) (fun w' hw' => r_as (v := .bool _) rfl) <| AH.done (by kernel_rfl) ?_
            exact ⟨v92, t93, s94, A149, n150, c151, g137, ⟨rfl, rfl, rfl, rfl, rfl, rfl, trivial⟩, hS165, (((hO152).kp hk160 (fun b_ hb e' => by have e'' : b_ = g137 := e'; have := (hO152).base_le hb; omega)).down (by omega)), (hb162), ⟨by omega, (hb162).lt⟩, ((((hb95).lo hk140).lo hk148).kp hk160 (fun e' => by have e'' : gc = g137 := e'; omega)), hd146, (fun e' => by have := ((hO152).kp hk160 (fun b_ hb e' => by have e'' : b_ = g137 := e'; have := (hO152).base_le hb; omega)).base_le e'; omega), (fun b_ h h' => by have h1 := ((hO152).kp hk160 (fun b_ hb e' => by have e'' : b_ = g137 := e'; have := (hO152).base_le hb; omega)).base_le h; have h2 := ((((hO57).lo hk87).kp hk91 (fun b_ hb e' => hd59 (by have e'' : b_ = gc := e'; rw [← e'']; exact hb))).lo hk140).base_le h'; omega), ht96, hl156, hl157, hq158⟩
        · refine SR.alloc (l := [.int .i64 0, .int .i64 0, .slice none 0 0, .int .i64 0, .int .i64 0, .int .i64 0]) tz40 rfl ?_
          intro g170 w171 hg172 hk173 hs174 hb175
          have hz176 := hk173.size
          have hB177 := hB89.lo hk173
          have hS178 := ((Kp.refl w50 : Kp (fun b_ => b_ = gc) w50 w50).lo hk87).lo hk173
          have hd179 : ¬ A41 = some ⟨g170, 0, none⟩ := fun e' => by have := ((hO57).lo hk87).base_le e'; omega
          refine SR.nil ⟨hS178, _, rfl, ?_⟩
          refine AH.br [3] (by kernel_rfl) rfl ⟨Br.mk' rfl trivial ?_, trivial⟩
          refine SR.call ent97 (c___spec_l1Cur__chestStep w171 Lc t z (((hm53).lo hk87).lo hk173) ((((hm54).lo hk87).lo hk173)) (by omega) (by omega) o (((((hO57).lo hk87).lo hk173).rd)) (by first | omega | (dsimp only; omega)) (by omega) ((((hO57).lo hk87).lo hk173).apart hd59)) rfl ?_
          rintro e w180 ⟨v182, t183, s184, rfl, hb185, ht186, hk181⟩
          refine ⟨_, rfl, ?_⟩
          have hz187 := hk181.size
          have hB188 := hB177.step hk181 (fun i_ hi_ e' => e')
          have hS189 := (hS178).step hk181 (fun _ _ e => e)
          refine SR.nil ⟨hS189, _, rfl, ?_⟩
          refine AH.br [4] (by kernel_rfl) rfl ⟨Br.mk' rfl trivial ?_, trivial⟩
          refine SR.call ent96 (c_spec_StepChest w180 o ((((((hO57).lo hk87).lo hk173).kp hk181 (fun b_ hb e' => hd59 (by have e'' : b_ = gc := e'; rw [← e'']; exact hb))).rd)) v182) rfl ?_
          rintro e w190 ⟨A192, n193, c194, rfl, hO195, hk191⟩
          refine ⟨_, rfl, ?_⟩
          have hz196 := hk191.size
          have hB197 := hB188.lo hk191
          have hS198 := (hS189).lo hk191
          have hl199 := hO195.len
          have hl200 := hO195.rd.bound
          have hq201 := step_len o v182
          refine SR.nil ⟨hS198, _, rfl, ?_⟩
          refine AH.take 5 rfl (by kernel_rfl) trivial (hS198) (fun w' hw' => r_mv (v := .tuple (List.toArray _)) rfl) <| AH.take 6 rfl (by kernel_rfl) trivial (hS198) (fun w' hw' => r_ext (v := .agg (List.toArray _)) rfl rfl) <| AH.take 7 rfl (by kernel_rfl) trivial (hS198) (fun w' hw' => r_ext (v := .bool _) rfl rfl) <| AH.br [9] (by kernel_rfl) rfl ⟨Br.mk' rfl trivial ?_, trivial⟩
          refine SR.store (o := 0) (vs := [.int .i64 (((spec_StepChest o v182).1).State), .int .i64 (((spec_StepChest o v182).1).Key), .slice A192 n193 c194, .int .i64 (((spec_StepChest o v182).1).Dust), .int .i64 (((spec_StepChest o v182).1).Laid), .int .i64 (((spec_StepChest o v182).1).Given)]) agg40.2 rfl rfl rfl rfl (((hb175).kp hk181 (fun e' => by have e'' : g170 = gc := e'; omega)).lo hk191) (Nat.le_of_ble_eq_true rfl) rfl ?_
          intro w202 hk203 hs204 hb205
          have hz206 := hk203.size
          have hB207 := hB197.new hk203 (by omega)
          have hS208 := (hS198).new hk203 (by omega)
          refine SR.nil ⟨hS208, _, rfl, ?_⟩
          refine AH.take 10 rfl (by kernel_rfl) trivial (hS208) (fun w' hw' => r_as (v := .bool _) rfl) <| AH.done (by kernel_rfl) ?_
          exact ⟨v182, t183, s184, A192, n193, c194, g170, ⟨rfl, rfl, rfl, rfl, rfl, rfl, trivial⟩, hS208, (((hO195).kp hk203 (fun b_ hb e' => by have e'' : b_ = g170 := e'; have := (hO195).base_le hb; omega)).down (by omega)), (hb205), ⟨by omega, (hb205).lt⟩, (((hb185).lo hk191).kp hk203 (fun e' => by have e'' : gc = g170 := e'; omega)), hd179, (fun e' => by have := ((hO195).kp hk203 (fun b_ hb e' => by have e'' : b_ = g170 := e'; have := (hO195).base_le hb; omega)).base_le e'; omega), (fun b_ h h' => by have h1 := ((hO195).kp hk203 (fun b_ hb e' => by have e'' : b_ = g170 := e'; have := (hO195).base_le hb; omega)).base_le h; have h2 := ((((hO57).lo hk87).lo hk173).kp hk181 (fun b_ hb e' => hd59 (by have e'' : b_ = gc := e'; rw [← e'']; exact hb))).base_le h'; omega), ht186, hl199, hl200, hq201⟩
      rintro f213 w214 ⟨v92, t93, s94, A102, n103, c104, g112, hat216, hR215, hm130, hm131, hg132, hm133, hd134, hd135, hd136, ht96, hl109, hl110, hq111⟩
      rw [← sets_of_at hat216]
      have hz217 := hR215.size
      have hB218 := hB51.step hR215 (fun i_ hi_ e' => e')
      refine W.seq ?_
      refine W.regS (SR.q' (r_mv (v := .bool _) rfl) <| SR.nil ?_)
      refine W.cond_b rfl (fun h219 => ?_) (fun h219 => ?_)
      · refine W.regS (SR.q' (r_lda (l := [.int .i64 (((spec_StepChest o v92).1).State), .int .i64 (((spec_StepChest o v92).1).Key), .slice A102 n103 c104, .int .i64 (((spec_StepChest o v92).1).Dust), .int .i64 (((spec_StepChest o v92).1).Laid), .int .i64 (((spec_StepChest o v92).1).Given)]) agg40 rfl (fun _ _ hu => (hm131).cell hu) rfl) <| SR.store (o := 0) (vs := [.int .i64 (((spec_StepChest o v92).1).State), .int .i64 (((spec_StepChest o v92).1).Key), .slice A102 n103 c104, .int .i64 (((spec_StepChest o v92).1).Dust), .int .i64 (((spec_StepChest o v92).1).Laid), .int .i64 (((spec_StepChest o v92).1).Given)]) agg40.2 rfl rfl rfl rfl ((hm56).kp hR215 (fun e' => by have e'' : g16 = gc := e'; omega)) (Nat.le_of_ble_eq_true rfl) rfl ?_)
        intro w220 hk221 hs222 hb223
        have hz224 := hk221.size
        have hB225 := hB218.new hk221 (by omega)
        refine SR.nil ?_
        refine W.regS (SR.q' (r_mv (v := .int .i64 _) rfl) <| SR.q' (r_sub rfl rfl (by omega)) <| SR.q' (r_as (v := .int .i64 _) rfl) <| SR.nil ?_)
        refine ⟨(n - 1, ((spec_StepChest o v92).1), t93, s94, A102, n103, c104), _, rfl, ⟨rfl, rfl, rfl, rfl, trivial⟩, (show (Kp (fun b_ => b_ = gc) w w220) ∧ (Blk w220 gc ec [.slice Ac nc cc, .int .i64 t93, .int .u64 s94]) ∧ (SlR w220 Bc encB 1 Ac nc cc Lc) ∧ (Blk w220 g1 40 [.int .i64 0, .int .i64 0, .slice none 0 0, .int .i64 0, .int .i64 0, .int .i64 0]) ∧ (Blk w220 g16 40 [.int .i64 (((spec_StepChest o v92).1).State), .int .i64 (((spec_StepChest o v92).1).Key), .slice A102 n103 c104, .int .i64 (((spec_StepChest o v92).1).Dust), .int .i64 (((spec_StepChest o v92).1).Laid), .int .i64 (((spec_StepChest o v92).1).Given)]) ∧ (SlO w220 w.heap.size encI 1 3 A102 n103 c104 (((spec_StepChest o v92).1).Stack)) ∧ (¬ A102 = some ⟨gc, 0, none⟩) ∧ (¬ A102 = some ⟨g1, 0, none⟩) ∧ (¬ A102 = some ⟨g16, 0, none⟩) ∧ ((0 ≤ n - 1 ∧ n - 1 ≤ 25) ∧ ChestOK ((spec_StepChest o v92).1) ∧ tc ≤ t93 ∧ t93 ≤ tc + 4 + 12 * (25 - (n - 1))) from ⟨hB225, ((hm133).kp hk221 (fun e' => by have e'' : gc = g16 := e'; omega)), ((hm54).kp hR215 (fun b_ hb e' => by have e'' : b_ = gc := e'; omega)).kp hk221 (fun b_ hb e' => by have e'' : b_ = g16 := e'; omega), ((hm55).kp hR215 (fun e' => by have e'' : g1 = gc := e'; omega)).kp hk221 (fun e' => by have e'' : g1 = g16 := e'; omega), (hb223), (((hm130).kp hk221 (fun b_ hb e' => by have e'' : b_ = g16 := e'; have := (hm130).base_le hb; omega)).down (by omega)), (fun e' => by have := ((hm130).kp hk221 (fun b_ hb e' => by have e'' : b_ = g16 := e'; have := (hm130).base_le hb; omega)).base_le e'; omega), (fun e' => by have := ((hm130).kp hk221 (fun b_ hb e' => by have e'' : b_ = g16 := e'; have := (hm130).base_le hb; omega)).base_le e'; omega), (fun e' => by have := ((hm130).kp hk221 (fun b_ hb e' => by have e'' : b_ = g16 := e'; have := (hm130).base_le hb; omega)).base_le e'; omega), ?_⟩), ?_⟩
        · exact (z_c___spec_l1Cur__chest_226 Lc tc sc nc htc hbdc hlec v33 t34 s35 ht37 hq38 n o t z n41 c41 hi58 hl65 hq67 hq68 hq69 hq70 h71 v92 t93 s94 n103 ht96 hl109 hl110 hq111 h219)
        · exact (z_c___spec_l1Cur__chest_227 Lc tc sc nc htc hbdc hlec v33 t34 s35 ht37 hq38 n o t z n41 c41 hi58 hl65 hq67 hq68 hq69 hq70 h71 v92 t93 s94 n103 ht96 hl109 hl110 hq111 h219)
      · refine W.skip ?_
        refine W.regS (SR.q' (r_mv (v := .int .i64 _) rfl) <| SR.q' (r_sub rfl rfl (by omega)) <| SR.q' (r_as (v := .int .i64 _) rfl) <| SR.nil ?_)
        refine ⟨(n - 1, o, t93, s94, A41, n41, c41), _, rfl, ⟨rfl, rfl, rfl, rfl, trivial⟩, (show (Kp (fun b_ => b_ = gc) w w214) ∧ (Blk w214 gc ec [.slice Ac nc cc, .int .i64 t93, .int .u64 s94]) ∧ (SlR w214 Bc encB 1 Ac nc cc Lc) ∧ (Blk w214 g1 40 [.int .i64 0, .int .i64 0, .slice none 0 0, .int .i64 0, .int .i64 0, .int .i64 0]) ∧ (Blk w214 g16 40 [.int .i64 o.State, .int .i64 o.Key, .slice A41 n41 c41, .int .i64 o.Dust, .int .i64 o.Laid, .int .i64 o.Given]) ∧ (SlO w214 w.heap.size encI 1 3 A41 n41 c41 o.Stack) ∧ (¬ A41 = some ⟨gc, 0, none⟩) ∧ (¬ A41 = some ⟨g1, 0, none⟩) ∧ (¬ A41 = some ⟨g16, 0, none⟩) ∧ ((0 ≤ n - 1 ∧ n - 1 ≤ 25) ∧ ChestOK o ∧ tc ≤ t93 ∧ t93 ≤ tc + 4 + 12 * (25 - (n - 1))) from ⟨hB218, (hm133), (hm54).kp hR215 (fun b_ hb e' => by have e'' : b_ = gc := e'; omega), (hm55).kp hR215 (fun e' => by have e'' : g1 = gc := e'; omega), ((hm56).kp hR215 (fun e' => by have e'' : g16 = gc := e'; omega)), ((hO57).kp hR215 (fun b_ hb e' => hd59 (by have e'' : b_ = gc := e'; rw [← e'']; exact hb))), hd59, hd60, hd61, ?_⟩), ?_⟩
        · exact (z_c___spec_l1Cur__chest_228 Lc tc sc nc htc hbdc hlec v33 t34 s35 ht37 hq38 n o t z n41 c41 hi58 hl65 hq67 hq68 hq69 hq70 h71 v92 t93 s94 n103 ht96 hl109 hl110 hq111 h219)
        · exact (z_c___spec_l1Cur__chest_229 Lc tc sc nc htc hbdc hlec v33 t34 s35 ht37 hq38 n o t z n41 c41 hi58 hl65 hq67 hq68 hq69 hq70 h71 v92 t93 s94 n103 ht96 hl109 hl110 hq111 h219)
    · refine W.exit (xin_here ?_)
      refine W.seq ?_
      refine W.seq ?_
      refine W.regS (SR.q' (r_mv (v := .pointer (some _)) rfl) <| SR.call ent95 (c___spec_l1Cur__pick w50 Lc t z (hm53) ((hm54)) (by omega) (by omega) 32 (by first | omega | (simp only [List.length_append, List.length_cons, List.length_nil, List.length_take, List.length_drop]; omega))) rfl ?_)
      rintro e w230 ⟨v232, t233, s234, rfl, hb235, ht236, hq237, hk231⟩
      refine ⟨_, rfl, ?_⟩
      have hz238 := hk231.size
      have hB239 := hB51.step hk231 (fun i_ hi_ e' => e')
      refine SR.nil ?_
      refine W.block ?_
      refine W.seq ?_
      refine W.regS (SR.q' (r_eq rfl rfl) <| SR.q' (r_as (v := .bool _) rfl) <| SR.nil ?_)
      refine W.cond_d rfl (fun h240 => ?_) (fun h240 => ?_)
      · refine W.regS (SR.q' (r_mv (v := .pointer (some _)) rfl) <| SR.call ent95 (c___spec_l1Cur__pick w230 Lc t233 s234 (hb235) (((hm54).kp hk231 (fun b_ hb e' => by have e'' : b_ = gc := e'; omega))) (by omega) (by omega) 4 (by first | omega | (simp only [List.length_append, List.length_cons, List.length_nil, List.length_take, List.length_drop]; omega))) rfl ?_)
        rintro e w241 ⟨v243, t244, s245, rfl, hb246, ht247, hq248, hk242⟩
        refine ⟨_, rfl, ?_⟩
        have hz249 := hk242.size
        have hB250 := hB239.step hk242 (fun i_ hi_ e' => e')
        refine SR.q' (r_fa fa40_0 rfl) <| SR.store (o := 0) (vs := [.int .i64 v243]) sca3.2 rfl rfl rfl rfl (((hm56).kp hk231 (fun e' => by have e'' : g16 = gc := e'; omega)).kp hk242 (fun e' => by have e'' : g16 = gc := e'; omega)) (Nat.le_of_ble_eq_true rfl) rfl ?_
        intro w251 hk252 hs253 hb254
        have hz255 := hk252.size
        have hB256 := hB250.new hk252 (by omega)
        refine SR.nil ?_
        refine W.seq ?_
        refine W.regS (SR.q' (r_lda (l := [.int .i64 v243, .int .i64 o.Key, .slice A41 n41 c41, .int .i64 o.Dust, .int .i64 o.Laid, .int .i64 o.Given]) agg40 rfl (fun _ _ hu => (hb254).cell hu) rfl) <| SR.store (o := 0) (vs := [.int .i64 v243, .int .i64 o.Key, .slice A41 n41 c41, .int .i64 o.Dust, .int .i64 o.Laid, .int .i64 o.Given]) agg40.2 rfl rfl rfl rfl ((((hm55).kp hk231 (fun e' => by have e'' : g1 = gc := e'; omega)).kp hk242 (fun e' => by have e'' : g1 = gc := e'; omega)).kp hk252 (fun e' => by have e'' : g1 = g16 := e'; omega)) (Nat.le_of_ble_eq_true rfl) rfl ?_)
        intro w257 hk258 hs259 hb260
        have hz261 := hk258.size
        have hB262 := hB256.new hk258 (by omega)
        refine SR.nil ?_
        refine W.ret ?_
        refine retC rfl rfl agg40 (hb260) rfl ?_
        exact ⟨A41, n41, c41, (⟨v243, o.Key, o.Stack, o.Dust, o.Laid, o.Given⟩ : Chest), t244, s245, eR (eA (eC (eI (z_c___spec_l1Cur__chest_264 Lc tc sc nc htc hbdc hlec v33 t34 s35 ht37 hq38 n o t z n41 c41 hi58 hl65 hq67 hq68 hq69 hq70 h71 v232 t233 s234 ht236 hq237 h240 v243 t244 s245 ht247 hq248)) (eC (eI (z_c___spec_l1Cur__chest_265 Lc tc sc nc htc hbdc hlec v33 t34 s35 ht37 hq38 n o t z n41 c41 hi58 hl65 hq67 hq68 hq69 hq70 h71 v232 t233 s234 ht236 hq237 h240 v243 t244 s245 ht247 hq248)) (eC rfl (eC (eI (z_c___spec_l1Cur__chest_266 Lc tc sc nc htc hbdc hlec v33 t34 s35 ht37 hq38 n o t z n41 c41 hi58 hl65 hq67 hq68 hq69 hq70 h71 v232 t233 s234 ht236 hq237 h240 v243 t244 s245 ht247 hq248)) (eC (eI (z_c___spec_l1Cur__chest_267 Lc tc sc nc htc hbdc hlec v33 t34 s35 ht37 hq38 n o t z n41 c41 hi58 hl65 hq67 hq68 hq69 hq70 h71 v232 t233 s234 ht236 hq237 h240 v243 t244 s245 ht247 hq248)) (eC (eI (z_c___spec_l1Cur__chest_268 Lc tc sc nc htc hbdc hlec v33 t34 s35 ht37 hq38 n o t z n41 c41 hi58 hl65 hq67 hq68 hq69 hq70 h71 v232 t233 s234 ht236 hq237 h240 v243 t244 s245 ht247 hq248)) rfl))))))), (SlO.eqv ((((((hO57).kp hk231 (fun b_ hb e' => hd59 (by have e'' : b_ = gc := e'; rw [← e'']; exact hb))).kp hk242 (fun b_ hb e' => hd59 (by have e'' : b_ = gc := e'; rw [← e'']; exact hb))).kp hk252 (fun b_ hb e' => hd61 (by have e'' : b_ = g16 := e'; rw [← e'']; exact hb))).kp hk258 (fun b_ hb e' => hd60 (by have e'' : b_ = g1 := e'; rw [← e'']; exact hb))).down (by omega)) (z_c___spec_l1Cur__chest_263 Lc tc sc nc htc hbdc hlec v33 t34 s35 ht37 hq38 n o t z n41 c41 hi58 hl65 hq67 hq68 hq69 hq70 h71 v232 t233 s234 ht236 hq237 h240 v243 t244 s245 ht247 hq248)), (((hb246).kp hk252 (fun e' => by have e'' : gc = g16 := e'; omega)).kp hk258 (fun e' => by have e'' : gc = g1 := e'; omega)), ⟨by omega, by omega⟩, (z_c___spec_l1Cur__chest_269 Lc tc sc nc htc hbdc hlec v33 t34 s35 ht37 hq38 n o t z n41 c41 hi58 hl65 hq67 hq68 hq69 hq70 h71 v232 t233 s234 ht236 hq237 h240 v243 t244 s245 ht247 hq248), hB262⟩
      · refine W.seq ?_
        refine W.regS (SR.q' (r_eq rfl rfl) <| SR.q' (r_as (v := .bool _) rfl) <| SR.nil ?_)
        refine W.cond_d rfl (fun h270 => ?_) (fun h270 => ?_)
        · refine W.regA (Kp (fun b_ => b_ = gc ∨ b_ = g16) w230) (fun f' w' => ∃ (g331 : Nat), ∃ (v342 : Int), ∃ (t343 : Int), ∃ (s344 : Int), At f' [(2, .pointer (some ((⟨g1, 0, none⟩ : Addr)))), (3, .pointer (some ((⟨g16, 0, none⟩ : Addr))))] ∧ (Kp (fun b_ => b_ = gc ∨ b_ = g16) w230 w') ∧ (Blk w' gc ec [.slice Ac nc cc, .int .i64 t343, .int .u64 s344]) ∧ (Blk w' g16 40 [.int .i64 o.State, .int .i64 o.Key, .slice A41 n41 c41, .int .i64 o.Dust, .int .i64 (o.Laid + v342), .int .i64 o.Given]) ∧ (t233 ≤ t343 ∧ t343 ≤ t233 + 2) ∧ (v342 ∈ ([1, (-1)] : List Int)) ∧ (((-1) : Int) ≤ v342 ∧ v342 ≤ 1)) mo ?_ ?_
          · intro w327 hk328
            have hz329 := hk328.size
            have hB330 := hB239.lo hk328
            refine AH.take 0 rfl (by kernel_rfl) trivial ((Kp.refl w230 : Kp (fun b_ => b_ = gc ∨ b_ = g16) w230 w230).lo hk328) (fun w' hw' => r_fa fa40_4 rfl) <| AH.take 2 rfl (by kernel_rfl) trivial ((Kp.refl w230 : Kp (fun b_ => b_ = gc ∨ b_ = g16) w230 w230).lo hk328) (fun w' hw' => r_mv (v := .pointer (some _)) rfl) <| AH.br [1, 3] (by kernel_rfl) rfl ⟨Br.mk' rfl trivial ?_, Br.mk' rfl trivial ?_, trivial⟩
            · refine SR.q' (r_ld (v := .int .i64 o.Laid) sca3 rfl ((((hm56).kp hk231 (fun e' => by have e'' : g16 = gc := e'; omega)).lo hk328).cell rfl)) ?_
              refine SR.nil ⟨(Kp.refl w230 : Kp (fun b_ => b_ = gc ∨ b_ = g16) w230 w230).lo hk328, _, rfl, ?_⟩
              refine AH.br [3] (by kernel_rfl) rfl ⟨Br.mk' rfl trivial ?_, trivial⟩
              refine SR.lit (vs := [.int .i64 1, .int .i64 (-1)]) (L := ([1, (-1)] : List Int)) (enc := encI) tel38 (fun _ => rfl) rfl rfl rfl (by decide) ?_
              intro g331 w332 hg333 hk334 hO335
              have hz336 := hk334.size
              have hB337 := hB330.lo hk334
              have hS338 := ((Kp.refl w230 : Kp (fun b_ => b_ = gc ∨ b_ = g16) w230 w230).lo hk328).lo hk334
              have hd339 : ¬ A41 = some ⟨g331, 0, none⟩ := fun e' => by have := (((hO57).kp hk231 (fun b_ hb e' => hd59 (by have e'' : b_ = gc := e'; rw [← e'']; exact hb))).lo hk328).base_le e'; omega
              refine SR.nil ⟨hS338, _, rfl, ?_⟩
              refine AH.br [4] (by kernel_rfl) rfl ⟨Br.mk' rfl trivial ?_, trivial⟩
              refine SR.call ent54 (c___spec_l1Cur__among w332 Lc t233 s234 (((hb235).lo hk328).lo hk334) (((((hm54).kp hk231 (fun b_ hb e' => by have e'' : b_ = gc := e'; omega)).lo hk328).lo hk334)) (by omega) (by omega) ([1, (-1)] : List Int) (((hO335).rd)) (by omega) (by omega) (show ¬ g331 = gc from by omega)) rfl ?_
              rintro e w340 ⟨v342, t343, s344, rfl, hb345, ht346, hq347, hk341⟩
              refine ⟨_, rfl, ?_⟩
              have hz348 := hk341.size
              have hB349 := hB337.step hk341 (fun i_ hi_ e' => e')
              have hS350 := (hS338).step hk341 (fun _ _ e => .inl e)
              have hq351 : ((-1) : Int) ≤ v342 ∧ v342 ≤ 1 := mem_rngB (lo := (-1)) (hi := 1) (by decide) hq347
              refine SR.nil ⟨hS350, _, rfl, ?_⟩
              refine AH.take 5 rfl (by kernel_rfl) trivial (hS350) (fun w' hw' => r_add rfl rfl (by omega)) <| AH.take 6 rfl (by kernel_rfl) trivial (hS350) (fun w' hw' => r_fa fa40_4 rfl) <| AH.br [7] (by kernel_rfl) rfl ⟨Br.mk' rfl trivial ?_, trivial⟩
              refine SR.store (o := 4) (vs := [.int .i64 (o.Laid + v342)]) sca3.2 rfl rfl rfl rfl (((((hm56).kp hk231 (fun e' => by have e'' : g16 = gc := e'; omega)).lo hk328).lo hk334).kp hk341 (fun e' => by have e'' : g16 = gc := e'; omega)) (Nat.le_of_ble_eq_true rfl) rfl ?_
              intro w352 hk353 hs354 hb355
              have hz356 := hk353.size
              have hB357 := hB349.new hk353 (by omega)
              have hS358 := (hS350).step hk353 (fun _ _ e => .inr (e))
              refine SR.nil ⟨hS358, _, rfl, ?_⟩
              refine AH.done (by kernel_rfl) ?_
              exact ⟨g331, v342, t343, s344, ⟨rfl, rfl, trivial⟩, hS358, ((hb345).kp hk353 (fun e' => by have e'' : gc = g16 := e'; omega)), (hb355), ht346, hq347, hq351⟩
            · refine SR.lit (vs := [.int .i64 1, .int .i64 (-1)]) (L := ([1, (-1)] : List Int)) (enc := encI) tel38 (fun _ => rfl) rfl rfl rfl (by decide) ?_
              intro g361 w362 hg363 hk364 hO365
              have hz366 := hk364.size
              have hB367 := hB330.lo hk364
              have hS368 := ((Kp.refl w230 : Kp (fun b_ => b_ = gc ∨ b_ = g16) w230 w230).lo hk328).lo hk364
              have hd369 : ¬ A41 = some ⟨g361, 0, none⟩ := fun e' => by have := (((hO57).kp hk231 (fun b_ hb e' => hd59 (by have e'' : b_ = gc := e'; rw [← e'']; exact hb))).lo hk328).base_le e'; omega
              refine SR.nil ⟨hS368, _, rfl, ?_⟩
              refine AH.br [1, 4] (by kernel_rfl) rfl ⟨Br.mk' rfl trivial ?_, Br.mk' rfl trivial ?_, trivial⟩
              · refine SR.q' (r_ld (v := .int .i64 o.Laid) sca3 rfl (((((hm56).kp hk231 (fun e' => by have e'' : g16 = gc := e'; omega)).lo hk328).lo hk364).cell rfl)) ?_
                refine SR.nil ⟨hS368, _, rfl, ?_⟩
                refine AH.br [4] (by kernel_rfl) rfl ⟨Br.mk' rfl trivial ?_, trivial⟩
                refine SR.call ent54 (c___spec_l1Cur__among w362 Lc t233 s234 (((hb235).lo hk328).lo hk364) (((((hm54).kp hk231 (fun b_ hb e' => by have e'' : b_ = gc := e'; omega)).lo hk328).lo hk364)) (by omega) (by omega) ([1, (-1)] : List Int) (((hO365).rd)) (by omega) (by omega) (show ¬ g361 = gc from by omega)) rfl ?_
                rintro e w370 ⟨v372, t373, s374, rfl, hb375, ht376, hq377, hk371⟩
                refine ⟨_, rfl, ?_⟩
                have hz378 := hk371.size
                have hB379 := hB367.step hk371 (fun i_ hi_ e' => e')
                have hS380 := (hS368).step hk371 (fun _ _ e => .inl e)
                have hq381 : ((-1) : Int) ≤ v372 ∧ v372 ≤ 1 := mem_rngB (lo := (-1)) (hi := 1) (by decide) hq377
                refine SR.nil ⟨hS380, _, rfl, ?_⟩
                refine AH.take 5 rfl (by kernel_rfl) trivial (hS380) (fun w' hw' => r_add rfl rfl (by omega)) <| AH.take 6 rfl (by kernel_rfl) trivial (hS380) (fun w' hw' => r_fa fa40_4 rfl) <| AH.br [7] (by kernel_rfl) rfl ⟨Br.mk' rfl trivial ?_, trivial⟩
                refine SR.store (o := 4) (vs := [.int .i64 (o.Laid + v372)]) sca3.2 rfl rfl rfl rfl (((((hm56).kp hk231 (fun e' => by have e'' : g16 = gc := e'; omega)).lo hk328).lo hk364).kp hk371 (fun e' => by have e'' : g16 = gc := e'; omega)) (Nat.le_of_ble_eq_true rfl) rfl ?_
                intro w382 hk383 hs384 hb385
                have hz386 := hk383.size
                have hB387 := hB379.new hk383 (by omega)
                have hS388 := (hS380).step hk383 (fun _ _ e => .inr (e))
                refine SR.nil ⟨hS388, _, rfl, ?_⟩
                refine AH.done (by kernel_rfl) ?_
                exact ⟨g361, v372, t373, s374, ⟨rfl, rfl, trivial⟩, hS388, ((hb375).kp hk383 (fun e' => by have e'' : gc = g16 := e'; omega)), (hb385), ht376, hq377, hq381⟩
              · refine SR.call ent54 (c___spec_l1Cur__among w362 Lc t233 s234 (((hb235).lo hk328).lo hk364) (((((hm54).kp hk231 (fun b_ hb e' => by have e'' : b_ = gc := e'; omega)).lo hk328).lo hk364)) (by omega) (by omega) ([1, (-1)] : List Int) (((hO365).rd)) (by omega) (by omega) (show ¬ g361 = gc from by omega)) rfl ?_
                rintro e w389 ⟨v391, t392, s393, rfl, hb394, ht395, hq396, hk390⟩
                refine ⟨_, rfl, ?_⟩
                have hz397 := hk390.size
                have hB398 := hB367.step hk390 (fun i_ hi_ e' => e')
                have hS399 := (hS368).step hk390 (fun _ _ e => .inl e)
                have hq400 : ((-1) : Int) ≤ v391 ∧ v391 ≤ 1 := mem_rngB (lo := (-1)) (hi := 1) (by decide) hq396
                refine SR.nil ⟨hS399, _, rfl, ?_⟩
                refine AH.br [1] (by kernel_rfl) rfl ⟨Br.mk' rfl trivial ?_, trivial⟩
                refine SR.q' (r_ld (v := .int .i64 o.Laid) sca3 rfl ((((((hm56).kp hk231 (fun e' => by have e'' : g16 = gc := e'; omega)).lo hk328).lo hk364).kp hk390 (fun e' => by have e'' : g16 = gc := e'; omega)).cell rfl)) ?_
                refine SR.nil ⟨hS399, _, rfl, ?_⟩
                refine AH.take 5 rfl (by kernel_rfl) trivial (hS399) (fun w' hw' => r_add rfl rfl (by omega)) <| AH.take 6 rfl (by kernel_rfl) trivial (hS399) (fun w' hw' => r_fa fa40_4 rfl) <| AH.br [7] (by kernel_rfl) rfl ⟨Br.mk' rfl trivial ?_, trivial⟩
                refine SR.store (o := 4) (vs := [.int .i64 (o.Laid + v391)]) sca3.2 rfl rfl rfl rfl (((((hm56).kp hk231 (fun e' => by have e'' : g16 = gc := e'; omega)).lo hk328).lo hk364).kp hk390 (fun e' => by have e'' : g16 = gc := e'; omega)) (Nat.le_of_ble_eq_true rfl) rfl ?_
                intro w401 hk402 hs403 hb404
                have hz405 := hk402.size
                have hB406 := hB398.new hk402 (by omega)
                have hS407 := (hS399).step hk402 (fun _ _ e => .inr (e))
                refine SR.nil ⟨hS407, _, rfl, ?_⟩
                refine AH.done (by kernel_rfl) ?_
                exact ⟨g361, v391, t392, s393, ⟨rfl, rfl, trivial⟩, hS407, ((hb394).kp hk402 (fun e' => by have e'' : gc = g16 := e'; omega)), (hb404), ht395, hq396, hq400⟩
          rintro f408 w409 ⟨g331, v342, t343, s344, hat411, hR410, hm359, hm360, ht346, hq347, hq351⟩
          rw [← sets_of_at hat411]
          have hz412 := hR410.size
          have hB413 := hB239.step hR410 (fun i_ hi_ e' => e'.elim (fun e' => e') (fun e' => by have e'' : i_ = g16 := e'; exfalso; omega))
          refine W.seq ?_
          refine W.regS (SR.q' (r_lda (l := [.int .i64 o.State, .int .i64 o.Key, .slice A41 n41 c41, .int .i64 o.Dust, .int .i64 (o.Laid + v342), .int .i64 o.Given]) agg40 rfl (fun _ _ hu => (hm360).cell hu) rfl) <| SR.store (o := 0) (vs := [.int .i64 o.State, .int .i64 o.Key, .slice A41 n41 c41, .int .i64 o.Dust, .int .i64 (o.Laid + v342), .int .i64 o.Given]) agg40.2 rfl rfl rfl rfl (((hm55).kp hk231 (fun e' => by have e'' : g1 = gc := e'; omega)).kp hR410 (fun e' => e'.elim (fun e' => by have e'' : g1 = gc := e'; omega) (fun e' => by have e'' : g1 = g16 := e'; omega))) (Nat.le_of_ble_eq_true rfl) rfl ?_)
          intro w414 hk415 hs416 hb417
          have hz418 := hk415.size
          have hB419 := hB413.new hk415 (by omega)
          refine SR.nil ?_
          refine W.ret ?_
          refine retC rfl rfl agg40 (hb417) rfl ?_
          exact ⟨A41, n41, c41, (⟨o.State, o.Key, o.Stack, o.Dust, o.Laid + v342, o.Given⟩ : Chest), t343, s344, eR (eA (eC (eI (z_c___spec_l1Cur__chest_421 Lc tc sc nc htc hbdc hlec v33 t34 s35 ht37 hq38 n o t z n41 c41 hi58 hl65 hq67 hq68 hq69 hq70 h71 v232 t233 s234 ht236 hq237 h240 h270 v342 t343 s344 ht346 hq347 hq351)) (eC (eI (z_c___spec_l1Cur__chest_422 Lc tc sc nc htc hbdc hlec v33 t34 s35 ht37 hq38 n o t z n41 c41 hi58 hl65 hq67 hq68 hq69 hq70 h71 v232 t233 s234 ht236 hq237 h240 h270 v342 t343 s344 ht346 hq347 hq351)) (eC rfl (eC (eI (z_c___spec_l1Cur__chest_423 Lc tc sc nc htc hbdc hlec v33 t34 s35 ht37 hq38 n o t z n41 c41 hi58 hl65 hq67 hq68 hq69 hq70 h71 v232 t233 s234 ht236 hq237 h240 h270 v342 t343 s344 ht346 hq347 hq351)) (eC (eI (z_c___spec_l1Cur__chest_424 Lc tc sc nc htc hbdc hlec v33 t34 s35 ht37 hq38 n o t z n41 c41 hi58 hl65 hq67 hq68 hq69 hq70 h71 v232 t233 s234 ht236 hq237 h240 h270 v342 t343 s344 ht346 hq347 hq351)) (eC (eI (z_c___spec_l1Cur__chest_425 Lc tc sc nc htc hbdc hlec v33 t34 s35 ht37 hq38 n o t z n41 c41 hi58 hl65 hq67 hq68 hq69 hq70 h71 v232 t233 s234 ht236 hq237 h240 h270 v342 t343 s344 ht346 hq347 hq351)) rfl))))))), (SlO.eqv (((((hO57).kp hk231 (fun b_ hb e' => hd59 (by have e'' : b_ = gc := e'; rw [← e'']; exact hb))).kp hR410 (fun b_ hb e' => e'.elim (fun e' => hd59 (by have e'' : b_ = gc := e'; rw [← e'']; exact hb)) (fun e' => hd61 (by have e'' : b_ = g16 := e'; rw [← e'']; exact hb)))).kp hk415 (fun b_ hb e' => hd60 (by have e'' : b_ = g1 := e'; rw [← e'']; exact hb))).down (by omega)) (z_c___spec_l1Cur__chest_420 Lc tc sc nc htc hbdc hlec v33 t34 s35 ht37 hq38 n o t z n41 c41 hi58 hl65 hq67 hq68 hq69 hq70 h71 v232 t233 s234 ht236 hq237 h240 h270 v342 t343 s344 ht346 hq347 hq351)), ((hm359).kp hk415 (fun e' => by have e'' : gc = g1 := e'; omega)), ⟨by omega, by omega⟩, (z_c___spec_l1Cur__chest_426 Lc tc sc nc htc hbdc hlec v33 t34 s35 ht37 hq38 n o t z n41 c41 hi58 hl65 hq67 hq68 hq69 hq70 h71 v232 t233 s234 ht236 hq237 h240 h270 v342 t343 s344 ht346 hq347 hq351), hB419⟩
        · refine W.seq ?_
          refine W.regS (SR.q' (r_eq rfl rfl) <| SR.q' (r_as (v := .bool _) rfl) <| SR.nil ?_)
          refine W.cond_d rfl (fun h427 => ?_) (fun h427 => ?_)
          · refine W.seq ?_
            refine W.regA (Kp (fun b_ => b_ = gc ∨ A41 = some ⟨b_, 0, none⟩ ∨ b_ = g16) w230) (fun f' w' => ∃ (g556 : Nat), ∃ (v567 : Int), ∃ (t568 : Int), ∃ (s569 : Int), ∃ (g577 : Nat), ∃ (A587 : Option Addr), ∃ (c588 : Nat), At f' [(2, .pointer (some ((⟨g1, 0, none⟩ : Addr)))), (3, .pointer (some ((⟨g16, 0, none⟩ : Addr))))] ∧ (Kp (fun b_ => b_ = gc ∨ A41 = some ⟨b_, 0, none⟩ ∨ b_ = g16) w230 w') ∧ (SlO w' w.heap.size encI 1 3 A587 (n41 + 1) c588 (o.Stack ++ ([v567] : List Int))) ∧ (Blk w' gc ec [.slice Ac nc cc, .int .i64 t568, .int .u64 s569]) ∧ (Blk w' g16 40 [.int .i64 o.State, .int .i64 o.Key, .slice A587 (n41 + 1) c588, .int .i64 o.Dust, .int .i64 o.Laid, .int .i64 o.Given]) ∧ (¬ A587 = some ⟨gc, 0, none⟩) ∧ (¬ A587 = some ⟨g1, 0, none⟩) ∧ (¬ A587 = some ⟨g16, 0, none⟩) ∧ (t233 ≤ t568 ∧ t568 ≤ t233 + 2) ∧ (v567 ∈ ([0, 5, 1000] : List Int)) ∧ ((0 : Int) ≤ v567 ∧ v567 ≤ 1000)) mo ?_ ?_
            · intro w552 hk553
              have hz554 := hk553.size
              have hB555 := hB239.lo hk553
              refine AH.take 0 rfl (by kernel_rfl) trivial ((Kp.refl w230 : Kp (fun b_ => b_ = gc ∨ A41 = some ⟨b_, 0, none⟩ ∨ b_ = g16) w230 w230).lo hk553) (fun w' hw' => r_fa fa40_2 rfl) <| AH.take 2 rfl (by kernel_rfl) trivial ((Kp.refl w230 : Kp (fun b_ => b_ = gc ∨ A41 = some ⟨b_, 0, none⟩ ∨ b_ = g16) w230 w230).lo hk553) (fun w' hw' => r_mv (v := .pointer (some _)) rfl) <| AH.br [1, 3] (by kernel_rfl) rfl ⟨Br.mk' rfl trivial ?_, Br.mk' rfl trivial ?_, trivial⟩
              · refine SR.q' (r_ld (v := .slice A41 n41 c41) sca38 rfl ((((hm56).kp hk231 (fun e' => by have e'' : g16 = gc := e'; omega)).lo hk553).cell rfl)) ?_
                refine SR.nil ⟨(Kp.refl w230 : Kp (fun b_ => b_ = gc ∨ A41 = some ⟨b_, 0, none⟩ ∨ b_ = g16) w230 w230).lo hk553, _, rfl, ?_⟩
                refine AH.br [3] (by kernel_rfl) rfl ⟨Br.mk' rfl trivial ?_, trivial⟩
                refine SR.lit (vs := [.int .i64 0, .int .i64 5, .int .i64 1000]) (L := ([0, 5, 1000] : List Int)) (enc := encI) tel38 (fun _ => rfl) rfl rfl rfl (by decide) ?_
                intro g556 w557 hg558 hk559 hO560
                have hz561 := hk559.size
                have hB562 := hB555.lo hk559
                have hS563 := ((Kp.refl w230 : Kp (fun b_ => b_ = gc ∨ A41 = some ⟨b_, 0, none⟩ ∨ b_ = g16) w230 w230).lo hk553).lo hk559
                have hd564 : ¬ A41 = some ⟨g556, 0, none⟩ := fun e' => by have := (((hO57).kp hk231 (fun b_ hb e' => hd59 (by have e'' : b_ = gc := e'; rw [← e'']; exact hb))).lo hk553).base_le e'; omega
                refine SR.nil ⟨hS563, _, rfl, ?_⟩
                refine AH.br [4] (by kernel_rfl) rfl ⟨Br.mk' rfl trivial ?_, trivial⟩
                refine SR.call ent54 (c___spec_l1Cur__among w557 Lc t233 s234 (((hb235).lo hk553).lo hk559) (((((hm54).kp hk231 (fun b_ hb e' => by have e'' : b_ = gc := e'; omega)).lo hk553).lo hk559)) (by omega) (by omega) ([0, 5, 1000] : List Int) (((hO560).rd)) (by omega) (by omega) (show ¬ g556 = gc from by omega)) rfl ?_
                rintro e w565 ⟨v567, t568, s569, rfl, hb570, ht571, hq572, hk566⟩
                refine ⟨_, rfl, ?_⟩
                have hz573 := hk566.size
                have hB574 := hB562.step hk566 (fun i_ hi_ e' => e')
                have hS575 := (hS563).step hk566 (fun _ _ e => .inl e)
                have hq576 : (0 : Int) ≤ v567 ∧ v567 ≤ 1000 := mem_rngB (lo := 0) (hi := 1000) (by decide) hq572
                refine SR.nil ⟨hS575, _, rfl, ?_⟩
                refine AH.br [5] (by kernel_rfl) rfl ⟨Br.mk' rfl trivial ?_, trivial⟩
                refine SR.lit (vs := [.int .i64 v567]) (L := ([v567] : List Int)) (enc := encI) tel38 (fun _ => rfl) rfl rfl rfl (by decide) ?_
                intro g577 w578 hg579 hk580 hO581
                have hz582 := hk580.size
                have hB583 := hB574.lo hk580
                have hS584 := (hS575).lo hk580
                have hd585 : ¬ A41 = some ⟨g577, 0, none⟩ := fun e' => by have := (((((hO57).kp hk231 (fun b_ hb e' => hd59 (by have e'' : b_ = gc := e'; rw [← e'']; exact hb))).lo hk553).lo hk559).kp hk566 (fun b_ hb e' => hd59 (by have e'' : b_ = gc := e'; rw [← e'']; exact hb))).base_le e'; omega
                have hd586 : ¬ (some (⟨g556, 0, none⟩ : Addr)) = some ⟨g577, 0, none⟩ := fun e' => by have := ((hO560).kp hk566 (fun b_ hb e' => by have e'' : b_ = gc := e'; have := (hO560).base_le hb; omega)).base_le e'; omega
                refine SR.nil ⟨hS584, _, rfl, ?_⟩
                refine AH.br [6] (by kernel_rfl) rfl ⟨Br.mk' rfl trivial ?_, trivial⟩
                refine SR.app tel38 rfl rfl ((((((hO57).kp hk231 (fun b_ hb e' => hd59 (by have e'' : b_ = gc := e'; rw [← e'']; exact hb))).lo hk553).lo hk559).kp hk566 (fun b_ hb e' => hd59 (by have e'' : b_ = gc := e'; rw [← e'']; exact hb))).lo hk580) ((hO581).rd) (fun _ => rfl) (by omega) (by omega) ?_
                intro A587 c588 w589 hk590 hO591 hN592
                have hz593 := hk590.size
                have hB594 := hB583.step hk590 (fun i_ hi_ e' => by have := (((((((hO57).kp hk231 (fun b_ hb e' => hd59 (by have e'' : b_ = gc := e'; rw [← e'']; exact hb))).lo hk553).lo hk559).kp hk566 (fun b_ hb e' => hd59 (by have e'' : b_ = gc := e'; rw [← e'']; exact hb))).lo hk580)).base_le e'; first | omega | (exfalso; omega) | exact e' | exact .inl e' | exact .inr e')
                have hS595 := (hS584).step hk590 (fun _ _ e => .inr (.inl e))
                have hd596 : ¬ A587 = some ⟨gc, 0, none⟩ := fun e' => (hN592 gc e').elim (fun h => hd59 (h.trans e')) (fun h => by have := ((hb570).lo hk580).lt; omega)
                have hd597 : ¬ A587 = some ⟨g1, 0, none⟩ := fun e' => (hN592 g1 e').elim (fun h => hd60 (h.trans e')) (fun h => by have := ((((((hm55).kp hk231 (fun e' => by have e'' : g1 = gc := e'; omega)).lo hk553).lo hk559).kp hk566 (fun e' => by have e'' : g1 = gc := e'; omega)).lo hk580).lt; omega)
                have hd598 : ¬ A587 = some ⟨g16, 0, none⟩ := fun e' => (hN592 g16 e').elim (fun h => hd61 (h.trans e')) (fun h => by have := ((((((hm56).kp hk231 (fun e' => by have e'' : g16 = gc := e'; omega)).lo hk553).lo hk559).kp hk566 (fun e' => by have e'' : g16 = gc := e'; omega)).lo hk580).lt; omega)
                refine SR.nil ⟨hS595, _, rfl, ?_⟩
                refine AH.take 7 rfl (by kernel_rfl) trivial (hS595) (fun w' hw' => r_fa fa40_2 rfl) <| AH.br [8] (by kernel_rfl) rfl ⟨Br.mk' rfl trivial ?_, trivial⟩
                refine SR.store (o := 2) (vs := [.slice A587 (n41 + 1) c588]) sca38.2 rfl rfl rfl rfl (((((((hm56).kp hk231 (fun e' => by have e'' : g16 = gc := e'; omega)).lo hk553).lo hk559).kp hk566 (fun e' => by have e'' : g16 = gc := e'; omega)).lo hk580).kp hk590 (fun e' => hd61 e')) (Nat.le_of_ble_eq_true rfl) rfl ?_
                intro w601 hk602 hs603 hb604
                have hz605 := hk602.size
                have hB606 := hB594.new hk602 (by omega)
                have hS607 := (hS595).step hk602 (fun _ _ e => .inr (.inr (e)))
                refine SR.nil ⟨hS607, _, rfl, ?_⟩
                refine AH.done (by kernel_rfl) ?_
                exact ⟨g556, v567, t568, s569, g577, A587, c588, ⟨rfl, rfl, trivial⟩, hS607, ((hO591).kp hk602 (fun b_ hb e' => hd598 (by have e'' : b_ = g16 := e'; rw [← e'']; exact hb))), ((((hb570).lo hk580).kp hk590 (fun e' => hd59 e')).kp hk602 (fun e' => by have e'' : gc = g16 := e'; omega)), (hb604), hd596, hd597, hd598, ht571, hq572, hq576⟩
              · refine SR.lit (vs := [.int .i64 0, .int .i64 5, .int .i64 1000]) (L := ([0, 5, 1000] : List Int)) (enc := encI) tel38 (fun _ => rfl) rfl rfl rfl (by decide) ?_
                intro g614 w615 hg616 hk617 hO618
                have hz619 := hk617.size
                have hB620 := hB555.lo hk617
                have hS621 := ((Kp.refl w230 : Kp (fun b_ => b_ = gc ∨ A41 = some ⟨b_, 0, none⟩ ∨ b_ = g16) w230 w230).lo hk553).lo hk617
                have hd622 : ¬ A41 = some ⟨g614, 0, none⟩ := fun e' => by have := (((hO57).kp hk231 (fun b_ hb e' => hd59 (by have e'' : b_ = gc := e'; rw [← e'']; exact hb))).lo hk553).base_le e'; omega
                refine SR.nil ⟨hS621, _, rfl, ?_⟩
                refine AH.br [1, 4] (by kernel_rfl) rfl ⟨Br.mk' rfl trivial ?_, Br.mk' rfl trivial ?_, trivial⟩
                · refine SR.q' (r_ld (v := .slice A41 n41 c41) sca38 rfl (((((hm56).kp hk231 (fun e' => by have e'' : g16 = gc := e'; omega)).lo hk553).lo hk617).cell rfl)) ?_
                  refine SR.nil ⟨hS621, _, rfl, ?_⟩
                  refine AH.br [4] (by kernel_rfl) rfl ⟨Br.mk' rfl trivial ?_, trivial⟩
                  refine SR.call ent54 (c___spec_l1Cur__among w615 Lc t233 s234 (((hb235).lo hk553).lo hk617) (((((hm54).kp hk231 (fun b_ hb e' => by have e'' : b_ = gc := e'; omega)).lo hk553).lo hk617)) (by omega) (by omega) ([0, 5, 1000] : List Int) (((hO618).rd)) (by omega) (by omega) (show ¬ g614 = gc from by omega)) rfl ?_
                  rintro e w623 ⟨v625, t626, s627, rfl, hb628, ht629, hq630, hk624⟩
                  refine ⟨_, rfl, ?_⟩
                  have hz631 := hk624.size
                  have hB632 := hB620.step hk624 (fun i_ hi_ e' => e')
                  have hS633 := (hS621).step hk624 (fun _ _ e => .inl e)
                  have hq634 : (0 : Int) ≤ v625 ∧ v625 ≤ 1000 := mem_rngB (lo := 0) (hi := 1000) (by decide) hq630
                  refine SR.nil ⟨hS633, _, rfl, ?_⟩
                  refine AH.br [5] (by kernel_rfl) rfl ⟨Br.mk' rfl trivial ?_, trivial⟩
                  refine SR.lit (vs := [.int .i64 v625]) (L := ([v625] : List Int)) (enc := encI) tel38 (fun _ => rfl) rfl rfl rfl (by decide) ?_
                  intro g635 w636 hg637 hk638 hO639
                  have hz640 := hk638.size
                  have hB641 := hB632.lo hk638
                  have hS642 := (hS633).lo hk638
                  have hd643 : ¬ A41 = some ⟨g635, 0, none⟩ := fun e' => by have := (((((hO57).kp hk231 (fun b_ hb e' => hd59 (by have e'' : b_ = gc := e'; rw [← e'']; exact hb))).lo hk553).lo hk617).kp hk624 (fun b_ hb e' => hd59 (by have e'' : b_ = gc := e'; rw [← e'']; exact hb))).base_le e'; omega
                  have hd644 : ¬ (some (⟨g614, 0, none⟩ : Addr)) = some ⟨g635, 0, none⟩ := fun e' => by have := ((hO618).kp hk624 (fun b_ hb e' => by have e'' : b_ = gc := e'; have := (hO618).base_le hb; omega)).base_le e'; omega
                  refine SR.nil ⟨hS642, _, rfl, ?_⟩
                  refine AH.br [6] (by kernel_rfl) rfl ⟨Br.mk' rfl trivial ?_, trivial⟩
                  refine SR.app tel38 rfl rfl ((((((hO57).kp hk231 (fun b_ hb e' => hd59 (by have e'' : b_ = gc := e'; rw [← e'']; exact hb))).lo hk553).lo hk617).kp hk624 (fun b_ hb e' => hd59 (by have e'' : b_ = gc := e'; rw [← e'']; exact hb))).lo hk638) ((hO639).rd) (fun _ => rfl) (by omega) (by omega) ?_
                  intro A645 c646 w647 hk648 hO649 hN650
                  have hz651 := hk648.size
                  have hB652 := hB641.step hk648 (fun i_ hi_ e' => by have := (((((((hO57).kp hk231 (fun b_ hb e' => hd59 (by have e'' : b_ = gc := e'; rw [← e'']; exact hb))).lo hk553).lo hk617).kp hk624 (fun b_ hb e' => hd59 (by have e'' : b_ = gc := e'; rw [← e'']; exact hb))).lo hk638)).base_le e'; first | omega | (exfalso; omega) | exact e' | exact .inl e' | exact .inr e')
                  have hS653 := (hS642).step hk648 (fun _ _ e => .inr (.inl e))
                  have hd654 : ¬ A645 = some ⟨gc, 0, none⟩ := fun e' => (hN650 gc e').elim (fun h => hd59 (h.trans e')) (fun h => by have := ((hb628).lo hk638).lt; omega)
                  have hd655 : ¬ A645 = some ⟨g1, 0, none⟩ := fun e' => (hN650 g1 e').elim (fun h => hd60 (h.trans e')) (fun h => by have := ((((((hm55).kp hk231 (fun e' => by have e'' : g1 = gc := e'; omega)).lo hk553).lo hk617).kp hk624 (fun e' => by have e'' : g1 = gc := e'; omega)).lo hk638).lt; omega)
                  have hd656 : ¬ A645 = some ⟨g16, 0, none⟩ := fun e' => (hN650 g16 e').elim (fun h => hd61 (h.trans e')) (fun h => by have := ((((((hm56).kp hk231 (fun e' => by have e'' : g16 = gc := e'; omega)).lo hk553).lo hk617).kp hk624 (fun e' => by have e'' : g16 = gc := e'; omega)).lo hk638).lt; omega)
                  refine SR.nil ⟨hS653, _, rfl, ?_⟩
                  refine AH.take 7 rfl (by kernel_rfl) trivial (hS653) (fun w' hw' => r_fa fa40_2 rfl) <| AH.br [8] (by kernel_rfl) rfl ⟨Br.mk' rfl trivial ?_, trivial⟩
                  refine SR.store (o := 2) (vs := [.slice A645 (n41 + 1) c646]) sca38.2 rfl rfl rfl rfl (((((((hm56).kp hk231 (fun e' => by have e'' : g16 = gc := e'; omega)).lo hk553).lo hk617).kp hk624 (fun e' => by have e'' : g16 = gc := e'; omega)).lo hk638).kp hk648 (fun e' => hd61 e')) (Nat.le_of_ble_eq_true rfl) rfl ?_
                  intro w659 hk660 hs661 hb662
                  have hz663 := hk660.size
                  have hB664 := hB652.new hk660 (by omega)
                  have hS665 := (hS653).step hk660 (fun _ _ e => .inr (.inr (e)))
                  refine SR.nil ⟨hS665, _, rfl, ?_⟩
                  refine AH.done (by kernel_rfl) ?_
                  exact ⟨g614, v625, t626, s627, g635, A645, c646, ⟨rfl, rfl, trivial⟩, hS665, ((hO649).kp hk660 (fun b_ hb e' => hd656 (by have e'' : b_ = g16 := e'; rw [← e'']; exact hb))), ((((hb628).lo hk638).kp hk648 (fun e' => hd59 e')).kp hk660 (fun e' => by have e'' : gc = g16 := e'; omega)), (hb662), hd654, hd655, hd656, ht629, hq630, hq634⟩
                · refine SR.call ent54 (c___spec_l1Cur__among w615 Lc t233 s234 (((hb235).lo hk553).lo hk617) (((((hm54).kp hk231 (fun b_ hb e' => by have e'' : b_ = gc := e'; omega)).lo hk553).lo hk617)) (by omega) (by omega) ([0, 5, 1000] : List Int) (((hO618).rd)) (by omega) (by omega) (show ¬ g614 = gc from by omega)) rfl ?_
                  rintro e w669 ⟨v671, t672, s673, rfl, hb674, ht675, hq676, hk670⟩
                  refine ⟨_, rfl, ?_⟩
                  have hz677 := hk670.size
                  have hB678 := hB620.step hk670 (fun i_ hi_ e' => e')
                  have hS679 := (hS621).step hk670 (fun _ _ e => .inl e)
                  have hq680 : (0 : Int) ≤ v671 ∧ v671 ≤ 1000 := mem_rngB (lo := 0) (hi := 1000) (by decide) hq676
                  refine SR.nil ⟨hS679, _, rfl, ?_⟩
                  refine AH.br [1, 5] (by kernel_rfl) rfl ⟨Br.mk' rfl trivial ?_, Br.mk' rfl trivial ?_, trivial⟩
                  · refine SR.q' (r_ld (v := .slice A41 n41 c41) sca38 rfl ((((((hm56).kp hk231 (fun e' => by have e'' : g16 = gc := e'; omega)).lo hk553).lo hk617).kp hk670 (fun e' => by have e'' : g16 = gc := e'; omega)).cell rfl)) ?_
                    refine SR.nil ⟨hS679, _, rfl, ?_⟩
                    refine AH.br [5] (by kernel_rfl) rfl ⟨Br.mk' rfl trivial ?_, trivial⟩
                    refine SR.lit (vs := [.int .i64 v671]) (L := ([v671] : List Int)) (enc := encI) tel38 (fun _ => rfl) rfl rfl rfl (by decide) ?_
                    intro g681 w682 hg683 hk684 hO685
                    have hz686 := hk684.size
                    have hB687 := hB678.lo hk684
                    have hS688 := (hS679).lo hk684
                    have hd689 : ¬ A41 = some ⟨g681, 0, none⟩ := fun e' => by have := (((((hO57).kp hk231 (fun b_ hb e' => hd59 (by have e'' : b_ = gc := e'; rw [← e'']; exact hb))).lo hk553).lo hk617).kp hk670 (fun b_ hb e' => hd59 (by have e'' : b_ = gc := e'; rw [← e'']; exact hb))).base_le e'; omega
                    have hd690 : ¬ (some (⟨g614, 0, none⟩ : Addr)) = some ⟨g681, 0, none⟩ := fun e' => by have := ((hO618).kp hk670 (fun b_ hb e' => by have e'' : b_ = gc := e'; have := (hO618).base_le hb; omega)).base_le e'; omega
                    refine SR.nil ⟨hS688, _, rfl, ?_⟩
                    refine AH.br [6] (by kernel_rfl) rfl ⟨Br.mk' rfl trivial ?_, trivial⟩
                    refine SR.app tel38 rfl rfl ((((((hO57).kp hk231 (fun b_ hb e' => hd59 (by have e'' : b_ = gc := e'; rw [← e'']; exact hb))).lo hk553).lo hk617).kp hk670 (fun b_ hb e' => hd59 (by have e'' : b_ = gc := e'; rw [← e'']; exact hb))).lo hk684) ((hO685).rd) (fun _ => rfl) (by omega) (by omega) ?_
                    intro A691 c692 w693 hk694 hO695 hN696
                    have hz697 := hk694.size
                    have hB698 := hB687.step hk694 (fun i_ hi_ e' => by have := (((((((hO57).kp hk231 (fun b_ hb e' => hd59 (by have e'' : b_ = gc := e'; rw [← e'']; exact hb))).lo hk553).lo hk617).kp hk670 (fun b_ hb e' => hd59 (by have e'' : b_ = gc := e'; rw [← e'']; exact hb))).lo hk684)).base_le e'; first | omega | (exfalso; omega) | exact e' | exact .inl e' | exact .inr e')
                    have hS699 := (hS688).step hk694 (fun _ _ e => .inr (.inl e))
                    have hd700 : ¬ A691 = some ⟨gc, 0, none⟩ := fun e' => (hN696 gc e').elim (fun h => hd59 (h.trans e')) (fun h => by have := ((hb674).lo hk684).lt; omega)
                    have hd701 : ¬ A691 = some ⟨g1, 0, none⟩ := fun e' => (hN696 g1 e').elim (fun h => hd60 (h.trans e')) (fun h => by have := ((((((hm55).kp hk231 (fun e' => by have e'' : g1 = gc := e'; omega)).lo hk553).lo hk617).kp hk670 (fun e' => by have e'' : g1 = gc := e'; omega)).lo hk684).lt; omega)
                    have hd702 : ¬ A691 = some ⟨g16, 0, none⟩ := fun e' => (hN696 g16 e').elim (fun h => hd61 (h.trans e')) (fun h => by have := ((((((hm56).kp hk231 (fun e' => by have e'' : g16 = gc := e'; omega)).lo hk553).lo hk617).kp hk670 (fun e' => by have e'' : g16 = gc := e'; omega)).lo hk684).lt; omega)
                    refine SR.nil ⟨hS699, _, rfl, ?_⟩
                    refine AH.take 7 rfl (by kernel_rfl) trivial (hS699) (fun w' hw' => r_fa fa40_2 rfl) <| AH.br [8] (by kernel_rfl) rfl ⟨Br.mk' rfl trivial ?_, trivial⟩
                    refine SR.store (o := 2) (vs := [.slice A691 (n41 + 1) c692]) sca38.2 rfl rfl rfl rfl (((((((hm56).kp hk231 (fun e' => by have e'' : g16 = gc := e'; omega)).lo hk553).lo hk617).kp hk670 (fun e' => by have e'' : g16 = gc := e'; omega)).lo hk684).kp hk694 (fun e' => hd61 e')) (Nat.le_of_ble_eq_true rfl) rfl ?_
                    intro w705 hk706 hs707 hb708
                    have hz709 := hk706.size
                    have hB710 := hB698.new hk706 (by omega)
                    have hS711 := (hS699).step hk706 (fun _ _ e => .inr (.inr (e)))
                    refine SR.nil ⟨hS711, _, rfl, ?_⟩
                    refine AH.done (by kernel_rfl) ?_
                    exact ⟨g614, v671, t672, s673, g681, A691, c692, ⟨rfl, rfl, trivial⟩, hS711, ((hO695).kp hk706 (fun b_ hb e' => hd702 (by have e'' : b_ = g16 := e'; rw [← e'']; exact hb))), ((((hb674).lo hk684).kp hk694 (fun e' => hd59 e')).kp hk706 (fun e' => by have e'' : gc = g16 := e'; omega)), (hb708), hd700, hd701, hd702, ht675, hq676, hq680⟩
                  · refine SR.lit (vs := [.int .i64 v671]) (L := ([v671] : List Int)) (enc := encI) tel38 (fun _ => rfl) rfl rfl rfl (by decide) ?_
                    intro g715 w716 hg717 hk718 hO719
                    have hz720 := hk718.size
                    have hB721 := hB678.lo hk718
                    have hS722 := (hS679).lo hk718
                    have hd723 : ¬ A41 = some ⟨g715, 0, none⟩ := fun e' => by have := (((((hO57).kp hk231 (fun b_ hb e' => hd59 (by have e'' : b_ = gc := e'; rw [← e'']; exact hb))).lo hk553).lo hk617).kp hk670 (fun b_ hb e' => hd59 (by have e'' : b_ = gc := e'; rw [← e'']; exact hb))).base_le e'; omega
                    have hd724 : ¬ (some (⟨g614, 0, none⟩ : Addr)) = some ⟨g715, 0, none⟩ := fun e' => by have := ((hO618).kp hk670 (fun b_ hb e' => by have e'' : b_ = gc := e'; have := (hO618).base_le hb; omega)).base_le e'; omega
                    refine SR.nil ⟨hS722, _, rfl, ?_⟩
                    refine AH.br [1] (by kernel_rfl) rfl ⟨Br.mk' rfl trivial ?_, trivial⟩
                    refine SR.q' (r_ld (v := .slice A41 n41 c41) sca38 rfl (((((((hm56).kp hk231 (fun e' => by have e'' : g16 = gc := e'; omega)).lo hk553).lo hk617).kp hk670 (fun e' => by have e'' : g16 = gc := e'; omega)).lo hk718).cell rfl)) ?_
                    refine SR.nil ⟨hS722, _, rfl, ?_⟩
                    refine AH.br [6] (by kernel_rfl) rfl ⟨Br.mk' rfl trivial ?_, trivial⟩
                    refine SR.app tel38 rfl rfl ((((((hO57).kp hk231 (fun b_ hb e' => hd59 (by have e'' : b_ = gc := e'; rw [← e'']; exact hb))).lo hk553).lo hk617).kp hk670 (fun b_ hb e' => hd59 (by have e'' : b_ = gc := e'; rw [← e'']; exact hb))).lo hk718) ((hO719).rd) (fun _ => rfl) (by omega) (by omega) ?_
                    intro A725 c726 w727 hk728 hO729 hN730
                    have hz731 := hk728.size
                    have hB732 := hB721.step hk728 (fun i_ hi_ e' => by have := (((((((hO57).kp hk231 (fun b_ hb e' => hd59 (by have e'' : b_ = gc := e'; rw [← e'']; exact hb))).lo hk553).lo hk617).kp hk670 (fun b_ hb e' => hd59 (by have e'' : b_ = gc := e'; rw [← e'']; exact hb))).lo hk718)).base_le e'; first | omega | (exfalso; omega) | exact e' | exact .inl e' | exact .inr e')
                    have hS733 := (hS722).step hk728 (fun _ _ e => .inr (.inl e))
                    have hd734 : ¬ A725 = some ⟨gc, 0, none⟩ := fun e' => (hN730 gc e').elim (fun h => hd59 (h.trans e')) (fun h => by have := ((hb674).lo hk718).lt; omega)
                    have hd735 : ¬ A725 = some ⟨g1, 0, none⟩ := fun e' => (hN730 g1 e').elim (fun h => hd60 (h.trans e')) (fun h => by have := ((((((hm55).kp hk231 (fun e' => by have e'' : g1 = gc := e'; omega)).lo hk553).lo hk617).kp hk670 (fun e' => by have e'' : g1 = gc := e'; omega)).lo hk718).lt; omega)
                    have hd736 : ¬ A725 = some ⟨g16, 0, none⟩ := fun e' => (hN730 g16 e').elim (fun h => hd61 (h.trans e')) (fun h => by have := ((((((hm56).kp hk231 (fun e' => by have e'' : g16 = gc := e'; omega)).lo hk553).lo hk617).kp hk670 (fun e' => by have e'' : g16 = gc := e'; omega)).lo hk718).lt; omega)
                    refine SR.nil ⟨hS733, _, rfl, ?_⟩
                    refine AH.take 7 rfl (by kernel_rfl) trivial (hS733) (fun w' hw' => r_fa fa40_2 rfl) <| AH.br [8] (by kernel_rfl) rfl ⟨Br.mk' rfl trivial ?_, trivial⟩
                    refine SR.store (o := 2) (vs := [.slice A725 (n41 + 1) c726]) sca38.2 rfl rfl rfl rfl (((((((hm56).kp hk231 (fun e' => by have e'' : g16 = gc := e'; omega)).lo hk553).lo hk617).kp hk670 (fun e' => by have e'' : g16 = gc := e'; omega)).lo hk718).kp hk728 (fun e' => hd61 e')) (Nat.le_of_ble_eq_true rfl) rfl ?_
                    intro w739 hk740 hs741 hb742
                    have hz743 := hk740.size
                    have hB744 := hB732.new hk740 (by omega)
                    have hS745 := (hS733).step hk740 (fun _ _ e => .inr (.inr (e)))
                    refine SR.nil ⟨hS745, _, rfl, ?_⟩
                    refine AH.done (by kernel_rfl) ?_
                    exact ⟨g614, v671, t672, s673, g715, A725, c726, ⟨rfl, rfl, trivial⟩, hS745, ((hO729).kp hk740 (fun b_ hb e' => hd736 (by have e'' : b_ = g16 := e'; rw [← e'']; exact hb))), ((((hb674).lo hk718).kp hk728 (fun e' => hd59 e')).kp hk740 (fun e' => by have e'' : gc = g16 := e'; omega)), (hb742), hd734, hd735, hd736, ht675, hq676, hq680⟩
            rintro f749 w750 ⟨g556, v567, t568, s569, g577, A587, c588, hat752, hR751, hm608, hm609, hm610, hd611, hd612, hd613, ht571, hq572, hq576⟩
            rw [← sets_of_at hat752]
            have hz753 := hR751.size
            have hB754 := hB239.step hR751 (fun i_ hi_ e' => e'.elim (fun e' => e') (fun e' => e'.elim (fun e' => by have := (((hO57).kp hk231 (fun b_ hb e' => hd59 (by have e'' : b_ = gc := e'; rw [← e'']; exact hb)))).base_le e'; exfalso; omega) (fun e' => by have e'' : i_ = g16 := e'; exfalso; omega)))
            refine W.regS (SR.q' (r_fa fa40_4 rfl) <| SR.q' (r_ld (v := .int .i64 o.Laid) sca3 rfl ((hm610).cell rfl)) <| SR.q' (r_add rfl rfl (by omega)) <| SR.q' (r_fa fa40_4 rfl) <| SR.store (o := 4) (vs := [.int .i64 (o.Laid + 1)]) sca3.2 rfl rfl rfl rfl (hm610) (Nat.le_of_ble_eq_true rfl) rfl ?_)
            intro w755 hk756 hs757 hb758
            have hz759 := hk756.size
            have hB760 := hB754.new hk756 (by omega)
            refine SR.nil ?_
            refine W.seq ?_
            refine W.regS (SR.q' (r_lda (l := [.int .i64 o.State, .int .i64 o.Key, .slice A587 (n41 + 1) c588, .int .i64 o.Dust, .int .i64 (o.Laid + 1), .int .i64 o.Given]) agg40 rfl (fun _ _ hu => (hb758).cell hu) rfl) <| SR.store (o := 0) (vs := [.int .i64 o.State, .int .i64 o.Key, .slice A587 (n41 + 1) c588, .int .i64 o.Dust, .int .i64 (o.Laid + 1), .int .i64 o.Given]) agg40.2 rfl rfl rfl rfl ((((hm55).kp hk231 (fun e' => by have e'' : g1 = gc := e'; omega)).kp hR751 (fun e' => e'.elim (fun e' => by have e'' : g1 = gc := e'; omega) (fun e' => e'.elim (fun e' => hd60 e') (fun e' => by have e'' : g1 = g16 := e'; omega)))).kp hk756 (fun e' => by have e'' : g1 = g16 := e'; omega)) (Nat.le_of_ble_eq_true rfl) rfl ?_)
            intro w761 hk762 hs763 hb764
            have hz765 := hk762.size
            have hB766 := hB760.new hk762 (by omega)
            refine SR.nil ?_
            refine W.ret ?_
            refine retC rfl rfl agg40 (hb764) rfl ?_
            exact ⟨A587, n41 + 1, c588, (⟨o.State, o.Key, o.Stack ++ ([v567] : List Int), o.Dust, o.Laid + 1, o.Given⟩ : Chest), t568, s569, eR (eA (eC (eI (z_c___spec_l1Cur__chest_768 Lc tc sc nc htc hbdc hlec v33 t34 s35 ht37 hq38 n o t z n41 c41 hi58 hl65 hq67 hq68 hq69 hq70 h71 v232 t233 s234 ht236 hq237 h240 h270 h427 v567 t568 s569 ht571 hq572 hq576)) (eC (eI (z_c___spec_l1Cur__chest_769 Lc tc sc nc htc hbdc hlec v33 t34 s35 ht37 hq38 n o t z n41 c41 hi58 hl65 hq67 hq68 hq69 hq70 h71 v232 t233 s234 ht236 hq237 h240 h270 h427 v567 t568 s569 ht571 hq572 hq576)) (eC rfl (eC (eI (z_c___spec_l1Cur__chest_770 Lc tc sc nc htc hbdc hlec v33 t34 s35 ht37 hq38 n o t z n41 c41 hi58 hl65 hq67 hq68 hq69 hq70 h71 v232 t233 s234 ht236 hq237 h240 h270 h427 v567 t568 s569 ht571 hq572 hq576)) (eC (eI (z_c___spec_l1Cur__chest_771 Lc tc sc nc htc hbdc hlec v33 t34 s35 ht37 hq38 n o t z n41 c41 hi58 hl65 hq67 hq68 hq69 hq70 h71 v232 t233 s234 ht236 hq237 h240 h270 h427 v567 t568 s569 ht571 hq572 hq576)) (eC (eI (z_c___spec_l1Cur__chest_772 Lc tc sc nc htc hbdc hlec v33 t34 s35 ht37 hq38 n o t z n41 c41 hi58 hl65 hq67 hq68 hq69 hq70 h71 v232 t233 s234 ht236 hq237 h240 h270 h427 v567 t568 s569 ht571 hq572 hq576)) rfl))))))), (SlO.eqv ((((hm608).kp hk756 (fun b_ hb e' => hd613 (by have e'' : b_ = g16 := e'; rw [← e'']; exact hb))).kp hk762 (fun b_ hb e' => hd612 (by have e'' : b_ = g1 := e'; rw [← e'']; exact hb))).down (by omega)) (z_c___spec_l1Cur__chest_767 Lc tc sc nc htc hbdc hlec v33 t34 s35 ht37 hq38 n o t z n41 c41 hi58 hl65 hq67 hq68 hq69 hq70 h71 v232 t233 s234 ht236 hq237 h240 h270 h427 v567 t568 s569 ht571 hq572 hq576)), (((hm609).kp hk756 (fun e' => by have e'' : gc = g16 := e'; omega)).kp hk762 (fun e' => by have e'' : gc = g1 := e'; omega)), ⟨by omega, by omega⟩, (z_c___spec_l1Cur__chest_773 Lc tc sc nc htc hbdc hlec v33 t34 s35 ht37 hq38 n o t z n41 c41 hi58 hl65 hq67 hq68 hq69 hq70 h71 v232 t233 s234 ht236 hq237 h240 h270 h427 v567 t568 s569 ht571 hq572 hq576), hB766⟩
          · refine W.skip ?_
            refine W.seq ?_
            refine W.regS (SR.q' (r_lda (l := [.int .i64 o.State, .int .i64 o.Key, .slice A41 n41 c41, .int .i64 o.Dust, .int .i64 o.Laid, .int .i64 o.Given]) agg40 rfl (fun _ _ hu => ((hm56).kp hk231 (fun e' => by have e'' : g16 = gc := e'; omega)).cell hu) rfl) <| SR.store (o := 0) (vs := [.int .i64 o.State, .int .i64 o.Key, .slice A41 n41 c41, .int .i64 o.Dust, .int .i64 o.Laid, .int .i64 o.Given]) agg40.2 rfl rfl rfl rfl ((hm55).kp hk231 (fun e' => by have e'' : g1 = gc := e'; omega)) (Nat.le_of_ble_eq_true rfl) rfl ?_)
            intro w774 hk775 hs776 hb777
            have hz778 := hk775.size
            have hB779 := hB239.new hk775 (by omega)
            refine SR.nil ?_
            refine W.ret ?_
            refine retC rfl rfl agg40 (hb777) rfl ?_
            exact ⟨A41, n41, c41, o, t233, s234, eR rfl, ((((hO57).kp hk231 (fun b_ hb e' => hd59 (by have e'' : b_ = gc := e'; rw [← e'']; exact hb))).kp hk775 (fun b_ hb e' => hd60 (by have e'' : b_ = g1 := e'; rw [← e'']; exact hb))).down (by omega)), ((hb235).kp hk775 (fun e' => by have e'' : gc = g1 := e'; omega)), ⟨by omega, by omega⟩, (z_c___spec_l1Cur__chest_780 Lc tc sc nc htc hbdc hlec v33 t34 s35 ht37 hq38 n o t z n41 c41 hi58 hl65 hq67 hq68 hq69 hq70 h71 v232 t233 s234 ht236 hq237 h240 h270 h427), hB779⟩

theorem z_c_laws_vBig_1 (L : List UInt8) (nL : Nat) (hbdL : (nL : Int) ≤ 9223372036854775807) (hleL : nL = L.length) : (65536 < (nL : Int)) ↔ (65536 < (L.length : Int)) := by
  omega
theorem c_laws_vBig (w : World) {AL : Option Addr} {nL cL BL : Nat}  (L : List UInt8) (hL : SlR w BL encB 1 AL nL cL L) : Calls Tryd.prog 11 #[.slice AL nL cL] w fun e w' => e = .returned (.bool (decide (65536 < (L.length : Int)))) ∧ Lo w w' := by
  refine calls_W 6 Tryd.func11 rfl rfl rfl ?_
  have hbdL := hL.bound
  have hleL := hL.len
  have hBbL := hL.bd
  refine W.seq ?_
  refine W.regS (SR.q' (r_as (v := .bool false) rfl) <| SR.nil ?_)
  refine W.seq ?_
  refine W.regS (SR.q' (r_mv (v := .slice _ _ _) rfl) <| SR.q' (r_len und36 rfl) <| SR.q' (r_gt rfl rfl) <| SR.q' (r_as (v := .bool _) rfl) <| SR.nil ?_)
  refine W.ret ?_
  refine ret1 rfl (v := .bool _) rfl ?_
  exact ⟨eR (eDD (z_c_laws_vBig_1 L nL hbdL hleL)), (Lo.refl w)⟩
end Go.Proofs.YtlpapeeaghmjpaaDoor
