/- Walks, printed by a program of this claim's author. -/
import Derived.Test.YtlpapeeaghmjpaaDoorChecked
import Derived.Test.YtlpapeeaghmjpaaDoorSd
import Derived.Test.YtlpapeeaghmjpaaDoorFu
import Derived.Test.YtlpapeeaghmjpaaDoorFs
import Derived.Test.YtlpapeeaghmjpaaDoorFq
import Derived.Test.YtlpapeeaghmjpaaDoorFo
import Derived.Test.YtlpapeeaghmjpaaDoorG29t
namespace Go.Proofs.YtlpapeeaghmjpaaDoor
open Go Go.RowKit Fw
set_option maxRecDepth 10000
set_option linter.unusedVariables false
theorem bld60_0 (a0 : Int) : Tryd.prog.built 60 [(0, .int .i64 a0)] = some (List.toArray [.int .i64 a0, .int .i64 0]) := by kernel_rfl
theorem bld60_0_1 (a0 : Int) (a1 : Int) : Tryd.prog.built 60 [(0, .int .i64 a0), (1, .int .i64 a1)] = some (List.toArray [.int .i64 a0, .int .i64 a1]) := by kernel_rfl
theorem ent118 : Ent Tryd.prog 118 := ent_of Tryd.func118 (by decide +kernel) rfl
theorem ent122 : Ent Tryd.prog 122 := ent_of Tryd.func122 (by decide +kernel) rfl
theorem ent123 : Ent Tryd.prog 123 := ent_of Tryd.func123 (by decide +kernel) rfl
theorem ent124 : Ent Tryd.prog 124 := ent_of Tryd.func124 (by decide +kernel) rfl
theorem ent54 : Ent Tryd.prog 54 := ent_of Tryd.func54 (by decide +kernel) rfl

theorem z_c___spec_l1Cur__scanStep_70 (Lc : List UInt8) (tc : Int) (sc : Int) (nc : Nat) (htc : 0 ≤ tc ∧ tc + 8 ≤ 4611686018427387904) (hbdc : (nc : Int) ≤ 9223372036854775807) (hlec : nc = Lc.length) (x : ScanJob) (nx_Tiles : Nat) (hbdx_Tiles : (nx_Tiles : Int) ≤ 9223372036854775807) (hlex_Tiles : nx_Tiles = x.Tiles.length) (v19 : Bool) (t20 : Int) (s21 : Int) (ht23 : tc ≤ t20 ∧ t20 ≤ tc + 2) (h26 : v19 = true) (v36 : Int) (t37 : Int) (s38 : Int) (ht40 : t20 ≤ t37 ∧ t37 ≤ t20 + 2) (hq41 : v36 ∈ ([0, 7, 2] : List Int)) (hq44 : (0 : Int) ≤ v36 ∧ v36 ≤ 7) (v55 : Int) (t56 : Int) (s57 : Int) (ht59 : t37 ≤ t56 ∧ t56 ≤ t37 + 2) (hq60 : v55 ∈ ([0, 1, (-1)] : List Int)) (hq63 : ((-1) : Int) ≤ v55 ∧ v55 ≤ 1) : v36 = (⟨v36, v55⟩ : ScanStep).Kind := by
  first | rfl | omega | grind
theorem z_c___spec_l1Cur__scanStep_71 (Lc : List UInt8) (tc : Int) (sc : Int) (nc : Nat) (htc : 0 ≤ tc ∧ tc + 8 ≤ 4611686018427387904) (hbdc : (nc : Int) ≤ 9223372036854775807) (hlec : nc = Lc.length) (x : ScanJob) (nx_Tiles : Nat) (hbdx_Tiles : (nx_Tiles : Int) ≤ 9223372036854775807) (hlex_Tiles : nx_Tiles = x.Tiles.length) (v19 : Bool) (t20 : Int) (s21 : Int) (ht23 : tc ≤ t20 ∧ t20 ≤ tc + 2) (h26 : v19 = true) (v36 : Int) (t37 : Int) (s38 : Int) (ht40 : t20 ≤ t37 ∧ t37 ≤ t20 + 2) (hq41 : v36 ∈ ([0, 7, 2] : List Int)) (hq44 : (0 : Int) ≤ v36 ∧ v36 ≤ 7) (v55 : Int) (t56 : Int) (s57 : Int) (ht59 : t37 ≤ t56 ∧ t56 ≤ t37 + 2) (hq60 : v55 ∈ ([0, 1, (-1)] : List Int)) (hq63 : ((-1) : Int) ≤ v55 ∧ v55 ≤ 1) : v55 = (⟨v36, v55⟩ : ScanStep).Value := by
  first | rfl | omega | grind
theorem z_c___spec_l1Cur__scanStep_79 (Lc : List UInt8) (tc : Int) (sc : Int) (nc : Nat) (htc : 0 ≤ tc ∧ tc + 8 ≤ 4611686018427387904) (hbdc : (nc : Int) ≤ 9223372036854775807) (hlec : nc = Lc.length) (x : ScanJob) (nx_Tiles : Nat) (hbdx_Tiles : (nx_Tiles : Int) ≤ 9223372036854775807) (hlex_Tiles : nx_Tiles = x.Tiles.length) (v19 : Bool) (t20 : Int) (s21 : Int) (ht23 : tc ≤ t20 ∧ t20 ≤ tc + 2) (h26 : v19 = false) (h72 : x.State = 0) : 1 = (⟨1, 0⟩ : ScanStep).Kind := by
  first | rfl | omega | grind
theorem z_c___spec_l1Cur__scanStep_80 (Lc : List UInt8) (tc : Int) (sc : Int) (nc : Nat) (htc : 0 ≤ tc ∧ tc + 8 ≤ 4611686018427387904) (hbdc : (nc : Int) ≤ 9223372036854775807) (hlec : nc = Lc.length) (x : ScanJob) (nx_Tiles : Nat) (hbdx_Tiles : (nx_Tiles : Int) ≤ 9223372036854775807) (hlex_Tiles : nx_Tiles = x.Tiles.length) (v19 : Bool) (t20 : Int) (s21 : Int) (ht23 : tc ≤ t20 ∧ t20 ≤ tc + 2) (h26 : v19 = false) (h72 : x.State = 0) : 0 = (⟨1, 0⟩ : ScanStep).Value := by
  first | rfl | omega | grind
theorem z_c___spec_l1Cur__scanStep_106 (Lc : List UInt8) (tc : Int) (sc : Int) (nc : Nat) (htc : 0 ≤ tc ∧ tc + 8 ≤ 4611686018427387904) (hbdc : (nc : Int) ≤ 9223372036854775807) (hlec : nc = Lc.length) (x : ScanJob) (nx_Tiles : Nat) (hbdx_Tiles : (nx_Tiles : Int) ≤ 9223372036854775807) (hlex_Tiles : nx_Tiles = x.Tiles.length) (v19 : Bool) (t20 : Int) (s21 : Int) (ht23 : tc ≤ t20 ∧ t20 ≤ tc + 2) (h26 : v19 = false) (h72 : ¬ (x.State = 0)) (h81 : x.State = 2) (v91 : Int) (t92 : Int) (s93 : Int) (ht95 : t20 ≤ t92 ∧ t92 ≤ t20 + 2) (hq96 : v91 ∈ ([0, 0, 0, 30, 60, 100, 101] : List Int)) (hq99 : (0 : Int) ≤ v91 ∧ v91 ≤ 101) : 5 = (⟨5, v91⟩ : ScanStep).Kind := by
  first | rfl | omega | grind
theorem z_c___spec_l1Cur__scanStep_107 (Lc : List UInt8) (tc : Int) (sc : Int) (nc : Nat) (htc : 0 ≤ tc ∧ tc + 8 ≤ 4611686018427387904) (hbdc : (nc : Int) ≤ 9223372036854775807) (hlec : nc = Lc.length) (x : ScanJob) (nx_Tiles : Nat) (hbdx_Tiles : (nx_Tiles : Int) ≤ 9223372036854775807) (hlex_Tiles : nx_Tiles = x.Tiles.length) (v19 : Bool) (t20 : Int) (s21 : Int) (ht23 : tc ≤ t20 ∧ t20 ≤ tc + 2) (h26 : v19 = false) (h72 : ¬ (x.State = 0)) (h81 : x.State = 2) (v91 : Int) (t92 : Int) (s93 : Int) (ht95 : t20 ≤ t92 ∧ t92 ≤ t20 + 2) (hq96 : v91 ∈ ([0, 0, 0, 30, 60, 100, 101] : List Int)) (hq99 : (0 : Int) ≤ v91 ∧ v91 ≤ 101) : v91 = (⟨5, v91⟩ : ScanStep).Value := by
  first | rfl | omega | grind
theorem z_c___spec_l1Cur__scanStep_125 (Lc : List UInt8) (tc : Int) (sc : Int) (nc : Nat) (htc : 0 ≤ tc ∧ tc + 8 ≤ 4611686018427387904) (hbdc : (nc : Int) ≤ 9223372036854775807) (hlec : nc = Lc.length) (x : ScanJob) (nx_Tiles : Nat) (hbdx_Tiles : (nx_Tiles : Int) ≤ 9223372036854775807) (hlex_Tiles : nx_Tiles = x.Tiles.length) (v19 : Bool) (t20 : Int) (s21 : Int) (ht23 : tc ≤ t20 ∧ t20 ≤ tc + 2) (h26 : v19 = false) (h72 : ¬ (x.State = 0)) (h81 : ¬ (x.State = 2)) (h108 : x.Next = (nx_Tiles : Int)) (v111 : Bool) (t112 : Int) (s113 : Int) (ht115 : t20 ≤ t112 ∧ t112 ≤ t20 + 2) (h118 : v111 = true) : 6 = (⟨6, 0⟩ : ScanStep).Kind := by
  first | rfl | omega | grind
theorem z_c___spec_l1Cur__scanStep_126 (Lc : List UInt8) (tc : Int) (sc : Int) (nc : Nat) (htc : 0 ≤ tc ∧ tc + 8 ≤ 4611686018427387904) (hbdc : (nc : Int) ≤ 9223372036854775807) (hlec : nc = Lc.length) (x : ScanJob) (nx_Tiles : Nat) (hbdx_Tiles : (nx_Tiles : Int) ≤ 9223372036854775807) (hlex_Tiles : nx_Tiles = x.Tiles.length) (v19 : Bool) (t20 : Int) (s21 : Int) (ht23 : tc ≤ t20 ∧ t20 ≤ tc + 2) (h26 : v19 = false) (h72 : ¬ (x.State = 0)) (h81 : ¬ (x.State = 2)) (h108 : x.Next = (nx_Tiles : Int)) (v111 : Bool) (t112 : Int) (s113 : Int) (ht115 : t20 ≤ t112 ∧ t112 ≤ t20 + 2) (h118 : v111 = true) : 0 = (⟨6, 0⟩ : ScanStep).Value := by
  first | rfl | omega | grind
theorem z_c___spec_l1Cur__scanStep_144 (Lc : List UInt8) (tc : Int) (sc : Int) (nc : Nat) (htc : 0 ≤ tc ∧ tc + 8 ≤ 4611686018427387904) (hbdc : (nc : Int) ≤ 9223372036854775807) (hlec : nc = Lc.length) (x : ScanJob) (nx_Tiles : Nat) (hbdx_Tiles : (nx_Tiles : Int) ≤ 9223372036854775807) (hlex_Tiles : nx_Tiles = x.Tiles.length) (v19 : Bool) (t20 : Int) (s21 : Int) (ht23 : tc ≤ t20 ∧ t20 ≤ tc + 2) (h26 : v19 = false) (h72 : ¬ (x.State = 0)) (h81 : ¬ (x.State = 2)) (h108 : x.Next = (nx_Tiles : Int)) (v111 : Bool) (t112 : Int) (s113 : Int) (ht115 : t20 ≤ t112 ∧ t112 ≤ t20 + 2) (h118 : v111 = false) (v129 : Int) (t130 : Int) (s131 : Int) (ht133 : t112 ≤ t130 ∧ t130 ≤ t112 + 2) (hq134 : (0 : Int) ≤ v129 ∧ ((v129 : Int) < 10 ∨ (v129 : Int) = 0)) (h137 : v129 = 0) : 3 = (⟨3, 0⟩ : ScanStep).Kind := by
  first | rfl | omega | grind
theorem z_c___spec_l1Cur__scanStep_145 (Lc : List UInt8) (tc : Int) (sc : Int) (nc : Nat) (htc : 0 ≤ tc ∧ tc + 8 ≤ 4611686018427387904) (hbdc : (nc : Int) ≤ 9223372036854775807) (hlec : nc = Lc.length) (x : ScanJob) (nx_Tiles : Nat) (hbdx_Tiles : (nx_Tiles : Int) ≤ 9223372036854775807) (hlex_Tiles : nx_Tiles = x.Tiles.length) (v19 : Bool) (t20 : Int) (s21 : Int) (ht23 : tc ≤ t20 ∧ t20 ≤ tc + 2) (h26 : v19 = false) (h72 : ¬ (x.State = 0)) (h81 : ¬ (x.State = 2)) (h108 : x.Next = (nx_Tiles : Int)) (v111 : Bool) (t112 : Int) (s113 : Int) (ht115 : t20 ≤ t112 ∧ t112 ≤ t20 + 2) (h118 : v111 = false) (v129 : Int) (t130 : Int) (s131 : Int) (ht133 : t112 ≤ t130 ∧ t130 ≤ t112 + 2) (hq134 : (0 : Int) ≤ v129 ∧ ((v129 : Int) < 10 ∨ (v129 : Int) = 0)) (h137 : v129 = 0) : 0 = (⟨3, 0⟩ : ScanStep).Value := by
  first | rfl | omega | grind
theorem z_c___spec_l1Cur__scanStep_153 (Lc : List UInt8) (tc : Int) (sc : Int) (nc : Nat) (htc : 0 ≤ tc ∧ tc + 8 ≤ 4611686018427387904) (hbdc : (nc : Int) ≤ 9223372036854775807) (hlec : nc = Lc.length) (x : ScanJob) (nx_Tiles : Nat) (hbdx_Tiles : (nx_Tiles : Int) ≤ 9223372036854775807) (hlex_Tiles : nx_Tiles = x.Tiles.length) (v19 : Bool) (t20 : Int) (s21 : Int) (ht23 : tc ≤ t20 ∧ t20 ≤ tc + 2) (h26 : v19 = false) (h72 : ¬ (x.State = 0)) (h81 : ¬ (x.State = 2)) (h108 : x.Next = (nx_Tiles : Int)) (v111 : Bool) (t112 : Int) (s113 : Int) (ht115 : t20 ≤ t112 ∧ t112 ≤ t20 + 2) (h118 : v111 = false) (v129 : Int) (t130 : Int) (s131 : Int) (ht133 : t112 ≤ t130 ∧ t130 ≤ t112 + 2) (hq134 : (0 : Int) ≤ v129 ∧ ((v129 : Int) < 10 ∨ (v129 : Int) = 0)) (h137 : ¬ (v129 = 0)) (h146 : v129 = 1) : 3 = (⟨3, 0⟩ : ScanStep).Kind := by
  first | rfl | omega | grind
theorem z_c___spec_l1Cur__scanStep_154 (Lc : List UInt8) (tc : Int) (sc : Int) (nc : Nat) (htc : 0 ≤ tc ∧ tc + 8 ≤ 4611686018427387904) (hbdc : (nc : Int) ≤ 9223372036854775807) (hlec : nc = Lc.length) (x : ScanJob) (nx_Tiles : Nat) (hbdx_Tiles : (nx_Tiles : Int) ≤ 9223372036854775807) (hlex_Tiles : nx_Tiles = x.Tiles.length) (v19 : Bool) (t20 : Int) (s21 : Int) (ht23 : tc ≤ t20 ∧ t20 ≤ tc + 2) (h26 : v19 = false) (h72 : ¬ (x.State = 0)) (h81 : ¬ (x.State = 2)) (h108 : x.Next = (nx_Tiles : Int)) (v111 : Bool) (t112 : Int) (s113 : Int) (ht115 : t20 ≤ t112 ∧ t112 ≤ t20 + 2) (h118 : v111 = false) (v129 : Int) (t130 : Int) (s131 : Int) (ht133 : t112 ≤ t130 ∧ t130 ≤ t112 + 2) (hq134 : (0 : Int) ≤ v129 ∧ ((v129 : Int) < 10 ∨ (v129 : Int) = 0)) (h137 : ¬ (v129 = 0)) (h146 : v129 = 1) : 0 = (⟨3, 0⟩ : ScanStep).Value := by
  first | rfl | omega | grind
theorem z_c___spec_l1Cur__scanStep_162 (Lc : List UInt8) (tc : Int) (sc : Int) (nc : Nat) (htc : 0 ≤ tc ∧ tc + 8 ≤ 4611686018427387904) (hbdc : (nc : Int) ≤ 9223372036854775807) (hlec : nc = Lc.length) (x : ScanJob) (nx_Tiles : Nat) (hbdx_Tiles : (nx_Tiles : Int) ≤ 9223372036854775807) (hlex_Tiles : nx_Tiles = x.Tiles.length) (v19 : Bool) (t20 : Int) (s21 : Int) (ht23 : tc ≤ t20 ∧ t20 ≤ tc + 2) (h26 : v19 = false) (h72 : ¬ (x.State = 0)) (h81 : ¬ (x.State = 2)) (h108 : x.Next = (nx_Tiles : Int)) (v111 : Bool) (t112 : Int) (s113 : Int) (ht115 : t20 ≤ t112 ∧ t112 ≤ t20 + 2) (h118 : v111 = false) (v129 : Int) (t130 : Int) (s131 : Int) (ht133 : t112 ≤ t130 ∧ t130 ≤ t112 + 2) (hq134 : (0 : Int) ≤ v129 ∧ ((v129 : Int) < 10 ∨ (v129 : Int) = 0)) (h137 : ¬ (v129 = 0)) (h146 : ¬ (v129 = 1)) (h155 : v129 = 2) : 3 = (⟨3, 0⟩ : ScanStep).Kind := by
  first | rfl | omega | grind
theorem z_c___spec_l1Cur__scanStep_163 (Lc : List UInt8) (tc : Int) (sc : Int) (nc : Nat) (htc : 0 ≤ tc ∧ tc + 8 ≤ 4611686018427387904) (hbdc : (nc : Int) ≤ 9223372036854775807) (hlec : nc = Lc.length) (x : ScanJob) (nx_Tiles : Nat) (hbdx_Tiles : (nx_Tiles : Int) ≤ 9223372036854775807) (hlex_Tiles : nx_Tiles = x.Tiles.length) (v19 : Bool) (t20 : Int) (s21 : Int) (ht23 : tc ≤ t20 ∧ t20 ≤ tc + 2) (h26 : v19 = false) (h72 : ¬ (x.State = 0)) (h81 : ¬ (x.State = 2)) (h108 : x.Next = (nx_Tiles : Int)) (v111 : Bool) (t112 : Int) (s113 : Int) (ht115 : t20 ≤ t112 ∧ t112 ≤ t20 + 2) (h118 : v111 = false) (v129 : Int) (t130 : Int) (s131 : Int) (ht133 : t112 ≤ t130 ∧ t130 ≤ t112 + 2) (hq134 : (0 : Int) ≤ v129 ∧ ((v129 : Int) < 10 ∨ (v129 : Int) = 0)) (h137 : ¬ (v129 = 0)) (h146 : ¬ (v129 = 1)) (h155 : v129 = 2) : 0 = (⟨3, 0⟩ : ScanStep).Value := by
  first | rfl | omega | grind
theorem z_c___spec_l1Cur__scanStep_171 (Lc : List UInt8) (tc : Int) (sc : Int) (nc : Nat) (htc : 0 ≤ tc ∧ tc + 8 ≤ 4611686018427387904) (hbdc : (nc : Int) ≤ 9223372036854775807) (hlec : nc = Lc.length) (x : ScanJob) (nx_Tiles : Nat) (hbdx_Tiles : (nx_Tiles : Int) ≤ 9223372036854775807) (hlex_Tiles : nx_Tiles = x.Tiles.length) (v19 : Bool) (t20 : Int) (s21 : Int) (ht23 : tc ≤ t20 ∧ t20 ≤ tc + 2) (h26 : v19 = false) (h72 : ¬ (x.State = 0)) (h81 : ¬ (x.State = 2)) (h108 : x.Next = (nx_Tiles : Int)) (v111 : Bool) (t112 : Int) (s113 : Int) (ht115 : t20 ≤ t112 ∧ t112 ≤ t20 + 2) (h118 : v111 = false) (v129 : Int) (t130 : Int) (s131 : Int) (ht133 : t112 ≤ t130 ∧ t130 ≤ t112 + 2) (hq134 : (0 : Int) ≤ v129 ∧ ((v129 : Int) < 10 ∨ (v129 : Int) = 0)) (h137 : ¬ (v129 = 0)) (h146 : ¬ (v129 = 1)) (h155 : ¬ (v129 = 2)) (h164 : v129 = 3) : 4 = (⟨4, 0⟩ : ScanStep).Kind := by
  first | rfl | omega | grind
theorem z_c___spec_l1Cur__scanStep_172 (Lc : List UInt8) (tc : Int) (sc : Int) (nc : Nat) (htc : 0 ≤ tc ∧ tc + 8 ≤ 4611686018427387904) (hbdc : (nc : Int) ≤ 9223372036854775807) (hlec : nc = Lc.length) (x : ScanJob) (nx_Tiles : Nat) (hbdx_Tiles : (nx_Tiles : Int) ≤ 9223372036854775807) (hlex_Tiles : nx_Tiles = x.Tiles.length) (v19 : Bool) (t20 : Int) (s21 : Int) (ht23 : tc ≤ t20 ∧ t20 ≤ tc + 2) (h26 : v19 = false) (h72 : ¬ (x.State = 0)) (h81 : ¬ (x.State = 2)) (h108 : x.Next = (nx_Tiles : Int)) (v111 : Bool) (t112 : Int) (s113 : Int) (ht115 : t20 ≤ t112 ∧ t112 ≤ t20 + 2) (h118 : v111 = false) (v129 : Int) (t130 : Int) (s131 : Int) (ht133 : t112 ≤ t130 ∧ t130 ≤ t112 + 2) (hq134 : (0 : Int) ≤ v129 ∧ ((v129 : Int) < 10 ∨ (v129 : Int) = 0)) (h137 : ¬ (v129 = 0)) (h146 : ¬ (v129 = 1)) (h155 : ¬ (v129 = 2)) (h164 : v129 = 3) : 0 = (⟨4, 0⟩ : ScanStep).Value := by
  first | rfl | omega | grind
theorem z_c___spec_l1Cur__scanStep_180 (Lc : List UInt8) (tc : Int) (sc : Int) (nc : Nat) (htc : 0 ≤ tc ∧ tc + 8 ≤ 4611686018427387904) (hbdc : (nc : Int) ≤ 9223372036854775807) (hlec : nc = Lc.length) (x : ScanJob) (nx_Tiles : Nat) (hbdx_Tiles : (nx_Tiles : Int) ≤ 9223372036854775807) (hlex_Tiles : nx_Tiles = x.Tiles.length) (v19 : Bool) (t20 : Int) (s21 : Int) (ht23 : tc ≤ t20 ∧ t20 ≤ tc + 2) (h26 : v19 = false) (h72 : ¬ (x.State = 0)) (h81 : ¬ (x.State = 2)) (h108 : x.Next = (nx_Tiles : Int)) (v111 : Bool) (t112 : Int) (s113 : Int) (ht115 : t20 ≤ t112 ∧ t112 ≤ t20 + 2) (h118 : v111 = false) (v129 : Int) (t130 : Int) (s131 : Int) (ht133 : t112 ≤ t130 ∧ t130 ≤ t112 + 2) (hq134 : (0 : Int) ≤ v129 ∧ ((v129 : Int) < 10 ∨ (v129 : Int) = 0)) (h137 : ¬ (v129 = 0)) (h146 : ¬ (v129 = 1)) (h155 : ¬ (v129 = 2)) (h164 : ¬ (v129 = 3)) (h173 : v129 = 4) : 6 = (⟨6, 0⟩ : ScanStep).Kind := by
  first | rfl | omega | grind
theorem z_c___spec_l1Cur__scanStep_181 (Lc : List UInt8) (tc : Int) (sc : Int) (nc : Nat) (htc : 0 ≤ tc ∧ tc + 8 ≤ 4611686018427387904) (hbdc : (nc : Int) ≤ 9223372036854775807) (hlec : nc = Lc.length) (x : ScanJob) (nx_Tiles : Nat) (hbdx_Tiles : (nx_Tiles : Int) ≤ 9223372036854775807) (hlex_Tiles : nx_Tiles = x.Tiles.length) (v19 : Bool) (t20 : Int) (s21 : Int) (ht23 : tc ≤ t20 ∧ t20 ≤ tc + 2) (h26 : v19 = false) (h72 : ¬ (x.State = 0)) (h81 : ¬ (x.State = 2)) (h108 : x.Next = (nx_Tiles : Int)) (v111 : Bool) (t112 : Int) (s113 : Int) (ht115 : t20 ≤ t112 ∧ t112 ≤ t20 + 2) (h118 : v111 = false) (v129 : Int) (t130 : Int) (s131 : Int) (ht133 : t112 ≤ t130 ∧ t130 ≤ t112 + 2) (hq134 : (0 : Int) ≤ v129 ∧ ((v129 : Int) < 10 ∨ (v129 : Int) = 0)) (h137 : ¬ (v129 = 0)) (h146 : ¬ (v129 = 1)) (h155 : ¬ (v129 = 2)) (h164 : ¬ (v129 = 3)) (h173 : v129 = 4) : 0 = (⟨6, 0⟩ : ScanStep).Value := by
  first | rfl | omega | grind
theorem z_c___spec_l1Cur__scanStep_206 (Lc : List UInt8) (tc : Int) (sc : Int) (nc : Nat) (htc : 0 ≤ tc ∧ tc + 8 ≤ 4611686018427387904) (hbdc : (nc : Int) ≤ 9223372036854775807) (hlec : nc = Lc.length) (x : ScanJob) (nx_Tiles : Nat) (hbdx_Tiles : (nx_Tiles : Int) ≤ 9223372036854775807) (hlex_Tiles : nx_Tiles = x.Tiles.length) (v19 : Bool) (t20 : Int) (s21 : Int) (ht23 : tc ≤ t20 ∧ t20 ≤ tc + 2) (h26 : v19 = false) (h72 : ¬ (x.State = 0)) (h81 : ¬ (x.State = 2)) (h108 : x.Next = (nx_Tiles : Int)) (v111 : Bool) (t112 : Int) (s113 : Int) (ht115 : t20 ≤ t112 ∧ t112 ≤ t20 + 2) (h118 : v111 = false) (v129 : Int) (t130 : Int) (s131 : Int) (ht133 : t112 ≤ t130 ∧ t130 ≤ t112 + 2) (hq134 : (0 : Int) ≤ v129 ∧ ((v129 : Int) < 10 ∨ (v129 : Int) = 0)) (h137 : ¬ (v129 = 0)) (h146 : ¬ (v129 = 1)) (h155 : ¬ (v129 = 2)) (h164 : ¬ (v129 = 3)) (h173 : ¬ (v129 = 4)) (v191 : Int) (t192 : Int) (s193 : Int) (ht195 : t130 ≤ t192 ∧ t192 ≤ t130 + 2) (hq196 : v191 ∈ ([1, 25, 50, 75, 99, 100, 101, 0] : List Int)) (hq199 : (0 : Int) ≤ v191 ∧ v191 ≤ 101) : 2 = (⟨2, v191⟩ : ScanStep).Kind := by
  first | rfl | omega | grind
theorem z_c___spec_l1Cur__scanStep_207 (Lc : List UInt8) (tc : Int) (sc : Int) (nc : Nat) (htc : 0 ≤ tc ∧ tc + 8 ≤ 4611686018427387904) (hbdc : (nc : Int) ≤ 9223372036854775807) (hlec : nc = Lc.length) (x : ScanJob) (nx_Tiles : Nat) (hbdx_Tiles : (nx_Tiles : Int) ≤ 9223372036854775807) (hlex_Tiles : nx_Tiles = x.Tiles.length) (v19 : Bool) (t20 : Int) (s21 : Int) (ht23 : tc ≤ t20 ∧ t20 ≤ tc + 2) (h26 : v19 = false) (h72 : ¬ (x.State = 0)) (h81 : ¬ (x.State = 2)) (h108 : x.Next = (nx_Tiles : Int)) (v111 : Bool) (t112 : Int) (s113 : Int) (ht115 : t20 ≤ t112 ∧ t112 ≤ t20 + 2) (h118 : v111 = false) (v129 : Int) (t130 : Int) (s131 : Int) (ht133 : t112 ≤ t130 ∧ t130 ≤ t112 + 2) (hq134 : (0 : Int) ≤ v129 ∧ ((v129 : Int) < 10 ∨ (v129 : Int) = 0)) (h137 : ¬ (v129 = 0)) (h146 : ¬ (v129 = 1)) (h155 : ¬ (v129 = 2)) (h164 : ¬ (v129 = 3)) (h173 : ¬ (v129 = 4)) (v191 : Int) (t192 : Int) (s193 : Int) (ht195 : t130 ≤ t192 ∧ t192 ≤ t130 + 2) (hq196 : v191 ∈ ([1, 25, 50, 75, 99, 100, 101, 0] : List Int)) (hq199 : (0 : Int) ≤ v191 ∧ v191 ≤ 101) : v191 = (⟨2, v191⟩ : ScanStep).Value := by
  first | rfl | omega | grind
theorem z_c___spec_l1Cur__scanStep_225 (Lc : List UInt8) (tc : Int) (sc : Int) (nc : Nat) (htc : 0 ≤ tc ∧ tc + 8 ≤ 4611686018427387904) (hbdc : (nc : Int) ≤ 9223372036854775807) (hlec : nc = Lc.length) (x : ScanJob) (nx_Tiles : Nat) (hbdx_Tiles : (nx_Tiles : Int) ≤ 9223372036854775807) (hlex_Tiles : nx_Tiles = x.Tiles.length) (v19 : Bool) (t20 : Int) (s21 : Int) (ht23 : tc ≤ t20 ∧ t20 ≤ tc + 2) (h26 : v19 = false) (h72 : ¬ (x.State = 0)) (h81 : ¬ (x.State = 2)) (h108 : ¬ (x.Next = (nx_Tiles : Int))) (v210 : Int) (t211 : Int) (s212 : Int) (ht214 : t20 ≤ t211 ∧ t211 ≤ t20 + 2) (hq215 : (0 : Int) ≤ v210 ∧ ((v210 : Int) < 10 ∨ (v210 : Int) = 0)) (h218 : v210 = 0) : 3 = (⟨3, 0⟩ : ScanStep).Kind := by
  first | rfl | omega | grind
theorem z_c___spec_l1Cur__scanStep_226 (Lc : List UInt8) (tc : Int) (sc : Int) (nc : Nat) (htc : 0 ≤ tc ∧ tc + 8 ≤ 4611686018427387904) (hbdc : (nc : Int) ≤ 9223372036854775807) (hlec : nc = Lc.length) (x : ScanJob) (nx_Tiles : Nat) (hbdx_Tiles : (nx_Tiles : Int) ≤ 9223372036854775807) (hlex_Tiles : nx_Tiles = x.Tiles.length) (v19 : Bool) (t20 : Int) (s21 : Int) (ht23 : tc ≤ t20 ∧ t20 ≤ tc + 2) (h26 : v19 = false) (h72 : ¬ (x.State = 0)) (h81 : ¬ (x.State = 2)) (h108 : ¬ (x.Next = (nx_Tiles : Int))) (v210 : Int) (t211 : Int) (s212 : Int) (ht214 : t20 ≤ t211 ∧ t211 ≤ t20 + 2) (hq215 : (0 : Int) ≤ v210 ∧ ((v210 : Int) < 10 ∨ (v210 : Int) = 0)) (h218 : v210 = 0) : 0 = (⟨3, 0⟩ : ScanStep).Value := by
  first | rfl | omega | grind
theorem z_c___spec_l1Cur__scanStep_234 (Lc : List UInt8) (tc : Int) (sc : Int) (nc : Nat) (htc : 0 ≤ tc ∧ tc + 8 ≤ 4611686018427387904) (hbdc : (nc : Int) ≤ 9223372036854775807) (hlec : nc = Lc.length) (x : ScanJob) (nx_Tiles : Nat) (hbdx_Tiles : (nx_Tiles : Int) ≤ 9223372036854775807) (hlex_Tiles : nx_Tiles = x.Tiles.length) (v19 : Bool) (t20 : Int) (s21 : Int) (ht23 : tc ≤ t20 ∧ t20 ≤ tc + 2) (h26 : v19 = false) (h72 : ¬ (x.State = 0)) (h81 : ¬ (x.State = 2)) (h108 : ¬ (x.Next = (nx_Tiles : Int))) (v210 : Int) (t211 : Int) (s212 : Int) (ht214 : t20 ≤ t211 ∧ t211 ≤ t20 + 2) (hq215 : (0 : Int) ≤ v210 ∧ ((v210 : Int) < 10 ∨ (v210 : Int) = 0)) (h218 : ¬ (v210 = 0)) (h227 : v210 = 1) : 3 = (⟨3, 0⟩ : ScanStep).Kind := by
  first | rfl | omega | grind
theorem z_c___spec_l1Cur__scanStep_235 (Lc : List UInt8) (tc : Int) (sc : Int) (nc : Nat) (htc : 0 ≤ tc ∧ tc + 8 ≤ 4611686018427387904) (hbdc : (nc : Int) ≤ 9223372036854775807) (hlec : nc = Lc.length) (x : ScanJob) (nx_Tiles : Nat) (hbdx_Tiles : (nx_Tiles : Int) ≤ 9223372036854775807) (hlex_Tiles : nx_Tiles = x.Tiles.length) (v19 : Bool) (t20 : Int) (s21 : Int) (ht23 : tc ≤ t20 ∧ t20 ≤ tc + 2) (h26 : v19 = false) (h72 : ¬ (x.State = 0)) (h81 : ¬ (x.State = 2)) (h108 : ¬ (x.Next = (nx_Tiles : Int))) (v210 : Int) (t211 : Int) (s212 : Int) (ht214 : t20 ≤ t211 ∧ t211 ≤ t20 + 2) (hq215 : (0 : Int) ≤ v210 ∧ ((v210 : Int) < 10 ∨ (v210 : Int) = 0)) (h218 : ¬ (v210 = 0)) (h227 : v210 = 1) : 0 = (⟨3, 0⟩ : ScanStep).Value := by
  first | rfl | omega | grind
theorem z_c___spec_l1Cur__scanStep_243 (Lc : List UInt8) (tc : Int) (sc : Int) (nc : Nat) (htc : 0 ≤ tc ∧ tc + 8 ≤ 4611686018427387904) (hbdc : (nc : Int) ≤ 9223372036854775807) (hlec : nc = Lc.length) (x : ScanJob) (nx_Tiles : Nat) (hbdx_Tiles : (nx_Tiles : Int) ≤ 9223372036854775807) (hlex_Tiles : nx_Tiles = x.Tiles.length) (v19 : Bool) (t20 : Int) (s21 : Int) (ht23 : tc ≤ t20 ∧ t20 ≤ tc + 2) (h26 : v19 = false) (h72 : ¬ (x.State = 0)) (h81 : ¬ (x.State = 2)) (h108 : ¬ (x.Next = (nx_Tiles : Int))) (v210 : Int) (t211 : Int) (s212 : Int) (ht214 : t20 ≤ t211 ∧ t211 ≤ t20 + 2) (hq215 : (0 : Int) ≤ v210 ∧ ((v210 : Int) < 10 ∨ (v210 : Int) = 0)) (h218 : ¬ (v210 = 0)) (h227 : ¬ (v210 = 1)) (h236 : v210 = 2) : 3 = (⟨3, 0⟩ : ScanStep).Kind := by
  first | rfl | omega | grind
theorem z_c___spec_l1Cur__scanStep_244 (Lc : List UInt8) (tc : Int) (sc : Int) (nc : Nat) (htc : 0 ≤ tc ∧ tc + 8 ≤ 4611686018427387904) (hbdc : (nc : Int) ≤ 9223372036854775807) (hlec : nc = Lc.length) (x : ScanJob) (nx_Tiles : Nat) (hbdx_Tiles : (nx_Tiles : Int) ≤ 9223372036854775807) (hlex_Tiles : nx_Tiles = x.Tiles.length) (v19 : Bool) (t20 : Int) (s21 : Int) (ht23 : tc ≤ t20 ∧ t20 ≤ tc + 2) (h26 : v19 = false) (h72 : ¬ (x.State = 0)) (h81 : ¬ (x.State = 2)) (h108 : ¬ (x.Next = (nx_Tiles : Int))) (v210 : Int) (t211 : Int) (s212 : Int) (ht214 : t20 ≤ t211 ∧ t211 ≤ t20 + 2) (hq215 : (0 : Int) ≤ v210 ∧ ((v210 : Int) < 10 ∨ (v210 : Int) = 0)) (h218 : ¬ (v210 = 0)) (h227 : ¬ (v210 = 1)) (h236 : v210 = 2) : 0 = (⟨3, 0⟩ : ScanStep).Value := by
  first | rfl | omega | grind
theorem z_c___spec_l1Cur__scanStep_252 (Lc : List UInt8) (tc : Int) (sc : Int) (nc : Nat) (htc : 0 ≤ tc ∧ tc + 8 ≤ 4611686018427387904) (hbdc : (nc : Int) ≤ 9223372036854775807) (hlec : nc = Lc.length) (x : ScanJob) (nx_Tiles : Nat) (hbdx_Tiles : (nx_Tiles : Int) ≤ 9223372036854775807) (hlex_Tiles : nx_Tiles = x.Tiles.length) (v19 : Bool) (t20 : Int) (s21 : Int) (ht23 : tc ≤ t20 ∧ t20 ≤ tc + 2) (h26 : v19 = false) (h72 : ¬ (x.State = 0)) (h81 : ¬ (x.State = 2)) (h108 : ¬ (x.Next = (nx_Tiles : Int))) (v210 : Int) (t211 : Int) (s212 : Int) (ht214 : t20 ≤ t211 ∧ t211 ≤ t20 + 2) (hq215 : (0 : Int) ≤ v210 ∧ ((v210 : Int) < 10 ∨ (v210 : Int) = 0)) (h218 : ¬ (v210 = 0)) (h227 : ¬ (v210 = 1)) (h236 : ¬ (v210 = 2)) (h245 : v210 = 3) : 4 = (⟨4, 0⟩ : ScanStep).Kind := by
  first | rfl | omega | grind
theorem z_c___spec_l1Cur__scanStep_253 (Lc : List UInt8) (tc : Int) (sc : Int) (nc : Nat) (htc : 0 ≤ tc ∧ tc + 8 ≤ 4611686018427387904) (hbdc : (nc : Int) ≤ 9223372036854775807) (hlec : nc = Lc.length) (x : ScanJob) (nx_Tiles : Nat) (hbdx_Tiles : (nx_Tiles : Int) ≤ 9223372036854775807) (hlex_Tiles : nx_Tiles = x.Tiles.length) (v19 : Bool) (t20 : Int) (s21 : Int) (ht23 : tc ≤ t20 ∧ t20 ≤ tc + 2) (h26 : v19 = false) (h72 : ¬ (x.State = 0)) (h81 : ¬ (x.State = 2)) (h108 : ¬ (x.Next = (nx_Tiles : Int))) (v210 : Int) (t211 : Int) (s212 : Int) (ht214 : t20 ≤ t211 ∧ t211 ≤ t20 + 2) (hq215 : (0 : Int) ≤ v210 ∧ ((v210 : Int) < 10 ∨ (v210 : Int) = 0)) (h218 : ¬ (v210 = 0)) (h227 : ¬ (v210 = 1)) (h236 : ¬ (v210 = 2)) (h245 : v210 = 3) : 0 = (⟨4, 0⟩ : ScanStep).Value := by
  first | rfl | omega | grind
theorem z_c___spec_l1Cur__scanStep_261 (Lc : List UInt8) (tc : Int) (sc : Int) (nc : Nat) (htc : 0 ≤ tc ∧ tc + 8 ≤ 4611686018427387904) (hbdc : (nc : Int) ≤ 9223372036854775807) (hlec : nc = Lc.length) (x : ScanJob) (nx_Tiles : Nat) (hbdx_Tiles : (nx_Tiles : Int) ≤ 9223372036854775807) (hlex_Tiles : nx_Tiles = x.Tiles.length) (v19 : Bool) (t20 : Int) (s21 : Int) (ht23 : tc ≤ t20 ∧ t20 ≤ tc + 2) (h26 : v19 = false) (h72 : ¬ (x.State = 0)) (h81 : ¬ (x.State = 2)) (h108 : ¬ (x.Next = (nx_Tiles : Int))) (v210 : Int) (t211 : Int) (s212 : Int) (ht214 : t20 ≤ t211 ∧ t211 ≤ t20 + 2) (hq215 : (0 : Int) ≤ v210 ∧ ((v210 : Int) < 10 ∨ (v210 : Int) = 0)) (h218 : ¬ (v210 = 0)) (h227 : ¬ (v210 = 1)) (h236 : ¬ (v210 = 2)) (h245 : ¬ (v210 = 3)) (h254 : v210 = 4) : 6 = (⟨6, 0⟩ : ScanStep).Kind := by
  first | rfl | omega | grind
theorem z_c___spec_l1Cur__scanStep_262 (Lc : List UInt8) (tc : Int) (sc : Int) (nc : Nat) (htc : 0 ≤ tc ∧ tc + 8 ≤ 4611686018427387904) (hbdc : (nc : Int) ≤ 9223372036854775807) (hlec : nc = Lc.length) (x : ScanJob) (nx_Tiles : Nat) (hbdx_Tiles : (nx_Tiles : Int) ≤ 9223372036854775807) (hlex_Tiles : nx_Tiles = x.Tiles.length) (v19 : Bool) (t20 : Int) (s21 : Int) (ht23 : tc ≤ t20 ∧ t20 ≤ tc + 2) (h26 : v19 = false) (h72 : ¬ (x.State = 0)) (h81 : ¬ (x.State = 2)) (h108 : ¬ (x.Next = (nx_Tiles : Int))) (v210 : Int) (t211 : Int) (s212 : Int) (ht214 : t20 ≤ t211 ∧ t211 ≤ t20 + 2) (hq215 : (0 : Int) ≤ v210 ∧ ((v210 : Int) < 10 ∨ (v210 : Int) = 0)) (h218 : ¬ (v210 = 0)) (h227 : ¬ (v210 = 1)) (h236 : ¬ (v210 = 2)) (h245 : ¬ (v210 = 3)) (h254 : v210 = 4) : 0 = (⟨6, 0⟩ : ScanStep).Value := by
  first | rfl | omega | grind
theorem z_c___spec_l1Cur__scanStep_287 (Lc : List UInt8) (tc : Int) (sc : Int) (nc : Nat) (htc : 0 ≤ tc ∧ tc + 8 ≤ 4611686018427387904) (hbdc : (nc : Int) ≤ 9223372036854775807) (hlec : nc = Lc.length) (x : ScanJob) (nx_Tiles : Nat) (hbdx_Tiles : (nx_Tiles : Int) ≤ 9223372036854775807) (hlex_Tiles : nx_Tiles = x.Tiles.length) (v19 : Bool) (t20 : Int) (s21 : Int) (ht23 : tc ≤ t20 ∧ t20 ≤ tc + 2) (h26 : v19 = false) (h72 : ¬ (x.State = 0)) (h81 : ¬ (x.State = 2)) (h108 : ¬ (x.Next = (nx_Tiles : Int))) (v210 : Int) (t211 : Int) (s212 : Int) (ht214 : t20 ≤ t211 ∧ t211 ≤ t20 + 2) (hq215 : (0 : Int) ≤ v210 ∧ ((v210 : Int) < 10 ∨ (v210 : Int) = 0)) (h218 : ¬ (v210 = 0)) (h227 : ¬ (v210 = 1)) (h236 : ¬ (v210 = 2)) (h245 : ¬ (v210 = 3)) (h254 : ¬ (v210 = 4)) (v272 : Int) (t273 : Int) (s274 : Int) (ht276 : t211 ≤ t273 ∧ t273 ≤ t211 + 2) (hq277 : v272 ∈ ([1, 25, 50, 75, 99, 100, 101, 0] : List Int)) (hq280 : (0 : Int) ≤ v272 ∧ v272 ≤ 101) : 2 = (⟨2, v272⟩ : ScanStep).Kind := by
  first | rfl | omega | grind
theorem z_c___spec_l1Cur__scanStep_288 (Lc : List UInt8) (tc : Int) (sc : Int) (nc : Nat) (htc : 0 ≤ tc ∧ tc + 8 ≤ 4611686018427387904) (hbdc : (nc : Int) ≤ 9223372036854775807) (hlec : nc = Lc.length) (x : ScanJob) (nx_Tiles : Nat) (hbdx_Tiles : (nx_Tiles : Int) ≤ 9223372036854775807) (hlex_Tiles : nx_Tiles = x.Tiles.length) (v19 : Bool) (t20 : Int) (s21 : Int) (ht23 : tc ≤ t20 ∧ t20 ≤ tc + 2) (h26 : v19 = false) (h72 : ¬ (x.State = 0)) (h81 : ¬ (x.State = 2)) (h108 : ¬ (x.Next = (nx_Tiles : Int))) (v210 : Int) (t211 : Int) (s212 : Int) (ht214 : t20 ≤ t211 ∧ t211 ≤ t20 + 2) (hq215 : (0 : Int) ≤ v210 ∧ ((v210 : Int) < 10 ∨ (v210 : Int) = 0)) (h218 : ¬ (v210 = 0)) (h227 : ¬ (v210 = 1)) (h236 : ¬ (v210 = 2)) (h245 : ¬ (v210 = 3)) (h254 : ¬ (v210 = 4)) (v272 : Int) (t273 : Int) (s274 : Int) (ht276 : t211 ≤ t273 ∧ t273 ≤ t211 + 2) (hq277 : v272 ∈ ([1, 25, 50, 75, 99, 100, 101, 0] : List Int)) (hq280 : (0 : Int) ≤ v272 ∧ v272 ≤ 101) : v272 = (⟨2, v272⟩ : ScanStep).Value := by
  first | rfl | omega | grind
theorem c___spec_l1Cur__scanStep (w : World) {gc ec : Nat} {Ac : Option Addr} {nc cc Bc : Nat} (Lc : List UInt8) (tc sc : Int) (hc : Blk w gc ec [.slice Ac nc cc, .int .i64 tc, .int .u64 sc]) (hLc : SlR w Bc encB 1 Ac nc cc Lc) (hgc : Bc ≤ gc) (htc : 0 ≤ tc ∧ tc + 8 ≤ 4611686018427387904) (x : ScanJob) {Ax_Tiles : Option Addr} {nx_Tiles cx_Tiles Bx_Tiles : Nat} (hx_Tiles : SlR w Bx_Tiles encI 1 Ax_Tiles nx_Tiles cx_Tiles x.Tiles) : Calls Tryd.prog 124 #[.pointer (some ⟨gc, 0, none⟩), .agg (List.toArray [.int .i64 x.State, .slice Ax_Tiles nx_Tiles cx_Tiles, .int .i64 x.Next, .int .i64 x.Fails, .int .i64 x.Size])] w fun e w' => ∃ (s : ScanStep) (tc' sc' : Int), e = .returned (.agg (List.toArray [.int .i64 s.Kind, .int .i64 s.Value])) ∧ Blk w' gc ec [.slice Ac nc cc, .int .i64 tc', .int .u64 sc'] ∧ (tc ≤ tc' ∧ tc' ≤ tc + 8) ∧ Kp (fun b_ => b_ = gc) w w' := by
  refine calls_W 53 Tryd.func124 rfl rfl rfl ?_
  have hBlc := hc.lt
  have hbdc := hLc.bound
  have hlec := hLc.len
  have hBbc := hLc.bd
  have hbdx_Tiles := hx_Tiles.bound
  have hlex_Tiles := hx_Tiles.len
  have hBbx_Tiles := hx_Tiles.bd
  refine W.seq ?_
  refine W.regS (SR.box (v := .agg (List.toArray _)) (l := [.int .i64 x.State, .slice Ax_Tiles nx_Tiles cx_Tiles, .int .i64 x.Next, .int .i64 x.Fails, .int .i64 x.Size]) rfl rfl ?_)
  intro g1 w2 hg3 hk4 hs5 hb6
  have hz7 := hk4.size
  have hB8 := (Kp.refl w : Kp (fun b_ => b_ = gc) w w).lo hk4
  refine SR.alloc (l := [.int .i64 0, .int .i64 0]) tz60 rfl ?_
  intro g9 w10 hg11 hk12 hs13 hb14
  have hz15 := hk12.size
  have hB16 := hB8.lo hk12
  refine SR.nil ?_
  refine W.seq ?_
  refine W.seq ?_
  refine W.regS (SR.q' (r_mv (v := .pointer (some _)) rfl) <| SR.call ent118 (c___spec_l1Cur__one w10 Lc tc sc (((hc).lo hk4).lo hk12) ((((hLc).lo hk4).lo hk12)) (by omega) (by omega) 40 (by first | omega | (simp only [List.length_append, List.length_cons, List.length_nil, List.length_take, List.length_drop]; omega))) rfl ?_)
  rintro e w17 ⟨v19, t20, s21, rfl, hb22, ht23, hk18⟩
  refine ⟨_, rfl, ?_⟩
  have hz24 := hk18.size
  have hB25 := hB16.step hk18 (fun i_ hi_ e' => e')
  refine SR.nil ?_
  refine W.cond_b rfl (fun h26 => ?_) (fun h26 => ?_)
  · refine W.seq ?_
    refine W.regS (SR.q' (r_mv (v := .pointer (some _)) rfl) <| SR.lit (vs := [.int .i64 0, .int .i64 7, .int .i64 2]) (L := ([0, 7, 2] : List Int)) (enc := encI) tel38 (fun _ => rfl) rfl rfl rfl (by decide) ?_)
    intro g27 w28 hg29 hk30 hO31
    have hz32 := hk30.size
    have hB33 := hB25.lo hk30
    refine SR.call ent54 (c___spec_l1Cur__among w28 Lc t20 s21 ((hb22).lo hk30) ((((((hLc).lo hk4).lo hk12).kp hk18 (fun b_ hb e' => by have e'' : b_ = gc := e'; omega)).lo hk30)) (by omega) (by omega) ([0, 7, 2] : List Int) (((hO31).rd)) (by omega) (by omega) (show ¬ g27 = gc from by omega)) rfl ?_
    rintro e w34 ⟨v36, t37, s38, rfl, hb39, ht40, hq41, hk35⟩
    refine ⟨_, rfl, ?_⟩
    have hz42 := hk35.size
    have hB43 := hB33.step hk35 (fun i_ hi_ e' => e')
    have hq44 : (0 : Int) ≤ v36 ∧ v36 ≤ 7 := mem_rngB (lo := 0) (hi := 7) (by decide) hq41
    refine SR.q' (r_mv (v := .pointer (some _)) rfl) <| SR.lit (vs := [.int .i64 0, .int .i64 1, .int .i64 (-1)]) (L := ([0, 1, (-1)] : List Int)) (enc := encI) tel38 (fun _ => rfl) rfl rfl rfl (by decide) ?_
    intro g45 w46 hg47 hk48 hO49
    have hz50 := hk48.size
    have hB51 := hB43.lo hk48
    have hd52 : ¬ (some (⟨g27, 0, none⟩ : Addr)) = some ⟨g45, 0, none⟩ := fun e' => by have := ((hO31).kp hk35 (fun b_ hb e' => by have e'' : b_ = gc := e'; have := (hO31).base_le hb; omega)).base_le e'; omega
    refine SR.call ent54 (c___spec_l1Cur__among w46 Lc t37 s38 ((hb39).lo hk48) ((((((((hLc).lo hk4).lo hk12).kp hk18 (fun b_ hb e' => by have e'' : b_ = gc := e'; omega)).lo hk30).kp hk35 (fun b_ hb e' => by have e'' : b_ = gc := e'; omega)).lo hk48)) (by omega) (by omega) ([0, 1, (-1)] : List Int) (((hO49).rd)) (by omega) (by omega) (show ¬ g45 = gc from by omega)) rfl ?_
    rintro e w53 ⟨v55, t56, s57, rfl, hb58, ht59, hq60, hk54⟩
    refine ⟨_, rfl, ?_⟩
    have hz61 := hk54.size
    have hB62 := hB51.step hk54 (fun i_ hi_ e' => e')
    have hq63 : ((-1) : Int) ≤ v55 ∧ v55 ≤ 1 := mem_rngB (lo := (-1)) (hi := 1) (by decide) hq60
    refine SR.q' (r_build (vs := [(0, .int .i64 v36), (1, .int .i64 v55)]) rfl (bld60_0_1 _ _)) <| SR.store (o := 0) (vs := [.int .i64 v36, .int .i64 v55]) agg60.2 rfl rfl rfl rfl ((((((hb14).kp hk18 (fun e' => by have e'' : g9 = gc := e'; omega)).lo hk30).kp hk35 (fun e' => by have e'' : g9 = gc := e'; omega)).lo hk48).kp hk54 (fun e' => by have e'' : g9 = gc := e'; omega)) (Nat.le_of_ble_eq_true rfl) rfl ?_
    intro w64 hk65 hs66 hb67
    have hz68 := hk65.size
    have hB69 := hB62.new hk65 (by omega)
    refine SR.nil ?_
    refine W.ret ?_
    refine retC rfl rfl agg60 (hb67) rfl ?_
    exact ⟨(⟨v36, v55⟩ : ScanStep), t56, s57, eR (eA (eC (eI (z_c___spec_l1Cur__scanStep_70 Lc tc sc nc htc hbdc hlec x nx_Tiles hbdx_Tiles hlex_Tiles v19 t20 s21 ht23 h26 v36 t37 s38 ht40 hq41 hq44 v55 t56 s57 ht59 hq60 hq63)) (eC (eI (z_c___spec_l1Cur__scanStep_71 Lc tc sc nc htc hbdc hlec x nx_Tiles hbdx_Tiles hlex_Tiles v19 t20 s21 ht23 h26 v36 t37 s38 ht40 hq41 hq44 v55 t56 s57 ht59 hq60 hq63)) rfl))), ((hb58).kp hk65 (fun e' => by have e'' : gc = g9 := e'; omega)), ⟨by omega, by omega⟩, hB69⟩
  · refine W.skip ?_
    refine W.seq ?_
    refine W.seq ?_
    refine W.regS (SR.q' (r_fa fa57_0 rfl) <| SR.q' (r_ld (v := .int .i64 x.State) sca3 rfl ((((hb6).lo hk12).kp hk18 (fun e' => by have e'' : g1 = gc := e'; omega)).cell rfl)) <| SR.nil ?_)
    refine W.block ?_
    refine W.seq ?_
    refine W.regS (SR.q' (r_eq rfl rfl) <| SR.q' (r_as (v := .bool _) rfl) <| SR.nil ?_)
    refine W.cond_d rfl (fun h72 => ?_) (fun h72 => ?_)
    · refine W.seq ?_
      refine W.regS (SR.q' (r_build (vs := [(0, .int .i64 1)]) rfl (bld60_0 _)) <| SR.store (o := 0) (vs := [.int .i64 1, .int .i64 0]) agg60.2 rfl rfl rfl rfl ((hb14).kp hk18 (fun e' => by have e'' : g9 = gc := e'; omega)) (Nat.le_of_ble_eq_true rfl) rfl ?_)
      intro w73 hk74 hs75 hb76
      have hz77 := hk74.size
      have hB78 := hB25.new hk74 (by omega)
      refine SR.nil ?_
      refine W.ret ?_
      refine retC rfl rfl agg60 (hb76) rfl ?_
      exact ⟨(⟨1, 0⟩ : ScanStep), t20, s21, eR (eA (eC (eI (z_c___spec_l1Cur__scanStep_79 Lc tc sc nc htc hbdc hlec x nx_Tiles hbdx_Tiles hlex_Tiles v19 t20 s21 ht23 h26 h72)) (eC (eI (z_c___spec_l1Cur__scanStep_80 Lc tc sc nc htc hbdc hlec x nx_Tiles hbdx_Tiles hlex_Tiles v19 t20 s21 ht23 h26 h72)) rfl))), ((hb22).kp hk74 (fun e' => by have e'' : gc = g9 := e'; omega)), ⟨by omega, by omega⟩, hB78⟩
    · refine W.seq ?_
      refine W.regS (SR.q' (r_eq rfl rfl) <| SR.q' (r_as (v := .bool _) rfl) <| SR.nil ?_)
      refine W.cond_d rfl (fun h81 => ?_) (fun h81 => ?_)
      · refine W.seq ?_
        refine W.regS (SR.q' (r_mv (v := .pointer (some _)) rfl) <| SR.lit (vs := [.int .i64 0, .int .i64 0, .int .i64 0, .int .i64 30, .int .i64 60, .int .i64 100, .int .i64 101]) (L := ([0, 0, 0, 30, 60, 100, 101] : List Int)) (enc := encI) tel38 (fun _ => rfl) rfl rfl rfl (by decide) ?_)
        intro g82 w83 hg84 hk85 hO86
        have hz87 := hk85.size
        have hB88 := hB25.lo hk85
        refine SR.call ent54 (c___spec_l1Cur__among w83 Lc t20 s21 ((hb22).lo hk85) ((((((hLc).lo hk4).lo hk12).kp hk18 (fun b_ hb e' => by have e'' : b_ = gc := e'; omega)).lo hk85)) (by omega) (by omega) ([0, 0, 0, 30, 60, 100, 101] : List Int) (((hO86).rd)) (by omega) (by omega) (show ¬ g82 = gc from by omega)) rfl ?_
        rintro e w89 ⟨v91, t92, s93, rfl, hb94, ht95, hq96, hk90⟩
        refine ⟨_, rfl, ?_⟩
        have hz97 := hk90.size
        have hB98 := hB88.step hk90 (fun i_ hi_ e' => e')
        have hq99 : (0 : Int) ≤ v91 ∧ v91 ≤ 101 := mem_rngB (lo := 0) (hi := 101) (by decide) hq96
        refine SR.q' (r_build (vs := [(0, .int .i64 5), (1, .int .i64 v91)]) rfl (bld60_0_1 _ _)) <| SR.store (o := 0) (vs := [.int .i64 5, .int .i64 v91]) agg60.2 rfl rfl rfl rfl ((((hb14).kp hk18 (fun e' => by have e'' : g9 = gc := e'; omega)).lo hk85).kp hk90 (fun e' => by have e'' : g9 = gc := e'; omega)) (Nat.le_of_ble_eq_true rfl) rfl ?_
        intro w100 hk101 hs102 hb103
        have hz104 := hk101.size
        have hB105 := hB98.new hk101 (by omega)
        refine SR.nil ?_
        refine W.ret ?_
        refine retC rfl rfl agg60 (hb103) rfl ?_
        exact ⟨(⟨5, v91⟩ : ScanStep), t92, s93, eR (eA (eC (eI (z_c___spec_l1Cur__scanStep_106 Lc tc sc nc htc hbdc hlec x nx_Tiles hbdx_Tiles hlex_Tiles v19 t20 s21 ht23 h26 h72 h81 v91 t92 s93 ht95 hq96 hq99)) (eC (eI (z_c___spec_l1Cur__scanStep_107 Lc tc sc nc htc hbdc hlec x nx_Tiles hbdx_Tiles hlex_Tiles v19 t20 s21 ht23 h26 h72 h81 v91 t92 s93 ht95 hq96 hq99)) rfl))), ((hb94).kp hk101 (fun e' => by have e'' : gc = g9 := e'; omega)), ⟨by omega, by omega⟩, hB105⟩
      · refine W.skip ?_
        refine W.seq ?_
        refine W.seq ?_
        refine W.regS (SR.q' (r_fa fa57_2 rfl) <| SR.q' (r_ld (v := .int .i64 x.Next) sca3 rfl ((((hb6).lo hk12).kp hk18 (fun e' => by have e'' : g1 = gc := e'; omega)).cell rfl)) <| SR.q' (r_fa fa57_1 rfl) <| SR.q' (r_ld (v := .slice Ax_Tiles nx_Tiles cx_Tiles) sca38 rfl ((((hb6).lo hk12).kp hk18 (fun e' => by have e'' : g1 = gc := e'; omega)).cell rfl)) <| SR.q' (r_len und38 rfl) <| SR.q' (r_eq rfl rfl) <| SR.q' (r_mv (v := .bool _) rfl) <| SR.splitD (fun h108 => ?_) (fun h108 => ?_))
        · refine SR.g' rfl (r_mv (v := .pointer (some _)) rfl) <| SR.gcall rfl ent118 (c___spec_l1Cur__one w17 Lc t20 s21 (hb22) (((((hLc).lo hk4).lo hk12).kp hk18 (fun b_ hb e' => by have e'' : b_ = gc := e'; omega))) (by omega) (by omega) 2 (by first | omega | (simp only [List.length_append, List.length_cons, List.length_nil, List.length_take, List.length_drop]; omega))) rfl ?_
          rintro e w109 ⟨v111, t112, s113, rfl, hb114, ht115, hk110⟩
          refine ⟨_, rfl, ?_⟩
          have hz116 := hk110.size
          have hB117 := hB25.step hk110 (fun i_ hi_ e' => e')
          refine SR.q' (r_pick true rfl (v := .bool _) rfl) <| SR.nil ?_
          refine W.cond_b rfl (fun h118 => ?_) (fun h118 => ?_)
          · refine W.seq ?_
            refine W.regS (SR.q' (r_build (vs := [(0, .int .i64 6)]) rfl (bld60_0 _)) <| SR.store (o := 0) (vs := [.int .i64 6, .int .i64 0]) agg60.2 rfl rfl rfl rfl (((hb14).kp hk18 (fun e' => by have e'' : g9 = gc := e'; omega)).kp hk110 (fun e' => by have e'' : g9 = gc := e'; omega)) (Nat.le_of_ble_eq_true rfl) rfl ?_)
            intro w119 hk120 hs121 hb122
            have hz123 := hk120.size
            have hB124 := hB117.new hk120 (by omega)
            refine SR.nil ?_
            refine W.ret ?_
            refine retC rfl rfl agg60 (hb122) rfl ?_
            exact ⟨(⟨6, 0⟩ : ScanStep), t112, s113, eR (eA (eC (eI (z_c___spec_l1Cur__scanStep_125 Lc tc sc nc htc hbdc hlec x nx_Tiles hbdx_Tiles hlex_Tiles v19 t20 s21 ht23 h26 h72 h81 h108 v111 t112 s113 ht115 h118)) (eC (eI (z_c___spec_l1Cur__scanStep_126 Lc tc sc nc htc hbdc hlec x nx_Tiles hbdx_Tiles hlex_Tiles v19 t20 s21 ht23 h26 h72 h81 h108 v111 t112 s113 ht115 h118)) rfl))), ((hb114).kp hk120 (fun e' => by have e'' : gc = g9 := e'; omega)), ⟨by omega, by omega⟩, hB124⟩
          · refine W.skip ?_
            refine W.seq ?_
            refine W.seq ?_
            refine W.regS (SR.q' (r_mv (v := .pointer (some _)) rfl) <| SR.call ent95 (c___spec_l1Cur__pick w109 Lc t112 s113 (hb114) ((((((hLc).lo hk4).lo hk12).kp hk18 (fun b_ hb e' => by have e'' : b_ = gc := e'; omega)).kp hk110 (fun b_ hb e' => by have e'' : b_ = gc := e'; omega))) (by omega) (by omega) 10 (by first | omega | (simp only [List.length_append, List.length_cons, List.length_nil, List.length_take, List.length_drop]; omega))) rfl ?_)
            rintro e w127 ⟨v129, t130, s131, rfl, hb132, ht133, hq134, hk128⟩
            refine ⟨_, rfl, ?_⟩
            have hz135 := hk128.size
            have hB136 := hB117.step hk128 (fun i_ hi_ e' => e')
            refine SR.nil ?_
            refine W.block ?_
            refine W.seq ?_
            refine W.seq ?_
            refine W.regS (SR.q' (r_eq rfl rfl) <| SR.q' (r_as (v := .bool _) rfl) <| SR.nil ?_)
            refine W.cond_d rfl (fun h137 => ?_) (fun h137 => ?_)
            · refine W.skip ?_
              refine W.cond_t (congrArg Value.bool (decide_eq_true h137)) ?_
              refine W.seq ?_
              refine W.regS (SR.q' (r_build (vs := [(0, .int .i64 3)]) rfl (bld60_0 _)) <| SR.store (o := 0) (vs := [.int .i64 3, .int .i64 0]) agg60.2 rfl rfl rfl rfl ((((hb14).kp hk18 (fun e' => by have e'' : g9 = gc := e'; omega)).kp hk110 (fun e' => by have e'' : g9 = gc := e'; omega)).kp hk128 (fun e' => by have e'' : g9 = gc := e'; omega)) (Nat.le_of_ble_eq_true rfl) rfl ?_)
              intro w138 hk139 hs140 hb141
              have hz142 := hk139.size
              have hB143 := hB136.new hk139 (by omega)
              refine SR.nil ?_
              refine W.ret ?_
              refine retC rfl rfl agg60 (hb141) rfl ?_
              exact ⟨(⟨3, 0⟩ : ScanStep), t130, s131, eR (eA (eC (eI (z_c___spec_l1Cur__scanStep_144 Lc tc sc nc htc hbdc hlec x nx_Tiles hbdx_Tiles hlex_Tiles v19 t20 s21 ht23 h26 h72 h81 h108 v111 t112 s113 ht115 h118 v129 t130 s131 ht133 hq134 h137)) (eC (eI (z_c___spec_l1Cur__scanStep_145 Lc tc sc nc htc hbdc hlec x nx_Tiles hbdx_Tiles hlex_Tiles v19 t20 s21 ht23 h26 h72 h81 h108 v111 t112 s113 ht115 h118 v129 t130 s131 ht133 hq134 h137)) rfl))), ((hb132).kp hk139 (fun e' => by have e'' : gc = g9 := e'; omega)), ⟨by omega, by omega⟩, hB143⟩
            · refine W.seq ?_
              refine W.regS (SR.q' (r_eq rfl rfl) <| SR.q' (r_as (v := .bool _) rfl) <| SR.nil ?_)
              refine W.cond_d rfl (fun h146 => ?_) (fun h146 => ?_)
              · refine W.skip ?_
                refine W.cond_t (congrArg Value.bool (decide_eq_true h146)) ?_
                refine W.seq ?_
                refine W.regS (SR.q' (r_build (vs := [(0, .int .i64 3)]) rfl (bld60_0 _)) <| SR.store (o := 0) (vs := [.int .i64 3, .int .i64 0]) agg60.2 rfl rfl rfl rfl ((((hb14).kp hk18 (fun e' => by have e'' : g9 = gc := e'; omega)).kp hk110 (fun e' => by have e'' : g9 = gc := e'; omega)).kp hk128 (fun e' => by have e'' : g9 = gc := e'; omega)) (Nat.le_of_ble_eq_true rfl) rfl ?_)
                intro w147 hk148 hs149 hb150
                have hz151 := hk148.size
                have hB152 := hB136.new hk148 (by omega)
                refine SR.nil ?_
                refine W.ret ?_
                refine retC rfl rfl agg60 (hb150) rfl ?_
                exact ⟨(⟨3, 0⟩ : ScanStep), t130, s131, eR (eA (eC (eI (z_c___spec_l1Cur__scanStep_153 Lc tc sc nc htc hbdc hlec x nx_Tiles hbdx_Tiles hlex_Tiles v19 t20 s21 ht23 h26 h72 h81 h108 v111 t112 s113 ht115 h118 v129 t130 s131 ht133 hq134 h137 h146)) (eC (eI (z_c___spec_l1Cur__scanStep_154 Lc tc sc nc htc hbdc hlec x nx_Tiles hbdx_Tiles hlex_Tiles v19 t20 s21 ht23 h26 h72 h81 h108 v111 t112 s113 ht115 h118 v129 t130 s131 ht133 hq134 h137 h146)) rfl))), ((hb132).kp hk148 (fun e' => by have e'' : gc = g9 := e'; omega)), ⟨by omega, by omega⟩, hB152⟩
              · refine W.regS (SR.q' (r_eq rfl rfl) <| SR.q' (r_as (v := .bool _) rfl) <| SR.nil ?_)
                refine W.cond_d rfl (fun h155 => ?_) (fun h155 => ?_)
                · refine W.seq ?_
                  refine W.regS (SR.q' (r_build (vs := [(0, .int .i64 3)]) rfl (bld60_0 _)) <| SR.store (o := 0) (vs := [.int .i64 3, .int .i64 0]) agg60.2 rfl rfl rfl rfl ((((hb14).kp hk18 (fun e' => by have e'' : g9 = gc := e'; omega)).kp hk110 (fun e' => by have e'' : g9 = gc := e'; omega)).kp hk128 (fun e' => by have e'' : g9 = gc := e'; omega)) (Nat.le_of_ble_eq_true rfl) rfl ?_)
                  intro w156 hk157 hs158 hb159
                  have hz160 := hk157.size
                  have hB161 := hB136.new hk157 (by omega)
                  refine SR.nil ?_
                  refine W.ret ?_
                  refine retC rfl rfl agg60 (hb159) rfl ?_
                  exact ⟨(⟨3, 0⟩ : ScanStep), t130, s131, eR (eA (eC (eI (z_c___spec_l1Cur__scanStep_162 Lc tc sc nc htc hbdc hlec x nx_Tiles hbdx_Tiles hlex_Tiles v19 t20 s21 ht23 h26 h72 h81 h108 v111 t112 s113 ht115 h118 v129 t130 s131 ht133 hq134 h137 h146 h155)) (eC (eI (z_c___spec_l1Cur__scanStep_163 Lc tc sc nc htc hbdc hlec x nx_Tiles hbdx_Tiles hlex_Tiles v19 t20 s21 ht23 h26 h72 h81 h108 v111 t112 s113 ht115 h118 v129 t130 s131 ht133 hq134 h137 h146 h155)) rfl))), ((hb132).kp hk157 (fun e' => by have e'' : gc = g9 := e'; omega)), ⟨by omega, by omega⟩, hB161⟩
                · refine W.seq ?_
                  refine W.regS (SR.q' (r_eq rfl rfl) <| SR.q' (r_as (v := .bool _) rfl) <| SR.nil ?_)
                  refine W.cond_d rfl (fun h164 => ?_) (fun h164 => ?_)
                  · refine W.seq ?_
                    refine W.regS (SR.q' (r_build (vs := [(0, .int .i64 4)]) rfl (bld60_0 _)) <| SR.store (o := 0) (vs := [.int .i64 4, .int .i64 0]) agg60.2 rfl rfl rfl rfl ((((hb14).kp hk18 (fun e' => by have e'' : g9 = gc := e'; omega)).kp hk110 (fun e' => by have e'' : g9 = gc := e'; omega)).kp hk128 (fun e' => by have e'' : g9 = gc := e'; omega)) (Nat.le_of_ble_eq_true rfl) rfl ?_)
                    intro w165 hk166 hs167 hb168
                    have hz169 := hk166.size
                    have hB170 := hB136.new hk166 (by omega)
                    refine SR.nil ?_
                    refine W.ret ?_
                    refine retC rfl rfl agg60 (hb168) rfl ?_
                    exact ⟨(⟨4, 0⟩ : ScanStep), t130, s131, eR (eA (eC (eI (z_c___spec_l1Cur__scanStep_171 Lc tc sc nc htc hbdc hlec x nx_Tiles hbdx_Tiles hlex_Tiles v19 t20 s21 ht23 h26 h72 h81 h108 v111 t112 s113 ht115 h118 v129 t130 s131 ht133 hq134 h137 h146 h155 h164)) (eC (eI (z_c___spec_l1Cur__scanStep_172 Lc tc sc nc htc hbdc hlec x nx_Tiles hbdx_Tiles hlex_Tiles v19 t20 s21 ht23 h26 h72 h81 h108 v111 t112 s113 ht115 h118 v129 t130 s131 ht133 hq134 h137 h146 h155 h164)) rfl))), ((hb132).kp hk166 (fun e' => by have e'' : gc = g9 := e'; omega)), ⟨by omega, by omega⟩, hB170⟩
                  · refine W.seq ?_
                    refine W.regS (SR.q' (r_eq rfl rfl) <| SR.q' (r_as (v := .bool _) rfl) <| SR.nil ?_)
                    refine W.cond_d rfl (fun h173 => ?_) (fun h173 => ?_)
                    · refine W.seq ?_
                      refine W.regS (SR.q' (r_build (vs := [(0, .int .i64 6)]) rfl (bld60_0 _)) <| SR.store (o := 0) (vs := [.int .i64 6, .int .i64 0]) agg60.2 rfl rfl rfl rfl ((((hb14).kp hk18 (fun e' => by have e'' : g9 = gc := e'; omega)).kp hk110 (fun e' => by have e'' : g9 = gc := e'; omega)).kp hk128 (fun e' => by have e'' : g9 = gc := e'; omega)) (Nat.le_of_ble_eq_true rfl) rfl ?_)
                      intro w174 hk175 hs176 hb177
                      have hz178 := hk175.size
                      have hB179 := hB136.new hk175 (by omega)
                      refine SR.nil ?_
                      refine W.ret ?_
                      refine retC rfl rfl agg60 (hb177) rfl ?_
                      exact ⟨(⟨6, 0⟩ : ScanStep), t130, s131, eR (eA (eC (eI (z_c___spec_l1Cur__scanStep_180 Lc tc sc nc htc hbdc hlec x nx_Tiles hbdx_Tiles hlex_Tiles v19 t20 s21 ht23 h26 h72 h81 h108 v111 t112 s113 ht115 h118 v129 t130 s131 ht133 hq134 h137 h146 h155 h164 h173)) (eC (eI (z_c___spec_l1Cur__scanStep_181 Lc tc sc nc htc hbdc hlec x nx_Tiles hbdx_Tiles hlex_Tiles v19 t20 s21 ht23 h26 h72 h81 h108 v111 t112 s113 ht115 h118 v129 t130 s131 ht133 hq134 h137 h146 h155 h164 h173)) rfl))), ((hb132).kp hk175 (fun e' => by have e'' : gc = g9 := e'; omega)), ⟨by omega, by omega⟩, hB179⟩
                    · refine W.skip ?_
                      refine W.seq ?_
                      refine W.regS (SR.q' (r_mv (v := .pointer (some _)) rfl) <| SR.lit (vs := [.int .i64 1, .int .i64 25, .int .i64 50, .int .i64 75, .int .i64 99, .int .i64 100, .int .i64 101, .int .i64 0]) (L := ([1, 25, 50, 75, 99, 100, 101, 0] : List Int)) (enc := encI) tel38 (fun _ => rfl) rfl rfl rfl (by decide) ?_)
                      intro g182 w183 hg184 hk185 hO186
                      have hz187 := hk185.size
                      have hB188 := hB136.lo hk185
                      refine SR.call ent54 (c___spec_l1Cur__among w183 Lc t130 s131 ((hb132).lo hk185) ((((((((hLc).lo hk4).lo hk12).kp hk18 (fun b_ hb e' => by have e'' : b_ = gc := e'; omega)).kp hk110 (fun b_ hb e' => by have e'' : b_ = gc := e'; omega)).kp hk128 (fun b_ hb e' => by have e'' : b_ = gc := e'; omega)).lo hk185)) (by omega) (by omega) ([1, 25, 50, 75, 99, 100, 101, 0] : List Int) (((hO186).rd)) (by omega) (by omega) (show ¬ g182 = gc from by omega)) rfl ?_
                      rintro e w189 ⟨v191, t192, s193, rfl, hb194, ht195, hq196, hk190⟩
                      refine ⟨_, rfl, ?_⟩
                      have hz197 := hk190.size
                      have hB198 := hB188.step hk190 (fun i_ hi_ e' => e')
                      have hq199 : (0 : Int) ≤ v191 ∧ v191 ≤ 101 := mem_rngB (lo := 0) (hi := 101) (by decide) hq196
                      refine SR.q' (r_build (vs := [(0, .int .i64 2), (1, .int .i64 v191)]) rfl (bld60_0_1 _ _)) <| SR.store (o := 0) (vs := [.int .i64 2, .int .i64 v191]) agg60.2 rfl rfl rfl rfl ((((((hb14).kp hk18 (fun e' => by have e'' : g9 = gc := e'; omega)).kp hk110 (fun e' => by have e'' : g9 = gc := e'; omega)).kp hk128 (fun e' => by have e'' : g9 = gc := e'; omega)).lo hk185).kp hk190 (fun e' => by have e'' : g9 = gc := e'; omega)) (Nat.le_of_ble_eq_true rfl) rfl ?_
                      intro w200 hk201 hs202 hb203
                      have hz204 := hk201.size
                      have hB205 := hB198.new hk201 (by omega)
                      refine SR.nil ?_
                      refine W.ret ?_
                      refine retC rfl rfl agg60 (hb203) rfl ?_
                      exact ⟨(⟨2, v191⟩ : ScanStep), t192, s193, eR (eA (eC (eI (z_c___spec_l1Cur__scanStep_206 Lc tc sc nc htc hbdc hlec x nx_Tiles hbdx_Tiles hlex_Tiles v19 t20 s21 ht23 h26 h72 h81 h108 v111 t112 s113 ht115 h118 v129 t130 s131 ht133 hq134 h137 h146 h155 h164 h173 v191 t192 s193 ht195 hq196 hq199)) (eC (eI (z_c___spec_l1Cur__scanStep_207 Lc tc sc nc htc hbdc hlec x nx_Tiles hbdx_Tiles hlex_Tiles v19 t20 s21 ht23 h26 h72 h81 h108 v111 t112 s113 ht115 h118 v129 t130 s131 ht133 hq134 h137 h146 h155 h164 h173 v191 t192 s193 ht195 hq196 hq199)) rfl))), ((hb194).kp hk201 (fun e' => by have e'' : gc = g9 := e'; omega)), ⟨by omega, by omega⟩, hB205⟩
        · refine SR.s' rfl <| SR.s' rfl <| SR.q' (r_pick false rfl (v := .bool false) rfl) <| SR.nil ?_
          refine W.cond_f rfl ?_
          refine W.skip ?_
          refine W.seq ?_
          refine W.seq ?_
          refine W.regS (SR.q' (r_mv (v := .pointer (some _)) rfl) <| SR.call ent95 (c___spec_l1Cur__pick w17 Lc t20 s21 (hb22) (((((hLc).lo hk4).lo hk12).kp hk18 (fun b_ hb e' => by have e'' : b_ = gc := e'; omega))) (by omega) (by omega) 10 (by first | omega | (simp only [List.length_append, List.length_cons, List.length_nil, List.length_take, List.length_drop]; omega))) rfl ?_)
          rintro e w208 ⟨v210, t211, s212, rfl, hb213, ht214, hq215, hk209⟩
          refine ⟨_, rfl, ?_⟩
          have hz216 := hk209.size
          have hB217 := hB25.step hk209 (fun i_ hi_ e' => e')
          refine SR.nil ?_
          refine W.block ?_
          refine W.seq ?_
          refine W.seq ?_
          refine W.regS (SR.q' (r_eq rfl rfl) <| SR.q' (r_as (v := .bool _) rfl) <| SR.nil ?_)
          refine W.cond_d rfl (fun h218 => ?_) (fun h218 => ?_)
          · refine W.skip ?_
            refine W.cond_t (congrArg Value.bool (decide_eq_true h218)) ?_
            refine W.seq ?_
            refine W.regS (SR.q' (r_build (vs := [(0, .int .i64 3)]) rfl (bld60_0 _)) <| SR.store (o := 0) (vs := [.int .i64 3, .int .i64 0]) agg60.2 rfl rfl rfl rfl (((hb14).kp hk18 (fun e' => by have e'' : g9 = gc := e'; omega)).kp hk209 (fun e' => by have e'' : g9 = gc := e'; omega)) (Nat.le_of_ble_eq_true rfl) rfl ?_)
            intro w219 hk220 hs221 hb222
            have hz223 := hk220.size
            have hB224 := hB217.new hk220 (by omega)
            refine SR.nil ?_
            refine W.ret ?_
            refine retC rfl rfl agg60 (hb222) rfl ?_
            exact ⟨(⟨3, 0⟩ : ScanStep), t211, s212, eR (eA (eC (eI (z_c___spec_l1Cur__scanStep_225 Lc tc sc nc htc hbdc hlec x nx_Tiles hbdx_Tiles hlex_Tiles v19 t20 s21 ht23 h26 h72 h81 h108 v210 t211 s212 ht214 hq215 h218)) (eC (eI (z_c___spec_l1Cur__scanStep_226 Lc tc sc nc htc hbdc hlec x nx_Tiles hbdx_Tiles hlex_Tiles v19 t20 s21 ht23 h26 h72 h81 h108 v210 t211 s212 ht214 hq215 h218)) rfl))), ((hb213).kp hk220 (fun e' => by have e'' : gc = g9 := e'; omega)), ⟨by omega, by omega⟩, hB224⟩
          · refine W.seq ?_
            refine W.regS (SR.q' (r_eq rfl rfl) <| SR.q' (r_as (v := .bool _) rfl) <| SR.nil ?_)
            refine W.cond_d rfl (fun h227 => ?_) (fun h227 => ?_)
            · refine W.skip ?_
              refine W.cond_t (congrArg Value.bool (decide_eq_true h227)) ?_
              refine W.seq ?_
              refine W.regS (SR.q' (r_build (vs := [(0, .int .i64 3)]) rfl (bld60_0 _)) <| SR.store (o := 0) (vs := [.int .i64 3, .int .i64 0]) agg60.2 rfl rfl rfl rfl (((hb14).kp hk18 (fun e' => by have e'' : g9 = gc := e'; omega)).kp hk209 (fun e' => by have e'' : g9 = gc := e'; omega)) (Nat.le_of_ble_eq_true rfl) rfl ?_)
              intro w228 hk229 hs230 hb231
              have hz232 := hk229.size
              have hB233 := hB217.new hk229 (by omega)
              refine SR.nil ?_
              refine W.ret ?_
              refine retC rfl rfl agg60 (hb231) rfl ?_
              exact ⟨(⟨3, 0⟩ : ScanStep), t211, s212, eR (eA (eC (eI (z_c___spec_l1Cur__scanStep_234 Lc tc sc nc htc hbdc hlec x nx_Tiles hbdx_Tiles hlex_Tiles v19 t20 s21 ht23 h26 h72 h81 h108 v210 t211 s212 ht214 hq215 h218 h227)) (eC (eI (z_c___spec_l1Cur__scanStep_235 Lc tc sc nc htc hbdc hlec x nx_Tiles hbdx_Tiles hlex_Tiles v19 t20 s21 ht23 h26 h72 h81 h108 v210 t211 s212 ht214 hq215 h218 h227)) rfl))), ((hb213).kp hk229 (fun e' => by have e'' : gc = g9 := e'; omega)), ⟨by omega, by omega⟩, hB233⟩
            · refine W.regS (SR.q' (r_eq rfl rfl) <| SR.q' (r_as (v := .bool _) rfl) <| SR.nil ?_)
              refine W.cond_d rfl (fun h236 => ?_) (fun h236 => ?_)
              · refine W.seq ?_
                refine W.regS (SR.q' (r_build (vs := [(0, .int .i64 3)]) rfl (bld60_0 _)) <| SR.store (o := 0) (vs := [.int .i64 3, .int .i64 0]) agg60.2 rfl rfl rfl rfl (((hb14).kp hk18 (fun e' => by have e'' : g9 = gc := e'; omega)).kp hk209 (fun e' => by have e'' : g9 = gc := e'; omega)) (Nat.le_of_ble_eq_true rfl) rfl ?_)
                intro w237 hk238 hs239 hb240
                have hz241 := hk238.size
                have hB242 := hB217.new hk238 (by omega)
                refine SR.nil ?_
                refine W.ret ?_
                refine retC rfl rfl agg60 (hb240) rfl ?_
                exact ⟨(⟨3, 0⟩ : ScanStep), t211, s212, eR (eA (eC (eI (z_c___spec_l1Cur__scanStep_243 Lc tc sc nc htc hbdc hlec x nx_Tiles hbdx_Tiles hlex_Tiles v19 t20 s21 ht23 h26 h72 h81 h108 v210 t211 s212 ht214 hq215 h218 h227 h236)) (eC (eI (z_c___spec_l1Cur__scanStep_244 Lc tc sc nc htc hbdc hlec x nx_Tiles hbdx_Tiles hlex_Tiles v19 t20 s21 ht23 h26 h72 h81 h108 v210 t211 s212 ht214 hq215 h218 h227 h236)) rfl))), ((hb213).kp hk238 (fun e' => by have e'' : gc = g9 := e'; omega)), ⟨by omega, by omega⟩, hB242⟩
              · refine W.seq ?_
                refine W.regS (SR.q' (r_eq rfl rfl) <| SR.q' (r_as (v := .bool _) rfl) <| SR.nil ?_)
                refine W.cond_d rfl (fun h245 => ?_) (fun h245 => ?_)
                · refine W.seq ?_
                  refine W.regS (SR.q' (r_build (vs := [(0, .int .i64 4)]) rfl (bld60_0 _)) <| SR.store (o := 0) (vs := [.int .i64 4, .int .i64 0]) agg60.2 rfl rfl rfl rfl (((hb14).kp hk18 (fun e' => by have e'' : g9 = gc := e'; omega)).kp hk209 (fun e' => by have e'' : g9 = gc := e'; omega)) (Nat.le_of_ble_eq_true rfl) rfl ?_)
                  intro w246 hk247 hs248 hb249
                  have hz250 := hk247.size
                  have hB251 := hB217.new hk247 (by omega)
                  refine SR.nil ?_
                  refine W.ret ?_
                  refine retC rfl rfl agg60 (hb249) rfl ?_
                  exact ⟨(⟨4, 0⟩ : ScanStep), t211, s212, eR (eA (eC (eI (z_c___spec_l1Cur__scanStep_252 Lc tc sc nc htc hbdc hlec x nx_Tiles hbdx_Tiles hlex_Tiles v19 t20 s21 ht23 h26 h72 h81 h108 v210 t211 s212 ht214 hq215 h218 h227 h236 h245)) (eC (eI (z_c___spec_l1Cur__scanStep_253 Lc tc sc nc htc hbdc hlec x nx_Tiles hbdx_Tiles hlex_Tiles v19 t20 s21 ht23 h26 h72 h81 h108 v210 t211 s212 ht214 hq215 h218 h227 h236 h245)) rfl))), ((hb213).kp hk247 (fun e' => by have e'' : gc = g9 := e'; omega)), ⟨by omega, by omega⟩, hB251⟩
                · refine W.seq ?_
                  refine W.regS (SR.q' (r_eq rfl rfl) <| SR.q' (r_as (v := .bool _) rfl) <| SR.nil ?_)
                  refine W.cond_d rfl (fun h254 => ?_) (fun h254 => ?_)
                  · refine W.seq ?_
                    refine W.regS (SR.q' (r_build (vs := [(0, .int .i64 6)]) rfl (bld60_0 _)) <| SR.store (o := 0) (vs := [.int .i64 6, .int .i64 0]) agg60.2 rfl rfl rfl rfl (((hb14).kp hk18 (fun e' => by have e'' : g9 = gc := e'; omega)).kp hk209 (fun e' => by have e'' : g9 = gc := e'; omega)) (Nat.le_of_ble_eq_true rfl) rfl ?_)
                    intro w255 hk256 hs257 hb258
                    have hz259 := hk256.size
                    have hB260 := hB217.new hk256 (by omega)
                    refine SR.nil ?_
                    refine W.ret ?_
                    refine retC rfl rfl agg60 (hb258) rfl ?_
                    exact ⟨(⟨6, 0⟩ : ScanStep), t211, s212, eR (eA (eC (eI (z_c___spec_l1Cur__scanStep_261 Lc tc sc nc htc hbdc hlec x nx_Tiles hbdx_Tiles hlex_Tiles v19 t20 s21 ht23 h26 h72 h81 h108 v210 t211 s212 ht214 hq215 h218 h227 h236 h245 h254)) (eC (eI (z_c___spec_l1Cur__scanStep_262 Lc tc sc nc htc hbdc hlec x nx_Tiles hbdx_Tiles hlex_Tiles v19 t20 s21 ht23 h26 h72 h81 h108 v210 t211 s212 ht214 hq215 h218 h227 h236 h245 h254)) rfl))), ((hb213).kp hk256 (fun e' => by have e'' : gc = g9 := e'; omega)), ⟨by omega, by omega⟩, hB260⟩
                  · refine W.skip ?_
                    refine W.seq ?_
                    refine W.regS (SR.q' (r_mv (v := .pointer (some _)) rfl) <| SR.lit (vs := [.int .i64 1, .int .i64 25, .int .i64 50, .int .i64 75, .int .i64 99, .int .i64 100, .int .i64 101, .int .i64 0]) (L := ([1, 25, 50, 75, 99, 100, 101, 0] : List Int)) (enc := encI) tel38 (fun _ => rfl) rfl rfl rfl (by decide) ?_)
                    intro g263 w264 hg265 hk266 hO267
                    have hz268 := hk266.size
                    have hB269 := hB217.lo hk266
                    refine SR.call ent54 (c___spec_l1Cur__among w264 Lc t211 s212 ((hb213).lo hk266) (((((((hLc).lo hk4).lo hk12).kp hk18 (fun b_ hb e' => by have e'' : b_ = gc := e'; omega)).kp hk209 (fun b_ hb e' => by have e'' : b_ = gc := e'; omega)).lo hk266)) (by omega) (by omega) ([1, 25, 50, 75, 99, 100, 101, 0] : List Int) (((hO267).rd)) (by omega) (by omega) (show ¬ g263 = gc from by omega)) rfl ?_
                    rintro e w270 ⟨v272, t273, s274, rfl, hb275, ht276, hq277, hk271⟩
                    refine ⟨_, rfl, ?_⟩
                    have hz278 := hk271.size
                    have hB279 := hB269.step hk271 (fun i_ hi_ e' => e')
                    have hq280 : (0 : Int) ≤ v272 ∧ v272 ≤ 101 := mem_rngB (lo := 0) (hi := 101) (by decide) hq277
                    refine SR.q' (r_build (vs := [(0, .int .i64 2), (1, .int .i64 v272)]) rfl (bld60_0_1 _ _)) <| SR.store (o := 0) (vs := [.int .i64 2, .int .i64 v272]) agg60.2 rfl rfl rfl rfl (((((hb14).kp hk18 (fun e' => by have e'' : g9 = gc := e'; omega)).kp hk209 (fun e' => by have e'' : g9 = gc := e'; omega)).lo hk266).kp hk271 (fun e' => by have e'' : g9 = gc := e'; omega)) (Nat.le_of_ble_eq_true rfl) rfl ?_
                    intro w281 hk282 hs283 hb284
                    have hz285 := hk282.size
                    have hB286 := hB279.new hk282 (by omega)
                    refine SR.nil ?_
                    refine W.ret ?_
                    refine retC rfl rfl agg60 (hb284) rfl ?_
                    exact ⟨(⟨2, v272⟩ : ScanStep), t273, s274, eR (eA (eC (eI (z_c___spec_l1Cur__scanStep_287 Lc tc sc nc htc hbdc hlec x nx_Tiles hbdx_Tiles hlex_Tiles v19 t20 s21 ht23 h26 h72 h81 h108 v210 t211 s212 ht214 hq215 h218 h227 h236 h245 h254 v272 t273 s274 ht276 hq277 hq280)) (eC (eI (z_c___spec_l1Cur__scanStep_288 Lc tc sc nc htc hbdc hlec x nx_Tiles hbdx_Tiles hlex_Tiles v19 t20 s21 ht23 h26 h72 h81 h108 v210 t211 s212 ht214 hq215 h218 h227 h236 h245 h254 v272 t273 s274 ht276 hq277 hq280)) rfl))), ((hb275).kp hk282 (fun e' => by have e'' : gc = g9 := e'; omega)), ⟨by omega, by omega⟩, hB286⟩

theorem z_c___spec_l1Cur__scanJob_65 (Lc : List UInt8) (tc : Int) (sc : Int) (nc : Nat) (htc : 0 ≤ tc ∧ tc + 170 ≤ 4611686018427387904) (hbdc : (nc : Int) ≤ 9223372036854775807) (hlec : nc = Lc.length) (v18 : Int) (t19 : Int) (s20 : Int) (ht22 : tc ≤ t19 ∧ t19 ≤ tc + 2) (hq23 : v18 ∈ ([1, 2, 3, 5, 8] : List Int)) (hq26 : (1 : Int) ≤ v18 ∧ v18 ≤ 8) (n30 : Nat) (hl35 : n30 = (((newJ v18).1).Tiles).length) (hl36 : (n30 : Int) ≤ 9223372036854775807) (hq37 : (newJ v18).1.Tiles.length ≤ 8) (v56 : Int) (t57 : Int) (s58 : Int) (ht60 : t19 ≤ t57 ∧ t57 ≤ t19 + 2) (hq61 : (0 : Int) ≤ v56 ∧ ((v56 : Int) < 20 ∨ (v56 : Int) = 0)) : (0 ≤ v56 ∧ v56 ≤ 19) ∧ JobOK ((newJ v18).1) ∧ tc ≤ t57 ∧ t57 ≤ tc + 4 + 8 * (19 - v56) := by
  exact ⟨by omega, newJ_ok ‹_ ∈ _›, by omega, by omega⟩
theorem z_c___spec_l1Cur__scanJob_243 (Lc : List UInt8) (tc : Int) (sc : Int) (nc : Nat) (htc : 0 ≤ tc ∧ tc + 170 ≤ 4611686018427387904) (hbdc : (nc : Int) ≤ 9223372036854775807) (hlec : nc = Lc.length) (v18 : Int) (t19 : Int) (s20 : Int) (ht22 : tc ≤ t19 ∧ t19 ≤ tc + 2) (hq23 : v18 ∈ ([1, 2, 3, 5, 8] : List Int)) (hq26 : (1 : Int) ≤ v18 ∧ v18 ≤ 8) (n30 : Nat) (hl35 : n30 = (((newJ v18).1).Tiles).length) (hl36 : (n30 : Int) ≤ 9223372036854775807) (hq37 : (newJ v18).1.Tiles.length ≤ 8) (v56 : Int) (t57 : Int) (s58 : Int) (ht60 : t19 ≤ t57 ∧ t57 ≤ t19 + 2) (hq61 : (0 : Int) ≤ v56 ∧ ((v56 : Int) < 20 ∨ (v56 : Int) = 0)) (n : Int) (o : ScanJob) (t : Int) (z : Int) (n64 : Nat) (c64 : Nat) (hi75 : (0 ≤ n ∧ n ≤ 19) ∧ JobOK o ∧ tc ≤ t ∧ t ≤ tc + 4 + 8 * (19 - n)) (hl82 : n64 = (o.Tiles).length) (hq84 : JobOK o) (hq85 : 0 ≤ o.Size ∧ o.Size ≤ 8000) (hq86 : o.Tiles.length ≤ 8) (hq87 : (0 ≤ n ∧ n ≤ 19) ∧ tc ≤ t ∧ t ≤ tc + 4 + 8 * (19 - n)) (h88 : 0 < n) (v109 : ScanStep) (t110 : Int) (s111 : Int) (n120 : Nat) (ht113 : t ≤ t110 ∧ t110 ≤ t + 8) (hl126 : n120 = (((spec_StepScan o v109).1).Tiles).length) (hl127 : (n120 : Int) ≤ 9223372036854775807) (hq128 : (((spec_StepScan o v109).1).Tiles).length ≤ 8) (h236 : ((spec_StepScan o v109).2) = true) : (0 ≤ n - 1 ∧ n - 1 ≤ 19) ∧ JobOK ((spec_StepScan o v109).1) ∧ tc ≤ t110 ∧ t110 ≤ tc + 4 + 8 * (19 - (n - 1)) := by
  first | exact ⟨by omega, spec_okJ ‹(spec_StepScan _ _).2 = true›, by omega, by omega⟩ | exact ⟨by omega, ‹JobOK _›, by omega, by omega⟩
theorem z_c___spec_l1Cur__scanJob_244 (Lc : List UInt8) (tc : Int) (sc : Int) (nc : Nat) (htc : 0 ≤ tc ∧ tc + 170 ≤ 4611686018427387904) (hbdc : (nc : Int) ≤ 9223372036854775807) (hlec : nc = Lc.length) (v18 : Int) (t19 : Int) (s20 : Int) (ht22 : tc ≤ t19 ∧ t19 ≤ tc + 2) (hq23 : v18 ∈ ([1, 2, 3, 5, 8] : List Int)) (hq26 : (1 : Int) ≤ v18 ∧ v18 ≤ 8) (n30 : Nat) (hl35 : n30 = (((newJ v18).1).Tiles).length) (hl36 : (n30 : Int) ≤ 9223372036854775807) (hq37 : (newJ v18).1.Tiles.length ≤ 8) (v56 : Int) (t57 : Int) (s58 : Int) (ht60 : t19 ≤ t57 ∧ t57 ≤ t19 + 2) (hq61 : (0 : Int) ≤ v56 ∧ ((v56 : Int) < 20 ∨ (v56 : Int) = 0)) (n : Int) (o : ScanJob) (t : Int) (z : Int) (n64 : Nat) (c64 : Nat) (hi75 : (0 ≤ n ∧ n ≤ 19) ∧ JobOK o ∧ tc ≤ t ∧ t ≤ tc + 4 + 8 * (19 - n)) (hl82 : n64 = (o.Tiles).length) (hq84 : JobOK o) (hq85 : 0 ≤ o.Size ∧ o.Size ≤ 8000) (hq86 : o.Tiles.length ≤ 8) (hq87 : (0 ≤ n ∧ n ≤ 19) ∧ tc ≤ t ∧ t ≤ tc + 4 + 8 * (19 - n)) (h88 : 0 < n) (v109 : ScanStep) (t110 : Int) (s111 : Int) (n120 : Nat) (ht113 : t ≤ t110 ∧ t110 ≤ t + 8) (hl126 : n120 = (((spec_StepScan o v109).1).Tiles).length) (hl127 : (n120 : Int) ≤ 9223372036854775807) (hq128 : (((spec_StepScan o v109).1).Tiles).length ≤ 8) (h236 : ((spec_StepScan o v109).2) = true) : (n - 1).toNat < n.toNat := by
  omega
theorem z_c___spec_l1Cur__scanJob_245 (Lc : List UInt8) (tc : Int) (sc : Int) (nc : Nat) (htc : 0 ≤ tc ∧ tc + 170 ≤ 4611686018427387904) (hbdc : (nc : Int) ≤ 9223372036854775807) (hlec : nc = Lc.length) (v18 : Int) (t19 : Int) (s20 : Int) (ht22 : tc ≤ t19 ∧ t19 ≤ tc + 2) (hq23 : v18 ∈ ([1, 2, 3, 5, 8] : List Int)) (hq26 : (1 : Int) ≤ v18 ∧ v18 ≤ 8) (n30 : Nat) (hl35 : n30 = (((newJ v18).1).Tiles).length) (hl36 : (n30 : Int) ≤ 9223372036854775807) (hq37 : (newJ v18).1.Tiles.length ≤ 8) (v56 : Int) (t57 : Int) (s58 : Int) (ht60 : t19 ≤ t57 ∧ t57 ≤ t19 + 2) (hq61 : (0 : Int) ≤ v56 ∧ ((v56 : Int) < 20 ∨ (v56 : Int) = 0)) (n : Int) (o : ScanJob) (t : Int) (z : Int) (n64 : Nat) (c64 : Nat) (hi75 : (0 ≤ n ∧ n ≤ 19) ∧ JobOK o ∧ tc ≤ t ∧ t ≤ tc + 4 + 8 * (19 - n)) (hl82 : n64 = (o.Tiles).length) (hq84 : JobOK o) (hq85 : 0 ≤ o.Size ∧ o.Size ≤ 8000) (hq86 : o.Tiles.length ≤ 8) (hq87 : (0 ≤ n ∧ n ≤ 19) ∧ tc ≤ t ∧ t ≤ tc + 4 + 8 * (19 - n)) (h88 : 0 < n) (v109 : ScanStep) (t110 : Int) (s111 : Int) (n120 : Nat) (ht113 : t ≤ t110 ∧ t110 ≤ t + 8) (hl126 : n120 = (((spec_StepScan o v109).1).Tiles).length) (hl127 : (n120 : Int) ≤ 9223372036854775807) (hq128 : (((spec_StepScan o v109).1).Tiles).length ≤ 8) (h236 : ((spec_StepScan o v109).2) = false) : (0 ≤ n - 1 ∧ n - 1 ≤ 19) ∧ JobOK o ∧ tc ≤ t110 ∧ t110 ≤ tc + 4 + 8 * (19 - (n - 1)) := by
  first | exact ⟨by omega, spec_okJ ‹(spec_StepScan _ _).2 = true›, by omega, by omega⟩ | exact ⟨by omega, ‹JobOK _›, by omega, by omega⟩
theorem z_c___spec_l1Cur__scanJob_246 (Lc : List UInt8) (tc : Int) (sc : Int) (nc : Nat) (htc : 0 ≤ tc ∧ tc + 170 ≤ 4611686018427387904) (hbdc : (nc : Int) ≤ 9223372036854775807) (hlec : nc = Lc.length) (v18 : Int) (t19 : Int) (s20 : Int) (ht22 : tc ≤ t19 ∧ t19 ≤ tc + 2) (hq23 : v18 ∈ ([1, 2, 3, 5, 8] : List Int)) (hq26 : (1 : Int) ≤ v18 ∧ v18 ≤ 8) (n30 : Nat) (hl35 : n30 = (((newJ v18).1).Tiles).length) (hl36 : (n30 : Int) ≤ 9223372036854775807) (hq37 : (newJ v18).1.Tiles.length ≤ 8) (v56 : Int) (t57 : Int) (s58 : Int) (ht60 : t19 ≤ t57 ∧ t57 ≤ t19 + 2) (hq61 : (0 : Int) ≤ v56 ∧ ((v56 : Int) < 20 ∨ (v56 : Int) = 0)) (n : Int) (o : ScanJob) (t : Int) (z : Int) (n64 : Nat) (c64 : Nat) (hi75 : (0 ≤ n ∧ n ≤ 19) ∧ JobOK o ∧ tc ≤ t ∧ t ≤ tc + 4 + 8 * (19 - n)) (hl82 : n64 = (o.Tiles).length) (hq84 : JobOK o) (hq85 : 0 ≤ o.Size ∧ o.Size ≤ 8000) (hq86 : o.Tiles.length ≤ 8) (hq87 : (0 ≤ n ∧ n ≤ 19) ∧ tc ≤ t ∧ t ≤ tc + 4 + 8 * (19 - n)) (h88 : 0 < n) (v109 : ScanStep) (t110 : Int) (s111 : Int) (n120 : Nat) (ht113 : t ≤ t110 ∧ t110 ≤ t + 8) (hl126 : n120 = (((spec_StepScan o v109).1).Tiles).length) (hl127 : (n120 : Int) ≤ 9223372036854775807) (hq128 : (((spec_StepScan o v109).1).Tiles).length ≤ 8) (h236 : ((spec_StepScan o v109).2) = false) : (n - 1).toNat < n.toNat := by
  omega
theorem z_c___spec_l1Cur__scanJob_280 (Lc : List UInt8) (tc : Int) (sc : Int) (nc : Nat) (htc : 0 ≤ tc ∧ tc + 170 ≤ 4611686018427387904) (hbdc : (nc : Int) ≤ 9223372036854775807) (hlec : nc = Lc.length) (v18 : Int) (t19 : Int) (s20 : Int) (ht22 : tc ≤ t19 ∧ t19 ≤ tc + 2) (hq23 : v18 ∈ ([1, 2, 3, 5, 8] : List Int)) (hq26 : (1 : Int) ≤ v18 ∧ v18 ≤ 8) (n30 : Nat) (hl35 : n30 = (((newJ v18).1).Tiles).length) (hl36 : (n30 : Int) ≤ 9223372036854775807) (hq37 : (newJ v18).1.Tiles.length ≤ 8) (v56 : Int) (t57 : Int) (s58 : Int) (ht60 : t19 ≤ t57 ∧ t57 ≤ t19 + 2) (hq61 : (0 : Int) ≤ v56 ∧ ((v56 : Int) < 20 ∨ (v56 : Int) = 0)) (n : Int) (o : ScanJob) (t : Int) (z : Int) (n64 : Nat) (c64 : Nat) (hi75 : (0 ≤ n ∧ n ≤ 19) ∧ JobOK o ∧ tc ≤ t ∧ t ≤ tc + 4 + 8 * (19 - n)) (hl82 : n64 = (o.Tiles).length) (hq84 : JobOK o) (hq85 : 0 ≤ o.Size ∧ o.Size ≤ 8000) (hq86 : o.Tiles.length ≤ 8) (hq87 : (0 ≤ n ∧ n ≤ 19) ∧ tc ≤ t ∧ t ≤ tc + 4 + 8 * (19 - n)) (h88 : ¬ (0 < n)) (v249 : Int) (t250 : Int) (s251 : Int) (ht253 : t ≤ t250 ∧ t250 ≤ t + 2) (hq254 : (0 : Int) ≤ v249 ∧ ((v249 : Int) < 32 ∨ (v249 : Int) = 0)) (h257 : v249 = 0) (v260 : Int) (t261 : Int) (s262 : Int) (ht264 : t250 ≤ t261 ∧ t261 ≤ t250 + 2) (hq265 : (0 : Int) ≤ v260 ∧ ((v260 : Int) < 5 ∨ (v260 : Int) = 0)) : o.Tiles = (⟨v260, o.Tiles, o.Next, o.Fails, o.Size⟩ : ScanJob).Tiles := by
  first | rfl | omega | grind
theorem z_c___spec_l1Cur__scanJob_281 (Lc : List UInt8) (tc : Int) (sc : Int) (nc : Nat) (htc : 0 ≤ tc ∧ tc + 170 ≤ 4611686018427387904) (hbdc : (nc : Int) ≤ 9223372036854775807) (hlec : nc = Lc.length) (v18 : Int) (t19 : Int) (s20 : Int) (ht22 : tc ≤ t19 ∧ t19 ≤ tc + 2) (hq23 : v18 ∈ ([1, 2, 3, 5, 8] : List Int)) (hq26 : (1 : Int) ≤ v18 ∧ v18 ≤ 8) (n30 : Nat) (hl35 : n30 = (((newJ v18).1).Tiles).length) (hl36 : (n30 : Int) ≤ 9223372036854775807) (hq37 : (newJ v18).1.Tiles.length ≤ 8) (v56 : Int) (t57 : Int) (s58 : Int) (ht60 : t19 ≤ t57 ∧ t57 ≤ t19 + 2) (hq61 : (0 : Int) ≤ v56 ∧ ((v56 : Int) < 20 ∨ (v56 : Int) = 0)) (n : Int) (o : ScanJob) (t : Int) (z : Int) (n64 : Nat) (c64 : Nat) (hi75 : (0 ≤ n ∧ n ≤ 19) ∧ JobOK o ∧ tc ≤ t ∧ t ≤ tc + 4 + 8 * (19 - n)) (hl82 : n64 = (o.Tiles).length) (hq84 : JobOK o) (hq85 : 0 ≤ o.Size ∧ o.Size ≤ 8000) (hq86 : o.Tiles.length ≤ 8) (hq87 : (0 ≤ n ∧ n ≤ 19) ∧ tc ≤ t ∧ t ≤ tc + 4 + 8 * (19 - n)) (h88 : ¬ (0 < n)) (v249 : Int) (t250 : Int) (s251 : Int) (ht253 : t ≤ t250 ∧ t250 ≤ t + 2) (hq254 : (0 : Int) ≤ v249 ∧ ((v249 : Int) < 32 ∨ (v249 : Int) = 0)) (h257 : v249 = 0) (v260 : Int) (t261 : Int) (s262 : Int) (ht264 : t250 ≤ t261 ∧ t261 ≤ t250 + 2) (hq265 : (0 : Int) ≤ v260 ∧ ((v260 : Int) < 5 ∨ (v260 : Int) = 0)) : v260 = (⟨v260, o.Tiles, o.Next, o.Fails, o.Size⟩ : ScanJob).State := by
  first | rfl | omega | grind
theorem z_c___spec_l1Cur__scanJob_282 (Lc : List UInt8) (tc : Int) (sc : Int) (nc : Nat) (htc : 0 ≤ tc ∧ tc + 170 ≤ 4611686018427387904) (hbdc : (nc : Int) ≤ 9223372036854775807) (hlec : nc = Lc.length) (v18 : Int) (t19 : Int) (s20 : Int) (ht22 : tc ≤ t19 ∧ t19 ≤ tc + 2) (hq23 : v18 ∈ ([1, 2, 3, 5, 8] : List Int)) (hq26 : (1 : Int) ≤ v18 ∧ v18 ≤ 8) (n30 : Nat) (hl35 : n30 = (((newJ v18).1).Tiles).length) (hl36 : (n30 : Int) ≤ 9223372036854775807) (hq37 : (newJ v18).1.Tiles.length ≤ 8) (v56 : Int) (t57 : Int) (s58 : Int) (ht60 : t19 ≤ t57 ∧ t57 ≤ t19 + 2) (hq61 : (0 : Int) ≤ v56 ∧ ((v56 : Int) < 20 ∨ (v56 : Int) = 0)) (n : Int) (o : ScanJob) (t : Int) (z : Int) (n64 : Nat) (c64 : Nat) (hi75 : (0 ≤ n ∧ n ≤ 19) ∧ JobOK o ∧ tc ≤ t ∧ t ≤ tc + 4 + 8 * (19 - n)) (hl82 : n64 = (o.Tiles).length) (hq84 : JobOK o) (hq85 : 0 ≤ o.Size ∧ o.Size ≤ 8000) (hq86 : o.Tiles.length ≤ 8) (hq87 : (0 ≤ n ∧ n ≤ 19) ∧ tc ≤ t ∧ t ≤ tc + 4 + 8 * (19 - n)) (h88 : ¬ (0 < n)) (v249 : Int) (t250 : Int) (s251 : Int) (ht253 : t ≤ t250 ∧ t250 ≤ t + 2) (hq254 : (0 : Int) ≤ v249 ∧ ((v249 : Int) < 32 ∨ (v249 : Int) = 0)) (h257 : v249 = 0) (v260 : Int) (t261 : Int) (s262 : Int) (ht264 : t250 ≤ t261 ∧ t261 ≤ t250 + 2) (hq265 : (0 : Int) ≤ v260 ∧ ((v260 : Int) < 5 ∨ (v260 : Int) = 0)) : o.Next = (⟨v260, o.Tiles, o.Next, o.Fails, o.Size⟩ : ScanJob).Next := by
  first | rfl | omega | grind
theorem z_c___spec_l1Cur__scanJob_283 (Lc : List UInt8) (tc : Int) (sc : Int) (nc : Nat) (htc : 0 ≤ tc ∧ tc + 170 ≤ 4611686018427387904) (hbdc : (nc : Int) ≤ 9223372036854775807) (hlec : nc = Lc.length) (v18 : Int) (t19 : Int) (s20 : Int) (ht22 : tc ≤ t19 ∧ t19 ≤ tc + 2) (hq23 : v18 ∈ ([1, 2, 3, 5, 8] : List Int)) (hq26 : (1 : Int) ≤ v18 ∧ v18 ≤ 8) (n30 : Nat) (hl35 : n30 = (((newJ v18).1).Tiles).length) (hl36 : (n30 : Int) ≤ 9223372036854775807) (hq37 : (newJ v18).1.Tiles.length ≤ 8) (v56 : Int) (t57 : Int) (s58 : Int) (ht60 : t19 ≤ t57 ∧ t57 ≤ t19 + 2) (hq61 : (0 : Int) ≤ v56 ∧ ((v56 : Int) < 20 ∨ (v56 : Int) = 0)) (n : Int) (o : ScanJob) (t : Int) (z : Int) (n64 : Nat) (c64 : Nat) (hi75 : (0 ≤ n ∧ n ≤ 19) ∧ JobOK o ∧ tc ≤ t ∧ t ≤ tc + 4 + 8 * (19 - n)) (hl82 : n64 = (o.Tiles).length) (hq84 : JobOK o) (hq85 : 0 ≤ o.Size ∧ o.Size ≤ 8000) (hq86 : o.Tiles.length ≤ 8) (hq87 : (0 ≤ n ∧ n ≤ 19) ∧ tc ≤ t ∧ t ≤ tc + 4 + 8 * (19 - n)) (h88 : ¬ (0 < n)) (v249 : Int) (t250 : Int) (s251 : Int) (ht253 : t ≤ t250 ∧ t250 ≤ t + 2) (hq254 : (0 : Int) ≤ v249 ∧ ((v249 : Int) < 32 ∨ (v249 : Int) = 0)) (h257 : v249 = 0) (v260 : Int) (t261 : Int) (s262 : Int) (ht264 : t250 ≤ t261 ∧ t261 ≤ t250 + 2) (hq265 : (0 : Int) ≤ v260 ∧ ((v260 : Int) < 5 ∨ (v260 : Int) = 0)) : o.Fails = (⟨v260, o.Tiles, o.Next, o.Fails, o.Size⟩ : ScanJob).Fails := by
  first | rfl | omega | grind
theorem z_c___spec_l1Cur__scanJob_284 (Lc : List UInt8) (tc : Int) (sc : Int) (nc : Nat) (htc : 0 ≤ tc ∧ tc + 170 ≤ 4611686018427387904) (hbdc : (nc : Int) ≤ 9223372036854775807) (hlec : nc = Lc.length) (v18 : Int) (t19 : Int) (s20 : Int) (ht22 : tc ≤ t19 ∧ t19 ≤ tc + 2) (hq23 : v18 ∈ ([1, 2, 3, 5, 8] : List Int)) (hq26 : (1 : Int) ≤ v18 ∧ v18 ≤ 8) (n30 : Nat) (hl35 : n30 = (((newJ v18).1).Tiles).length) (hl36 : (n30 : Int) ≤ 9223372036854775807) (hq37 : (newJ v18).1.Tiles.length ≤ 8) (v56 : Int) (t57 : Int) (s58 : Int) (ht60 : t19 ≤ t57 ∧ t57 ≤ t19 + 2) (hq61 : (0 : Int) ≤ v56 ∧ ((v56 : Int) < 20 ∨ (v56 : Int) = 0)) (n : Int) (o : ScanJob) (t : Int) (z : Int) (n64 : Nat) (c64 : Nat) (hi75 : (0 ≤ n ∧ n ≤ 19) ∧ JobOK o ∧ tc ≤ t ∧ t ≤ tc + 4 + 8 * (19 - n)) (hl82 : n64 = (o.Tiles).length) (hq84 : JobOK o) (hq85 : 0 ≤ o.Size ∧ o.Size ≤ 8000) (hq86 : o.Tiles.length ≤ 8) (hq87 : (0 ≤ n ∧ n ≤ 19) ∧ tc ≤ t ∧ t ≤ tc + 4 + 8 * (19 - n)) (h88 : ¬ (0 < n)) (v249 : Int) (t250 : Int) (s251 : Int) (ht253 : t ≤ t250 ∧ t250 ≤ t + 2) (hq254 : (0 : Int) ≤ v249 ∧ ((v249 : Int) < 32 ∨ (v249 : Int) = 0)) (h257 : v249 = 0) (v260 : Int) (t261 : Int) (s262 : Int) (ht264 : t250 ≤ t261 ∧ t261 ≤ t250 + 2) (hq265 : (0 : Int) ≤ v260 ∧ ((v260 : Int) < 5 ∨ (v260 : Int) = 0)) : o.Size = (⟨v260, o.Tiles, o.Next, o.Fails, o.Size⟩ : ScanJob).Size := by
  first | rfl | omega | grind
theorem z_c___spec_l1Cur__scanJob_285 (Lc : List UInt8) (tc : Int) (sc : Int) (nc : Nat) (htc : 0 ≤ tc ∧ tc + 170 ≤ 4611686018427387904) (hbdc : (nc : Int) ≤ 9223372036854775807) (hlec : nc = Lc.length) (v18 : Int) (t19 : Int) (s20 : Int) (ht22 : tc ≤ t19 ∧ t19 ≤ tc + 2) (hq23 : v18 ∈ ([1, 2, 3, 5, 8] : List Int)) (hq26 : (1 : Int) ≤ v18 ∧ v18 ≤ 8) (n30 : Nat) (hl35 : n30 = (((newJ v18).1).Tiles).length) (hl36 : (n30 : Int) ≤ 9223372036854775807) (hq37 : (newJ v18).1.Tiles.length ≤ 8) (v56 : Int) (t57 : Int) (s58 : Int) (ht60 : t19 ≤ t57 ∧ t57 ≤ t19 + 2) (hq61 : (0 : Int) ≤ v56 ∧ ((v56 : Int) < 20 ∨ (v56 : Int) = 0)) (n : Int) (o : ScanJob) (t : Int) (z : Int) (n64 : Nat) (c64 : Nat) (hi75 : (0 ≤ n ∧ n ≤ 19) ∧ JobOK o ∧ tc ≤ t ∧ t ≤ tc + 4 + 8 * (19 - n)) (hl82 : n64 = (o.Tiles).length) (hq84 : JobOK o) (hq85 : 0 ≤ o.Size ∧ o.Size ≤ 8000) (hq86 : o.Tiles.length ≤ 8) (hq87 : (0 ≤ n ∧ n ≤ 19) ∧ tc ≤ t ∧ t ≤ tc + 4 + 8 * (19 - n)) (h88 : ¬ (0 < n)) (v249 : Int) (t250 : Int) (s251 : Int) (ht253 : t ≤ t250 ∧ t250 ≤ t + 2) (hq254 : (0 : Int) ≤ v249 ∧ ((v249 : Int) < 32 ∨ (v249 : Int) = 0)) (h257 : v249 = 0) (v260 : Int) (t261 : Int) (s262 : Int) (ht264 : t250 ≤ t261 ∧ t261 ≤ t250 + 2) (hq265 : (0 : Int) ≤ v260 ∧ ((v260 : Int) < 5 ∨ (v260 : Int) = 0)) : o.Tiles.length ≤ 9 := by
  first | omega | (simp only [List.length_append, List.length_cons, List.length_nil]; omega)
theorem z_c___spec_l1Cur__scanJob_299 (Lc : List UInt8) (tc : Int) (sc : Int) (nc : Nat) (htc : 0 ≤ tc ∧ tc + 170 ≤ 4611686018427387904) (hbdc : (nc : Int) ≤ 9223372036854775807) (hlec : nc = Lc.length) (v18 : Int) (t19 : Int) (s20 : Int) (ht22 : tc ≤ t19 ∧ t19 ≤ tc + 2) (hq23 : v18 ∈ ([1, 2, 3, 5, 8] : List Int)) (hq26 : (1 : Int) ≤ v18 ∧ v18 ≤ 8) (n30 : Nat) (hl35 : n30 = (((newJ v18).1).Tiles).length) (hl36 : (n30 : Int) ≤ 9223372036854775807) (hq37 : (newJ v18).1.Tiles.length ≤ 8) (v56 : Int) (t57 : Int) (s58 : Int) (ht60 : t19 ≤ t57 ∧ t57 ≤ t19 + 2) (hq61 : (0 : Int) ≤ v56 ∧ ((v56 : Int) < 20 ∨ (v56 : Int) = 0)) (n : Int) (o : ScanJob) (t : Int) (z : Int) (n64 : Nat) (c64 : Nat) (hi75 : (0 ≤ n ∧ n ≤ 19) ∧ JobOK o ∧ tc ≤ t ∧ t ≤ tc + 4 + 8 * (19 - n)) (hl82 : n64 = (o.Tiles).length) (hq84 : JobOK o) (hq85 : 0 ≤ o.Size ∧ o.Size ≤ 8000) (hq86 : o.Tiles.length ≤ 8) (hq87 : (0 ≤ n ∧ n ≤ 19) ∧ tc ≤ t ∧ t ≤ tc + 4 + 8 * (19 - n)) (h88 : ¬ (0 < n)) (v249 : Int) (t250 : Int) (s251 : Int) (ht253 : t ≤ t250 ∧ t250 ≤ t + 2) (hq254 : (0 : Int) ≤ v249 ∧ ((v249 : Int) < 32 ∨ (v249 : Int) = 0)) (h257 : ¬ (v249 = 0)) (h286 : v249 = 1) : o.Tiles = (⟨o.State, o.Tiles, o.Next, o.Fails, o.Size + 10⟩ : ScanJob).Tiles := by
  first | rfl | omega | grind
theorem z_c___spec_l1Cur__scanJob_300 (Lc : List UInt8) (tc : Int) (sc : Int) (nc : Nat) (htc : 0 ≤ tc ∧ tc + 170 ≤ 4611686018427387904) (hbdc : (nc : Int) ≤ 9223372036854775807) (hlec : nc = Lc.length) (v18 : Int) (t19 : Int) (s20 : Int) (ht22 : tc ≤ t19 ∧ t19 ≤ tc + 2) (hq23 : v18 ∈ ([1, 2, 3, 5, 8] : List Int)) (hq26 : (1 : Int) ≤ v18 ∧ v18 ≤ 8) (n30 : Nat) (hl35 : n30 = (((newJ v18).1).Tiles).length) (hl36 : (n30 : Int) ≤ 9223372036854775807) (hq37 : (newJ v18).1.Tiles.length ≤ 8) (v56 : Int) (t57 : Int) (s58 : Int) (ht60 : t19 ≤ t57 ∧ t57 ≤ t19 + 2) (hq61 : (0 : Int) ≤ v56 ∧ ((v56 : Int) < 20 ∨ (v56 : Int) = 0)) (n : Int) (o : ScanJob) (t : Int) (z : Int) (n64 : Nat) (c64 : Nat) (hi75 : (0 ≤ n ∧ n ≤ 19) ∧ JobOK o ∧ tc ≤ t ∧ t ≤ tc + 4 + 8 * (19 - n)) (hl82 : n64 = (o.Tiles).length) (hq84 : JobOK o) (hq85 : 0 ≤ o.Size ∧ o.Size ≤ 8000) (hq86 : o.Tiles.length ≤ 8) (hq87 : (0 ≤ n ∧ n ≤ 19) ∧ tc ≤ t ∧ t ≤ tc + 4 + 8 * (19 - n)) (h88 : ¬ (0 < n)) (v249 : Int) (t250 : Int) (s251 : Int) (ht253 : t ≤ t250 ∧ t250 ≤ t + 2) (hq254 : (0 : Int) ≤ v249 ∧ ((v249 : Int) < 32 ∨ (v249 : Int) = 0)) (h257 : ¬ (v249 = 0)) (h286 : v249 = 1) : o.State = (⟨o.State, o.Tiles, o.Next, o.Fails, o.Size + 10⟩ : ScanJob).State := by
  first | rfl | omega | grind
theorem z_c___spec_l1Cur__scanJob_301 (Lc : List UInt8) (tc : Int) (sc : Int) (nc : Nat) (htc : 0 ≤ tc ∧ tc + 170 ≤ 4611686018427387904) (hbdc : (nc : Int) ≤ 9223372036854775807) (hlec : nc = Lc.length) (v18 : Int) (t19 : Int) (s20 : Int) (ht22 : tc ≤ t19 ∧ t19 ≤ tc + 2) (hq23 : v18 ∈ ([1, 2, 3, 5, 8] : List Int)) (hq26 : (1 : Int) ≤ v18 ∧ v18 ≤ 8) (n30 : Nat) (hl35 : n30 = (((newJ v18).1).Tiles).length) (hl36 : (n30 : Int) ≤ 9223372036854775807) (hq37 : (newJ v18).1.Tiles.length ≤ 8) (v56 : Int) (t57 : Int) (s58 : Int) (ht60 : t19 ≤ t57 ∧ t57 ≤ t19 + 2) (hq61 : (0 : Int) ≤ v56 ∧ ((v56 : Int) < 20 ∨ (v56 : Int) = 0)) (n : Int) (o : ScanJob) (t : Int) (z : Int) (n64 : Nat) (c64 : Nat) (hi75 : (0 ≤ n ∧ n ≤ 19) ∧ JobOK o ∧ tc ≤ t ∧ t ≤ tc + 4 + 8 * (19 - n)) (hl82 : n64 = (o.Tiles).length) (hq84 : JobOK o) (hq85 : 0 ≤ o.Size ∧ o.Size ≤ 8000) (hq86 : o.Tiles.length ≤ 8) (hq87 : (0 ≤ n ∧ n ≤ 19) ∧ tc ≤ t ∧ t ≤ tc + 4 + 8 * (19 - n)) (h88 : ¬ (0 < n)) (v249 : Int) (t250 : Int) (s251 : Int) (ht253 : t ≤ t250 ∧ t250 ≤ t + 2) (hq254 : (0 : Int) ≤ v249 ∧ ((v249 : Int) < 32 ∨ (v249 : Int) = 0)) (h257 : ¬ (v249 = 0)) (h286 : v249 = 1) : o.Next = (⟨o.State, o.Tiles, o.Next, o.Fails, o.Size + 10⟩ : ScanJob).Next := by
  first | rfl | omega | grind
theorem z_c___spec_l1Cur__scanJob_302 (Lc : List UInt8) (tc : Int) (sc : Int) (nc : Nat) (htc : 0 ≤ tc ∧ tc + 170 ≤ 4611686018427387904) (hbdc : (nc : Int) ≤ 9223372036854775807) (hlec : nc = Lc.length) (v18 : Int) (t19 : Int) (s20 : Int) (ht22 : tc ≤ t19 ∧ t19 ≤ tc + 2) (hq23 : v18 ∈ ([1, 2, 3, 5, 8] : List Int)) (hq26 : (1 : Int) ≤ v18 ∧ v18 ≤ 8) (n30 : Nat) (hl35 : n30 = (((newJ v18).1).Tiles).length) (hl36 : (n30 : Int) ≤ 9223372036854775807) (hq37 : (newJ v18).1.Tiles.length ≤ 8) (v56 : Int) (t57 : Int) (s58 : Int) (ht60 : t19 ≤ t57 ∧ t57 ≤ t19 + 2) (hq61 : (0 : Int) ≤ v56 ∧ ((v56 : Int) < 20 ∨ (v56 : Int) = 0)) (n : Int) (o : ScanJob) (t : Int) (z : Int) (n64 : Nat) (c64 : Nat) (hi75 : (0 ≤ n ∧ n ≤ 19) ∧ JobOK o ∧ tc ≤ t ∧ t ≤ tc + 4 + 8 * (19 - n)) (hl82 : n64 = (o.Tiles).length) (hq84 : JobOK o) (hq85 : 0 ≤ o.Size ∧ o.Size ≤ 8000) (hq86 : o.Tiles.length ≤ 8) (hq87 : (0 ≤ n ∧ n ≤ 19) ∧ tc ≤ t ∧ t ≤ tc + 4 + 8 * (19 - n)) (h88 : ¬ (0 < n)) (v249 : Int) (t250 : Int) (s251 : Int) (ht253 : t ≤ t250 ∧ t250 ≤ t + 2) (hq254 : (0 : Int) ≤ v249 ∧ ((v249 : Int) < 32 ∨ (v249 : Int) = 0)) (h257 : ¬ (v249 = 0)) (h286 : v249 = 1) : o.Fails = (⟨o.State, o.Tiles, o.Next, o.Fails, o.Size + 10⟩ : ScanJob).Fails := by
  first | rfl | omega | grind
theorem z_c___spec_l1Cur__scanJob_303 (Lc : List UInt8) (tc : Int) (sc : Int) (nc : Nat) (htc : 0 ≤ tc ∧ tc + 170 ≤ 4611686018427387904) (hbdc : (nc : Int) ≤ 9223372036854775807) (hlec : nc = Lc.length) (v18 : Int) (t19 : Int) (s20 : Int) (ht22 : tc ≤ t19 ∧ t19 ≤ tc + 2) (hq23 : v18 ∈ ([1, 2, 3, 5, 8] : List Int)) (hq26 : (1 : Int) ≤ v18 ∧ v18 ≤ 8) (n30 : Nat) (hl35 : n30 = (((newJ v18).1).Tiles).length) (hl36 : (n30 : Int) ≤ 9223372036854775807) (hq37 : (newJ v18).1.Tiles.length ≤ 8) (v56 : Int) (t57 : Int) (s58 : Int) (ht60 : t19 ≤ t57 ∧ t57 ≤ t19 + 2) (hq61 : (0 : Int) ≤ v56 ∧ ((v56 : Int) < 20 ∨ (v56 : Int) = 0)) (n : Int) (o : ScanJob) (t : Int) (z : Int) (n64 : Nat) (c64 : Nat) (hi75 : (0 ≤ n ∧ n ≤ 19) ∧ JobOK o ∧ tc ≤ t ∧ t ≤ tc + 4 + 8 * (19 - n)) (hl82 : n64 = (o.Tiles).length) (hq84 : JobOK o) (hq85 : 0 ≤ o.Size ∧ o.Size ≤ 8000) (hq86 : o.Tiles.length ≤ 8) (hq87 : (0 ≤ n ∧ n ≤ 19) ∧ tc ≤ t ∧ t ≤ tc + 4 + 8 * (19 - n)) (h88 : ¬ (0 < n)) (v249 : Int) (t250 : Int) (s251 : Int) (ht253 : t ≤ t250 ∧ t250 ≤ t + 2) (hq254 : (0 : Int) ≤ v249 ∧ ((v249 : Int) < 32 ∨ (v249 : Int) = 0)) (h257 : ¬ (v249 = 0)) (h286 : v249 = 1) : o.Size + 10 = (⟨o.State, o.Tiles, o.Next, o.Fails, o.Size + 10⟩ : ScanJob).Size := by
  first | rfl | omega | grind
theorem z_c___spec_l1Cur__scanJob_304 (Lc : List UInt8) (tc : Int) (sc : Int) (nc : Nat) (htc : 0 ≤ tc ∧ tc + 170 ≤ 4611686018427387904) (hbdc : (nc : Int) ≤ 9223372036854775807) (hlec : nc = Lc.length) (v18 : Int) (t19 : Int) (s20 : Int) (ht22 : tc ≤ t19 ∧ t19 ≤ tc + 2) (hq23 : v18 ∈ ([1, 2, 3, 5, 8] : List Int)) (hq26 : (1 : Int) ≤ v18 ∧ v18 ≤ 8) (n30 : Nat) (hl35 : n30 = (((newJ v18).1).Tiles).length) (hl36 : (n30 : Int) ≤ 9223372036854775807) (hq37 : (newJ v18).1.Tiles.length ≤ 8) (v56 : Int) (t57 : Int) (s58 : Int) (ht60 : t19 ≤ t57 ∧ t57 ≤ t19 + 2) (hq61 : (0 : Int) ≤ v56 ∧ ((v56 : Int) < 20 ∨ (v56 : Int) = 0)) (n : Int) (o : ScanJob) (t : Int) (z : Int) (n64 : Nat) (c64 : Nat) (hi75 : (0 ≤ n ∧ n ≤ 19) ∧ JobOK o ∧ tc ≤ t ∧ t ≤ tc + 4 + 8 * (19 - n)) (hl82 : n64 = (o.Tiles).length) (hq84 : JobOK o) (hq85 : 0 ≤ o.Size ∧ o.Size ≤ 8000) (hq86 : o.Tiles.length ≤ 8) (hq87 : (0 ≤ n ∧ n ≤ 19) ∧ tc ≤ t ∧ t ≤ tc + 4 + 8 * (19 - n)) (h88 : ¬ (0 < n)) (v249 : Int) (t250 : Int) (s251 : Int) (ht253 : t ≤ t250 ∧ t250 ≤ t + 2) (hq254 : (0 : Int) ≤ v249 ∧ ((v249 : Int) < 32 ∨ (v249 : Int) = 0)) (h257 : ¬ (v249 = 0)) (h286 : v249 = 1) : o.Tiles.length ≤ 9 := by
  first | omega | (simp only [List.length_append, List.length_cons, List.length_nil]; omega)
theorem z_c___spec_l1Cur__scanJob_337 (Lc : List UInt8) (tc : Int) (sc : Int) (nc : Nat) (htc : 0 ≤ tc ∧ tc + 170 ≤ 4611686018427387904) (hbdc : (nc : Int) ≤ 9223372036854775807) (hlec : nc = Lc.length) (v18 : Int) (t19 : Int) (s20 : Int) (ht22 : tc ≤ t19 ∧ t19 ≤ tc + 2) (hq23 : v18 ∈ ([1, 2, 3, 5, 8] : List Int)) (hq26 : (1 : Int) ≤ v18 ∧ v18 ≤ 8) (n30 : Nat) (hl35 : n30 = (((newJ v18).1).Tiles).length) (hl36 : (n30 : Int) ≤ 9223372036854775807) (hq37 : (newJ v18).1.Tiles.length ≤ 8) (v56 : Int) (t57 : Int) (s58 : Int) (ht60 : t19 ≤ t57 ∧ t57 ≤ t19 + 2) (hq61 : (0 : Int) ≤ v56 ∧ ((v56 : Int) < 20 ∨ (v56 : Int) = 0)) (n : Int) (o : ScanJob) (t : Int) (z : Int) (n64 : Nat) (c64 : Nat) (hi75 : (0 ≤ n ∧ n ≤ 19) ∧ JobOK o ∧ tc ≤ t ∧ t ≤ tc + 4 + 8 * (19 - n)) (hl82 : n64 = (o.Tiles).length) (hq84 : JobOK o) (hq85 : 0 ≤ o.Size ∧ o.Size ≤ 8000) (hq86 : o.Tiles.length ≤ 8) (hq87 : (0 ≤ n ∧ n ≤ 19) ∧ tc ≤ t ∧ t ≤ tc + 4 + 8 * (19 - n)) (h88 : ¬ (0 < n)) (v249 : Int) (t250 : Int) (s251 : Int) (ht253 : t ≤ t250 ∧ t250 ≤ t + 2) (hq254 : (0 : Int) ≤ v249 ∧ ((v249 : Int) < 32 ∨ (v249 : Int) = 0)) (h257 : ¬ (v249 = 0)) (h286 : ¬ (v249 = 1)) (h305 : v249 = 2) (v316 : Int) (t317 : Int) (s318 : Int) (ht320 : t250 ≤ t317 ∧ t317 ≤ t250 + 2) (hq321 : v316 ∈ ([(-1), 3, 4] : List Int)) (hq324 : ((-1) : Int) ≤ v316 ∧ v316 ≤ 4) : o.Tiles = (⟨o.State, o.Tiles, o.Next, v316, o.Size⟩ : ScanJob).Tiles := by
  first | rfl | omega | grind
theorem z_c___spec_l1Cur__scanJob_338 (Lc : List UInt8) (tc : Int) (sc : Int) (nc : Nat) (htc : 0 ≤ tc ∧ tc + 170 ≤ 4611686018427387904) (hbdc : (nc : Int) ≤ 9223372036854775807) (hlec : nc = Lc.length) (v18 : Int) (t19 : Int) (s20 : Int) (ht22 : tc ≤ t19 ∧ t19 ≤ tc + 2) (hq23 : v18 ∈ ([1, 2, 3, 5, 8] : List Int)) (hq26 : (1 : Int) ≤ v18 ∧ v18 ≤ 8) (n30 : Nat) (hl35 : n30 = (((newJ v18).1).Tiles).length) (hl36 : (n30 : Int) ≤ 9223372036854775807) (hq37 : (newJ v18).1.Tiles.length ≤ 8) (v56 : Int) (t57 : Int) (s58 : Int) (ht60 : t19 ≤ t57 ∧ t57 ≤ t19 + 2) (hq61 : (0 : Int) ≤ v56 ∧ ((v56 : Int) < 20 ∨ (v56 : Int) = 0)) (n : Int) (o : ScanJob) (t : Int) (z : Int) (n64 : Nat) (c64 : Nat) (hi75 : (0 ≤ n ∧ n ≤ 19) ∧ JobOK o ∧ tc ≤ t ∧ t ≤ tc + 4 + 8 * (19 - n)) (hl82 : n64 = (o.Tiles).length) (hq84 : JobOK o) (hq85 : 0 ≤ o.Size ∧ o.Size ≤ 8000) (hq86 : o.Tiles.length ≤ 8) (hq87 : (0 ≤ n ∧ n ≤ 19) ∧ tc ≤ t ∧ t ≤ tc + 4 + 8 * (19 - n)) (h88 : ¬ (0 < n)) (v249 : Int) (t250 : Int) (s251 : Int) (ht253 : t ≤ t250 ∧ t250 ≤ t + 2) (hq254 : (0 : Int) ≤ v249 ∧ ((v249 : Int) < 32 ∨ (v249 : Int) = 0)) (h257 : ¬ (v249 = 0)) (h286 : ¬ (v249 = 1)) (h305 : v249 = 2) (v316 : Int) (t317 : Int) (s318 : Int) (ht320 : t250 ≤ t317 ∧ t317 ≤ t250 + 2) (hq321 : v316 ∈ ([(-1), 3, 4] : List Int)) (hq324 : ((-1) : Int) ≤ v316 ∧ v316 ≤ 4) : o.State = (⟨o.State, o.Tiles, o.Next, v316, o.Size⟩ : ScanJob).State := by
  first | rfl | omega | grind
theorem z_c___spec_l1Cur__scanJob_339 (Lc : List UInt8) (tc : Int) (sc : Int) (nc : Nat) (htc : 0 ≤ tc ∧ tc + 170 ≤ 4611686018427387904) (hbdc : (nc : Int) ≤ 9223372036854775807) (hlec : nc = Lc.length) (v18 : Int) (t19 : Int) (s20 : Int) (ht22 : tc ≤ t19 ∧ t19 ≤ tc + 2) (hq23 : v18 ∈ ([1, 2, 3, 5, 8] : List Int)) (hq26 : (1 : Int) ≤ v18 ∧ v18 ≤ 8) (n30 : Nat) (hl35 : n30 = (((newJ v18).1).Tiles).length) (hl36 : (n30 : Int) ≤ 9223372036854775807) (hq37 : (newJ v18).1.Tiles.length ≤ 8) (v56 : Int) (t57 : Int) (s58 : Int) (ht60 : t19 ≤ t57 ∧ t57 ≤ t19 + 2) (hq61 : (0 : Int) ≤ v56 ∧ ((v56 : Int) < 20 ∨ (v56 : Int) = 0)) (n : Int) (o : ScanJob) (t : Int) (z : Int) (n64 : Nat) (c64 : Nat) (hi75 : (0 ≤ n ∧ n ≤ 19) ∧ JobOK o ∧ tc ≤ t ∧ t ≤ tc + 4 + 8 * (19 - n)) (hl82 : n64 = (o.Tiles).length) (hq84 : JobOK o) (hq85 : 0 ≤ o.Size ∧ o.Size ≤ 8000) (hq86 : o.Tiles.length ≤ 8) (hq87 : (0 ≤ n ∧ n ≤ 19) ∧ tc ≤ t ∧ t ≤ tc + 4 + 8 * (19 - n)) (h88 : ¬ (0 < n)) (v249 : Int) (t250 : Int) (s251 : Int) (ht253 : t ≤ t250 ∧ t250 ≤ t + 2) (hq254 : (0 : Int) ≤ v249 ∧ ((v249 : Int) < 32 ∨ (v249 : Int) = 0)) (h257 : ¬ (v249 = 0)) (h286 : ¬ (v249 = 1)) (h305 : v249 = 2) (v316 : Int) (t317 : Int) (s318 : Int) (ht320 : t250 ≤ t317 ∧ t317 ≤ t250 + 2) (hq321 : v316 ∈ ([(-1), 3, 4] : List Int)) (hq324 : ((-1) : Int) ≤ v316 ∧ v316 ≤ 4) : o.Next = (⟨o.State, o.Tiles, o.Next, v316, o.Size⟩ : ScanJob).Next := by
  first | rfl | omega | grind
theorem z_c___spec_l1Cur__scanJob_340 (Lc : List UInt8) (tc : Int) (sc : Int) (nc : Nat) (htc : 0 ≤ tc ∧ tc + 170 ≤ 4611686018427387904) (hbdc : (nc : Int) ≤ 9223372036854775807) (hlec : nc = Lc.length) (v18 : Int) (t19 : Int) (s20 : Int) (ht22 : tc ≤ t19 ∧ t19 ≤ tc + 2) (hq23 : v18 ∈ ([1, 2, 3, 5, 8] : List Int)) (hq26 : (1 : Int) ≤ v18 ∧ v18 ≤ 8) (n30 : Nat) (hl35 : n30 = (((newJ v18).1).Tiles).length) (hl36 : (n30 : Int) ≤ 9223372036854775807) (hq37 : (newJ v18).1.Tiles.length ≤ 8) (v56 : Int) (t57 : Int) (s58 : Int) (ht60 : t19 ≤ t57 ∧ t57 ≤ t19 + 2) (hq61 : (0 : Int) ≤ v56 ∧ ((v56 : Int) < 20 ∨ (v56 : Int) = 0)) (n : Int) (o : ScanJob) (t : Int) (z : Int) (n64 : Nat) (c64 : Nat) (hi75 : (0 ≤ n ∧ n ≤ 19) ∧ JobOK o ∧ tc ≤ t ∧ t ≤ tc + 4 + 8 * (19 - n)) (hl82 : n64 = (o.Tiles).length) (hq84 : JobOK o) (hq85 : 0 ≤ o.Size ∧ o.Size ≤ 8000) (hq86 : o.Tiles.length ≤ 8) (hq87 : (0 ≤ n ∧ n ≤ 19) ∧ tc ≤ t ∧ t ≤ tc + 4 + 8 * (19 - n)) (h88 : ¬ (0 < n)) (v249 : Int) (t250 : Int) (s251 : Int) (ht253 : t ≤ t250 ∧ t250 ≤ t + 2) (hq254 : (0 : Int) ≤ v249 ∧ ((v249 : Int) < 32 ∨ (v249 : Int) = 0)) (h257 : ¬ (v249 = 0)) (h286 : ¬ (v249 = 1)) (h305 : v249 = 2) (v316 : Int) (t317 : Int) (s318 : Int) (ht320 : t250 ≤ t317 ∧ t317 ≤ t250 + 2) (hq321 : v316 ∈ ([(-1), 3, 4] : List Int)) (hq324 : ((-1) : Int) ≤ v316 ∧ v316 ≤ 4) : v316 = (⟨o.State, o.Tiles, o.Next, v316, o.Size⟩ : ScanJob).Fails := by
  first | rfl | omega | grind
theorem z_c___spec_l1Cur__scanJob_341 (Lc : List UInt8) (tc : Int) (sc : Int) (nc : Nat) (htc : 0 ≤ tc ∧ tc + 170 ≤ 4611686018427387904) (hbdc : (nc : Int) ≤ 9223372036854775807) (hlec : nc = Lc.length) (v18 : Int) (t19 : Int) (s20 : Int) (ht22 : tc ≤ t19 ∧ t19 ≤ tc + 2) (hq23 : v18 ∈ ([1, 2, 3, 5, 8] : List Int)) (hq26 : (1 : Int) ≤ v18 ∧ v18 ≤ 8) (n30 : Nat) (hl35 : n30 = (((newJ v18).1).Tiles).length) (hl36 : (n30 : Int) ≤ 9223372036854775807) (hq37 : (newJ v18).1.Tiles.length ≤ 8) (v56 : Int) (t57 : Int) (s58 : Int) (ht60 : t19 ≤ t57 ∧ t57 ≤ t19 + 2) (hq61 : (0 : Int) ≤ v56 ∧ ((v56 : Int) < 20 ∨ (v56 : Int) = 0)) (n : Int) (o : ScanJob) (t : Int) (z : Int) (n64 : Nat) (c64 : Nat) (hi75 : (0 ≤ n ∧ n ≤ 19) ∧ JobOK o ∧ tc ≤ t ∧ t ≤ tc + 4 + 8 * (19 - n)) (hl82 : n64 = (o.Tiles).length) (hq84 : JobOK o) (hq85 : 0 ≤ o.Size ∧ o.Size ≤ 8000) (hq86 : o.Tiles.length ≤ 8) (hq87 : (0 ≤ n ∧ n ≤ 19) ∧ tc ≤ t ∧ t ≤ tc + 4 + 8 * (19 - n)) (h88 : ¬ (0 < n)) (v249 : Int) (t250 : Int) (s251 : Int) (ht253 : t ≤ t250 ∧ t250 ≤ t + 2) (hq254 : (0 : Int) ≤ v249 ∧ ((v249 : Int) < 32 ∨ (v249 : Int) = 0)) (h257 : ¬ (v249 = 0)) (h286 : ¬ (v249 = 1)) (h305 : v249 = 2) (v316 : Int) (t317 : Int) (s318 : Int) (ht320 : t250 ≤ t317 ∧ t317 ≤ t250 + 2) (hq321 : v316 ∈ ([(-1), 3, 4] : List Int)) (hq324 : ((-1) : Int) ≤ v316 ∧ v316 ≤ 4) : o.Size = (⟨o.State, o.Tiles, o.Next, v316, o.Size⟩ : ScanJob).Size := by
  first | rfl | omega | grind
theorem z_c___spec_l1Cur__scanJob_342 (Lc : List UInt8) (tc : Int) (sc : Int) (nc : Nat) (htc : 0 ≤ tc ∧ tc + 170 ≤ 4611686018427387904) (hbdc : (nc : Int) ≤ 9223372036854775807) (hlec : nc = Lc.length) (v18 : Int) (t19 : Int) (s20 : Int) (ht22 : tc ≤ t19 ∧ t19 ≤ tc + 2) (hq23 : v18 ∈ ([1, 2, 3, 5, 8] : List Int)) (hq26 : (1 : Int) ≤ v18 ∧ v18 ≤ 8) (n30 : Nat) (hl35 : n30 = (((newJ v18).1).Tiles).length) (hl36 : (n30 : Int) ≤ 9223372036854775807) (hq37 : (newJ v18).1.Tiles.length ≤ 8) (v56 : Int) (t57 : Int) (s58 : Int) (ht60 : t19 ≤ t57 ∧ t57 ≤ t19 + 2) (hq61 : (0 : Int) ≤ v56 ∧ ((v56 : Int) < 20 ∨ (v56 : Int) = 0)) (n : Int) (o : ScanJob) (t : Int) (z : Int) (n64 : Nat) (c64 : Nat) (hi75 : (0 ≤ n ∧ n ≤ 19) ∧ JobOK o ∧ tc ≤ t ∧ t ≤ tc + 4 + 8 * (19 - n)) (hl82 : n64 = (o.Tiles).length) (hq84 : JobOK o) (hq85 : 0 ≤ o.Size ∧ o.Size ≤ 8000) (hq86 : o.Tiles.length ≤ 8) (hq87 : (0 ≤ n ∧ n ≤ 19) ∧ tc ≤ t ∧ t ≤ tc + 4 + 8 * (19 - n)) (h88 : ¬ (0 < n)) (v249 : Int) (t250 : Int) (s251 : Int) (ht253 : t ≤ t250 ∧ t250 ≤ t + 2) (hq254 : (0 : Int) ≤ v249 ∧ ((v249 : Int) < 32 ∨ (v249 : Int) = 0)) (h257 : ¬ (v249 = 0)) (h286 : ¬ (v249 = 1)) (h305 : v249 = 2) (v316 : Int) (t317 : Int) (s318 : Int) (ht320 : t250 ≤ t317 ∧ t317 ≤ t250 + 2) (hq321 : v316 ∈ ([(-1), 3, 4] : List Int)) (hq324 : ((-1) : Int) ≤ v316 ∧ v316 ≤ 4) : o.Tiles.length ≤ 9 := by
  first | omega | (simp only [List.length_append, List.length_cons, List.length_nil]; omega)
theorem z_c___spec_l1Cur__scanJob_677 (Lc : List UInt8) (tc : Int) (sc : Int) (nc : Nat) (htc : 0 ≤ tc ∧ tc + 170 ≤ 4611686018427387904) (hbdc : (nc : Int) ≤ 9223372036854775807) (hlec : nc = Lc.length) (v18 : Int) (t19 : Int) (s20 : Int) (ht22 : tc ≤ t19 ∧ t19 ≤ tc + 2) (hq23 : v18 ∈ ([1, 2, 3, 5, 8] : List Int)) (hq26 : (1 : Int) ≤ v18 ∧ v18 ≤ 8) (n30 : Nat) (hl35 : n30 = (((newJ v18).1).Tiles).length) (hl36 : (n30 : Int) ≤ 9223372036854775807) (hq37 : (newJ v18).1.Tiles.length ≤ 8) (v56 : Int) (t57 : Int) (s58 : Int) (ht60 : t19 ≤ t57 ∧ t57 ≤ t19 + 2) (hq61 : (0 : Int) ≤ v56 ∧ ((v56 : Int) < 20 ∨ (v56 : Int) = 0)) (n : Int) (o : ScanJob) (t : Int) (z : Int) (n64 : Nat) (c64 : Nat) (hi75 : (0 ≤ n ∧ n ≤ 19) ∧ JobOK o ∧ tc ≤ t ∧ t ≤ tc + 4 + 8 * (19 - n)) (hl82 : n64 = (o.Tiles).length) (hq84 : JobOK o) (hq85 : 0 ≤ o.Size ∧ o.Size ≤ 8000) (hq86 : o.Tiles.length ≤ 8) (hq87 : (0 ≤ n ∧ n ≤ 19) ∧ tc ≤ t ∧ t ≤ tc + 4 + 8 * (19 - n)) (h88 : ¬ (0 < n)) (v249 : Int) (t250 : Int) (s251 : Int) (ht253 : t ≤ t250 ∧ t250 ≤ t + 2) (hq254 : (0 : Int) ≤ v249 ∧ ((v249 : Int) < 32 ∨ (v249 : Int) = 0)) (h257 : ¬ (v249 = 0)) (h286 : ¬ (v249 = 1)) (h305 : ¬ (v249 = 2)) (h343 : v249 = 3) (v483 : Int) (t484 : Int) (s485 : Int) (ht487 : t250 ≤ t484 ∧ t484 ≤ t250 + 2) (hq488 : v483 ∈ ([0, 5, 101] : List Int)) (hq492 : (0 : Int) ≤ v483 ∧ v483 ≤ 101) : o.Tiles ++ ([v483] : List Int) = (⟨o.State, o.Tiles ++ ([v483] : List Int), o.Next, o.Fails, o.Size⟩ : ScanJob).Tiles := by
  first | rfl | omega | grind
theorem z_c___spec_l1Cur__scanJob_678 (Lc : List UInt8) (tc : Int) (sc : Int) (nc : Nat) (htc : 0 ≤ tc ∧ tc + 170 ≤ 4611686018427387904) (hbdc : (nc : Int) ≤ 9223372036854775807) (hlec : nc = Lc.length) (v18 : Int) (t19 : Int) (s20 : Int) (ht22 : tc ≤ t19 ∧ t19 ≤ tc + 2) (hq23 : v18 ∈ ([1, 2, 3, 5, 8] : List Int)) (hq26 : (1 : Int) ≤ v18 ∧ v18 ≤ 8) (n30 : Nat) (hl35 : n30 = (((newJ v18).1).Tiles).length) (hl36 : (n30 : Int) ≤ 9223372036854775807) (hq37 : (newJ v18).1.Tiles.length ≤ 8) (v56 : Int) (t57 : Int) (s58 : Int) (ht60 : t19 ≤ t57 ∧ t57 ≤ t19 + 2) (hq61 : (0 : Int) ≤ v56 ∧ ((v56 : Int) < 20 ∨ (v56 : Int) = 0)) (n : Int) (o : ScanJob) (t : Int) (z : Int) (n64 : Nat) (c64 : Nat) (hi75 : (0 ≤ n ∧ n ≤ 19) ∧ JobOK o ∧ tc ≤ t ∧ t ≤ tc + 4 + 8 * (19 - n)) (hl82 : n64 = (o.Tiles).length) (hq84 : JobOK o) (hq85 : 0 ≤ o.Size ∧ o.Size ≤ 8000) (hq86 : o.Tiles.length ≤ 8) (hq87 : (0 ≤ n ∧ n ≤ 19) ∧ tc ≤ t ∧ t ≤ tc + 4 + 8 * (19 - n)) (h88 : ¬ (0 < n)) (v249 : Int) (t250 : Int) (s251 : Int) (ht253 : t ≤ t250 ∧ t250 ≤ t + 2) (hq254 : (0 : Int) ≤ v249 ∧ ((v249 : Int) < 32 ∨ (v249 : Int) = 0)) (h257 : ¬ (v249 = 0)) (h286 : ¬ (v249 = 1)) (h305 : ¬ (v249 = 2)) (h343 : v249 = 3) (v483 : Int) (t484 : Int) (s485 : Int) (ht487 : t250 ≤ t484 ∧ t484 ≤ t250 + 2) (hq488 : v483 ∈ ([0, 5, 101] : List Int)) (hq492 : (0 : Int) ≤ v483 ∧ v483 ≤ 101) : o.State = (⟨o.State, o.Tiles ++ ([v483] : List Int), o.Next, o.Fails, o.Size⟩ : ScanJob).State := by
  first | rfl | omega | grind
theorem z_c___spec_l1Cur__scanJob_679 (Lc : List UInt8) (tc : Int) (sc : Int) (nc : Nat) (htc : 0 ≤ tc ∧ tc + 170 ≤ 4611686018427387904) (hbdc : (nc : Int) ≤ 9223372036854775807) (hlec : nc = Lc.length) (v18 : Int) (t19 : Int) (s20 : Int) (ht22 : tc ≤ t19 ∧ t19 ≤ tc + 2) (hq23 : v18 ∈ ([1, 2, 3, 5, 8] : List Int)) (hq26 : (1 : Int) ≤ v18 ∧ v18 ≤ 8) (n30 : Nat) (hl35 : n30 = (((newJ v18).1).Tiles).length) (hl36 : (n30 : Int) ≤ 9223372036854775807) (hq37 : (newJ v18).1.Tiles.length ≤ 8) (v56 : Int) (t57 : Int) (s58 : Int) (ht60 : t19 ≤ t57 ∧ t57 ≤ t19 + 2) (hq61 : (0 : Int) ≤ v56 ∧ ((v56 : Int) < 20 ∨ (v56 : Int) = 0)) (n : Int) (o : ScanJob) (t : Int) (z : Int) (n64 : Nat) (c64 : Nat) (hi75 : (0 ≤ n ∧ n ≤ 19) ∧ JobOK o ∧ tc ≤ t ∧ t ≤ tc + 4 + 8 * (19 - n)) (hl82 : n64 = (o.Tiles).length) (hq84 : JobOK o) (hq85 : 0 ≤ o.Size ∧ o.Size ≤ 8000) (hq86 : o.Tiles.length ≤ 8) (hq87 : (0 ≤ n ∧ n ≤ 19) ∧ tc ≤ t ∧ t ≤ tc + 4 + 8 * (19 - n)) (h88 : ¬ (0 < n)) (v249 : Int) (t250 : Int) (s251 : Int) (ht253 : t ≤ t250 ∧ t250 ≤ t + 2) (hq254 : (0 : Int) ≤ v249 ∧ ((v249 : Int) < 32 ∨ (v249 : Int) = 0)) (h257 : ¬ (v249 = 0)) (h286 : ¬ (v249 = 1)) (h305 : ¬ (v249 = 2)) (h343 : v249 = 3) (v483 : Int) (t484 : Int) (s485 : Int) (ht487 : t250 ≤ t484 ∧ t484 ≤ t250 + 2) (hq488 : v483 ∈ ([0, 5, 101] : List Int)) (hq492 : (0 : Int) ≤ v483 ∧ v483 ≤ 101) : o.Next = (⟨o.State, o.Tiles ++ ([v483] : List Int), o.Next, o.Fails, o.Size⟩ : ScanJob).Next := by
  first | rfl | omega | grind
theorem z_c___spec_l1Cur__scanJob_680 (Lc : List UInt8) (tc : Int) (sc : Int) (nc : Nat) (htc : 0 ≤ tc ∧ tc + 170 ≤ 4611686018427387904) (hbdc : (nc : Int) ≤ 9223372036854775807) (hlec : nc = Lc.length) (v18 : Int) (t19 : Int) (s20 : Int) (ht22 : tc ≤ t19 ∧ t19 ≤ tc + 2) (hq23 : v18 ∈ ([1, 2, 3, 5, 8] : List Int)) (hq26 : (1 : Int) ≤ v18 ∧ v18 ≤ 8) (n30 : Nat) (hl35 : n30 = (((newJ v18).1).Tiles).length) (hl36 : (n30 : Int) ≤ 9223372036854775807) (hq37 : (newJ v18).1.Tiles.length ≤ 8) (v56 : Int) (t57 : Int) (s58 : Int) (ht60 : t19 ≤ t57 ∧ t57 ≤ t19 + 2) (hq61 : (0 : Int) ≤ v56 ∧ ((v56 : Int) < 20 ∨ (v56 : Int) = 0)) (n : Int) (o : ScanJob) (t : Int) (z : Int) (n64 : Nat) (c64 : Nat) (hi75 : (0 ≤ n ∧ n ≤ 19) ∧ JobOK o ∧ tc ≤ t ∧ t ≤ tc + 4 + 8 * (19 - n)) (hl82 : n64 = (o.Tiles).length) (hq84 : JobOK o) (hq85 : 0 ≤ o.Size ∧ o.Size ≤ 8000) (hq86 : o.Tiles.length ≤ 8) (hq87 : (0 ≤ n ∧ n ≤ 19) ∧ tc ≤ t ∧ t ≤ tc + 4 + 8 * (19 - n)) (h88 : ¬ (0 < n)) (v249 : Int) (t250 : Int) (s251 : Int) (ht253 : t ≤ t250 ∧ t250 ≤ t + 2) (hq254 : (0 : Int) ≤ v249 ∧ ((v249 : Int) < 32 ∨ (v249 : Int) = 0)) (h257 : ¬ (v249 = 0)) (h286 : ¬ (v249 = 1)) (h305 : ¬ (v249 = 2)) (h343 : v249 = 3) (v483 : Int) (t484 : Int) (s485 : Int) (ht487 : t250 ≤ t484 ∧ t484 ≤ t250 + 2) (hq488 : v483 ∈ ([0, 5, 101] : List Int)) (hq492 : (0 : Int) ≤ v483 ∧ v483 ≤ 101) : o.Fails = (⟨o.State, o.Tiles ++ ([v483] : List Int), o.Next, o.Fails, o.Size⟩ : ScanJob).Fails := by
  first | rfl | omega | grind
theorem z_c___spec_l1Cur__scanJob_681 (Lc : List UInt8) (tc : Int) (sc : Int) (nc : Nat) (htc : 0 ≤ tc ∧ tc + 170 ≤ 4611686018427387904) (hbdc : (nc : Int) ≤ 9223372036854775807) (hlec : nc = Lc.length) (v18 : Int) (t19 : Int) (s20 : Int) (ht22 : tc ≤ t19 ∧ t19 ≤ tc + 2) (hq23 : v18 ∈ ([1, 2, 3, 5, 8] : List Int)) (hq26 : (1 : Int) ≤ v18 ∧ v18 ≤ 8) (n30 : Nat) (hl35 : n30 = (((newJ v18).1).Tiles).length) (hl36 : (n30 : Int) ≤ 9223372036854775807) (hq37 : (newJ v18).1.Tiles.length ≤ 8) (v56 : Int) (t57 : Int) (s58 : Int) (ht60 : t19 ≤ t57 ∧ t57 ≤ t19 + 2) (hq61 : (0 : Int) ≤ v56 ∧ ((v56 : Int) < 20 ∨ (v56 : Int) = 0)) (n : Int) (o : ScanJob) (t : Int) (z : Int) (n64 : Nat) (c64 : Nat) (hi75 : (0 ≤ n ∧ n ≤ 19) ∧ JobOK o ∧ tc ≤ t ∧ t ≤ tc + 4 + 8 * (19 - n)) (hl82 : n64 = (o.Tiles).length) (hq84 : JobOK o) (hq85 : 0 ≤ o.Size ∧ o.Size ≤ 8000) (hq86 : o.Tiles.length ≤ 8) (hq87 : (0 ≤ n ∧ n ≤ 19) ∧ tc ≤ t ∧ t ≤ tc + 4 + 8 * (19 - n)) (h88 : ¬ (0 < n)) (v249 : Int) (t250 : Int) (s251 : Int) (ht253 : t ≤ t250 ∧ t250 ≤ t + 2) (hq254 : (0 : Int) ≤ v249 ∧ ((v249 : Int) < 32 ∨ (v249 : Int) = 0)) (h257 : ¬ (v249 = 0)) (h286 : ¬ (v249 = 1)) (h305 : ¬ (v249 = 2)) (h343 : v249 = 3) (v483 : Int) (t484 : Int) (s485 : Int) (ht487 : t250 ≤ t484 ∧ t484 ≤ t250 + 2) (hq488 : v483 ∈ ([0, 5, 101] : List Int)) (hq492 : (0 : Int) ≤ v483 ∧ v483 ≤ 101) : o.Size = (⟨o.State, o.Tiles ++ ([v483] : List Int), o.Next, o.Fails, o.Size⟩ : ScanJob).Size := by
  first | rfl | omega | grind
theorem z_c___spec_l1Cur__scanJob_682 (Lc : List UInt8) (tc : Int) (sc : Int) (nc : Nat) (htc : 0 ≤ tc ∧ tc + 170 ≤ 4611686018427387904) (hbdc : (nc : Int) ≤ 9223372036854775807) (hlec : nc = Lc.length) (v18 : Int) (t19 : Int) (s20 : Int) (ht22 : tc ≤ t19 ∧ t19 ≤ tc + 2) (hq23 : v18 ∈ ([1, 2, 3, 5, 8] : List Int)) (hq26 : (1 : Int) ≤ v18 ∧ v18 ≤ 8) (n30 : Nat) (hl35 : n30 = (((newJ v18).1).Tiles).length) (hl36 : (n30 : Int) ≤ 9223372036854775807) (hq37 : (newJ v18).1.Tiles.length ≤ 8) (v56 : Int) (t57 : Int) (s58 : Int) (ht60 : t19 ≤ t57 ∧ t57 ≤ t19 + 2) (hq61 : (0 : Int) ≤ v56 ∧ ((v56 : Int) < 20 ∨ (v56 : Int) = 0)) (n : Int) (o : ScanJob) (t : Int) (z : Int) (n64 : Nat) (c64 : Nat) (hi75 : (0 ≤ n ∧ n ≤ 19) ∧ JobOK o ∧ tc ≤ t ∧ t ≤ tc + 4 + 8 * (19 - n)) (hl82 : n64 = (o.Tiles).length) (hq84 : JobOK o) (hq85 : 0 ≤ o.Size ∧ o.Size ≤ 8000) (hq86 : o.Tiles.length ≤ 8) (hq87 : (0 ≤ n ∧ n ≤ 19) ∧ tc ≤ t ∧ t ≤ tc + 4 + 8 * (19 - n)) (h88 : ¬ (0 < n)) (v249 : Int) (t250 : Int) (s251 : Int) (ht253 : t ≤ t250 ∧ t250 ≤ t + 2) (hq254 : (0 : Int) ≤ v249 ∧ ((v249 : Int) < 32 ∨ (v249 : Int) = 0)) (h257 : ¬ (v249 = 0)) (h286 : ¬ (v249 = 1)) (h305 : ¬ (v249 = 2)) (h343 : v249 = 3) (v483 : Int) (t484 : Int) (s485 : Int) (ht487 : t250 ≤ t484 ∧ t484 ≤ t250 + 2) (hq488 : v483 ∈ ([0, 5, 101] : List Int)) (hq492 : (0 : Int) ≤ v483 ∧ v483 ≤ 101) : (o.Tiles ++ ([v483] : List Int)).length ≤ 9 := by
  first | omega | (simp only [List.length_append, List.length_cons, List.length_nil]; omega)
theorem z_c___spec_l1Cur__scanJob_689 (Lc : List UInt8) (tc : Int) (sc : Int) (nc : Nat) (htc : 0 ≤ tc ∧ tc + 170 ≤ 4611686018427387904) (hbdc : (nc : Int) ≤ 9223372036854775807) (hlec : nc = Lc.length) (v18 : Int) (t19 : Int) (s20 : Int) (ht22 : tc ≤ t19 ∧ t19 ≤ tc + 2) (hq23 : v18 ∈ ([1, 2, 3, 5, 8] : List Int)) (hq26 : (1 : Int) ≤ v18 ∧ v18 ≤ 8) (n30 : Nat) (hl35 : n30 = (((newJ v18).1).Tiles).length) (hl36 : (n30 : Int) ≤ 9223372036854775807) (hq37 : (newJ v18).1.Tiles.length ≤ 8) (v56 : Int) (t57 : Int) (s58 : Int) (ht60 : t19 ≤ t57 ∧ t57 ≤ t19 + 2) (hq61 : (0 : Int) ≤ v56 ∧ ((v56 : Int) < 20 ∨ (v56 : Int) = 0)) (n : Int) (o : ScanJob) (t : Int) (z : Int) (n64 : Nat) (c64 : Nat) (hi75 : (0 ≤ n ∧ n ≤ 19) ∧ JobOK o ∧ tc ≤ t ∧ t ≤ tc + 4 + 8 * (19 - n)) (hl82 : n64 = (o.Tiles).length) (hq84 : JobOK o) (hq85 : 0 ≤ o.Size ∧ o.Size ≤ 8000) (hq86 : o.Tiles.length ≤ 8) (hq87 : (0 ≤ n ∧ n ≤ 19) ∧ tc ≤ t ∧ t ≤ tc + 4 + 8 * (19 - n)) (h88 : ¬ (0 < n)) (v249 : Int) (t250 : Int) (s251 : Int) (ht253 : t ≤ t250 ∧ t250 ≤ t + 2) (hq254 : (0 : Int) ≤ v249 ∧ ((v249 : Int) < 32 ∨ (v249 : Int) = 0)) (h257 : ¬ (v249 = 0)) (h286 : ¬ (v249 = 1)) (h305 : ¬ (v249 = 2)) (h343 : ¬ (v249 = 3)) : o.Tiles.length ≤ 9 := by
  first | omega | (simp only [List.length_append, List.length_cons, List.length_nil]; omega)
theorem c___spec_l1Cur__scanJob (w : World) {gc ec : Nat} {Ac : Option Addr} {nc cc Bc : Nat} (Lc : List UInt8) (tc sc : Int) (hc : Blk w gc ec [.slice Ac nc cc, .int .i64 tc, .int .u64 sc]) (hLc : SlR w Bc encB 1 Ac nc cc Lc) (hgc : Bc ≤ gc) (htc : 0 ≤ tc ∧ tc + 170 ≤ 4611686018427387904) : Calls Tryd.prog 105 #[.pointer (some ⟨gc, 0, none⟩)] w fun e w' => ∃ (A1' : Option Addr) (n1' c1' : Nat) (x : ScanJob) (tc' sc' : Int), e = .returned (.agg (List.toArray [.int .i64 x.State, .slice A1' n1' c1', .int .i64 x.Next, .int .i64 x.Fails, .int .i64 x.Size])) ∧ SlO w' w.heap.size encI 1 3 A1' n1' c1' x.Tiles ∧ Blk w' gc ec [.slice Ac nc cc, .int .i64 tc', .int .u64 sc'] ∧ (tc ≤ tc' ∧ tc' ≤ tc + 170) ∧ (x.Tiles.length ≤ 9) ∧ Kp (fun b_ => b_ = gc) w w' := by
  refine calls_W 61 Tryd.func105 rfl rfl rfl ?_
  have hBlc := hc.lt
  have hbdc := hLc.bound
  have hlec := hLc.len
  have hBbc := hLc.bd
  refine W.seq ?_
  refine W.regS (SR.alloc (l := [.int .i64 0, .slice none 0 0, .int .i64 0, .int .i64 0, .int .i64 0]) tz57 rfl ?_)
  intro g1 w2 hg3 hk4 hs5 hb6
  have hz7 := hk4.size
  have hB8 := (Kp.refl w : Kp (fun b_ => b_ = gc) w w).lo hk4
  refine SR.nil ?_
  refine W.seq ?_
  refine W.regS (SR.q' (r_mv (v := .pointer (some _)) rfl) <| SR.lit (vs := [.int .i64 1, .int .i64 2, .int .i64 3, .int .i64 5, .int .i64 8]) (L := ([1, 2, 3, 5, 8] : List Int)) (enc := encI) tel38 (fun _ => rfl) rfl rfl rfl (by decide) ?_)
  intro g9 w10 hg11 hk12 hO13
  have hz14 := hk12.size
  have hB15 := hB8.lo hk12
  refine SR.call ent54 (c___spec_l1Cur__among w10 Lc tc sc (((hc).lo hk4).lo hk12) ((((hLc).lo hk4).lo hk12)) (by omega) (by omega) ([1, 2, 3, 5, 8] : List Int) (((hO13).rd)) (by omega) (by omega) (show ¬ g9 = gc from by omega)) rfl ?_
  rintro e w16 ⟨v18, t19, s20, rfl, hb21, ht22, hq23, hk17⟩
  refine ⟨_, rfl, ?_⟩
  have hz24 := hk17.size
  have hB25 := hB15.step hk17 (fun i_ hi_ e' => e')
  have hq26 : (1 : Int) ≤ v18 ∧ v18 ≤ 8 := mem_rngB (lo := 1) (hi := 8) (by decide) hq23
  refine SR.call ent122 (c_spec_NewScan w16 v18) rfl ?_
  rintro e w27 ⟨A29, n30, c31, rfl, hO32, hk28⟩
  refine ⟨_, rfl, ?_⟩
  have hz33 := hk28.size
  have hB34 := hB25.lo hk28
  have hl35 := hO32.len
  have hl36 := hO32.rd.bound
  have hq37 : (newJ v18).1.Tiles.length ≤ 8 := newJ_len v18
  refine SR.q' (r_mv (v := .tuple (List.toArray _)) rfl) <| SR.q' (r_ext (v := .agg (List.toArray _)) rfl rfl) <| SR.q' (r_ext (v := .bool _) rfl rfl) <| SR.alloc (l := [.int .i64 0, .slice none 0 0, .int .i64 0, .int .i64 0, .int .i64 0]) tz57 rfl ?_
  intro g38 w39 hg40 hk41 hs42 hb43
  have hz44 := hk41.size
  have hB45 := hB34.lo hk41
  have hd46 : ¬ (some (⟨g9, 0, none⟩ : Addr)) = some ⟨g38, 0, none⟩ := fun e' => by have := (((hO13).kp hk17 (fun b_ hb e' => by have e'' : b_ = gc := e'; have := (hO13).base_le hb; omega)).lo hk28).base_le e'; omega
  have hd47 : ¬ A29 = some ⟨g38, 0, none⟩ := fun e' => by have := (hO32).base_le e'; omega
  refine SR.store (o := 0) (vs := [.int .i64 (((newJ v18).1).State), .slice A29 n30 c31, .int .i64 (((newJ v18).1).Next), .int .i64 (((newJ v18).1).Fails), .int .i64 (((newJ v18).1).Size)]) agg57.2 rfl rfl rfl rfl (hb43) (Nat.le_of_ble_eq_true rfl) rfl ?_
  intro w48 hk49 hs50 hb51
  have hz52 := hk49.size
  have hB53 := hB45.new hk49 (by omega)
  refine SR.q' (r_as (v := .bool _) rfl) <| SR.nil ?_
  refine W.seq ?_
  refine W.seq ?_
  refine W.regS (SR.q' (r_mv (v := .pointer (some _)) rfl) <| SR.call ent95 (c___spec_l1Cur__pick w48 Lc t19 s20 ((((hb21).lo hk28).lo hk41).kp hk49 (fun e' => by have e'' : gc = g38 := e'; omega)) ((((((((hLc).lo hk4).lo hk12).kp hk17 (fun b_ hb e' => by have e'' : b_ = gc := e'; omega)).lo hk28).lo hk41).kp hk49 (fun b_ hb e' => by have e'' : b_ = g38 := e'; omega))) (by omega) (by omega) 20 (by first | omega | (simp only [List.length_append, List.length_cons, List.length_nil, List.length_take, List.length_drop]; omega))) rfl ?_)
  rintro e w54 ⟨v56, t57, s58, rfl, hb59, ht60, hq61, hk55⟩
  refine ⟨_, rfl, ?_⟩
  have hz62 := hk55.size
  have hB63 := hB53.step hk55 (fun i_ hi_ e' => e')
  refine SR.q' (r_as (v := .int .i64 _) rfl) <| SR.nil ?_
  refine W.block ?_
  refine W.loop (σ := Int × ScanJob × Int × Int × (Option Addr) × Nat × Nat) (fun g => [(0, .pointer (some ((⟨gc, 0, none⟩ : Addr)))), (2, .pointer (some ((⟨g1, 0, none⟩ : Addr)))), (3, .pointer (some ((⟨g38, 0, none⟩ : Addr)))), (5, .int .i64 g.1)]) (fun g w' => (Kp (fun b_ => b_ = gc) w w') ∧ (Blk w' gc ec [.slice Ac nc cc, .int .i64 g.2.2.1, .int .u64 g.2.2.2.1]) ∧ (SlR w' Bc encB 1 Ac nc cc Lc) ∧ (Blk w' g1 57 [.int .i64 0, .slice none 0 0, .int .i64 0, .int .i64 0, .int .i64 0]) ∧ (Blk w' g38 57 [.int .i64 g.2.1.State, .slice g.2.2.2.2.1 g.2.2.2.2.2.1 g.2.2.2.2.2.2, .int .i64 g.2.1.Next, .int .i64 g.2.1.Fails, .int .i64 g.2.1.Size]) ∧ (SlO w' w.heap.size encI 1 3 g.2.2.2.2.1 g.2.2.2.2.2.1 g.2.2.2.2.2.2 g.2.1.Tiles) ∧ (¬ g.2.2.2.2.1 = some ⟨gc, 0, none⟩) ∧ (¬ g.2.2.2.2.1 = some ⟨g1, 0, none⟩) ∧ (¬ g.2.2.2.2.1 = some ⟨g38, 0, none⟩) ∧ ((0 ≤ g.1 ∧ g.1 ≤ 19) ∧ JobOK g.2.1 ∧ tc ≤ g.2.2.1 ∧ g.2.2.1 ≤ tc + 4 + 8 * (19 - g.1))) (fun g => g.1.toNat) (v56, ((newJ v18).1), t57, s58, A29, n30, c31) ?_ ?_ ?_
  · exact ⟨rfl, rfl, rfl, rfl, trivial⟩
  · show (Kp (fun b_ => b_ = gc) w w54) ∧ (Blk w54 gc ec [.slice Ac nc cc, .int .i64 t57, .int .u64 s58]) ∧ (SlR w54 Bc encB 1 Ac nc cc Lc) ∧ (Blk w54 g1 57 [.int .i64 0, .slice none 0 0, .int .i64 0, .int .i64 0, .int .i64 0]) ∧ (Blk w54 g38 57 [.int .i64 (((newJ v18).1).State), .slice A29 n30 c31, .int .i64 (((newJ v18).1).Next), .int .i64 (((newJ v18).1).Fails), .int .i64 (((newJ v18).1).Size)]) ∧ (SlO w54 w.heap.size encI 1 3 A29 n30 c31 (((newJ v18).1).Tiles)) ∧ (¬ A29 = some ⟨gc, 0, none⟩) ∧ (¬ A29 = some ⟨g1, 0, none⟩) ∧ (¬ A29 = some ⟨g38, 0, none⟩) ∧ ((0 ≤ v56 ∧ v56 ≤ 19) ∧ JobOK ((newJ v18).1) ∧ tc ≤ t57 ∧ t57 ≤ tc + 4 + 8 * (19 - v56))
    exact ⟨hB63, (hb59), (((((((hLc).lo hk4).lo hk12).kp hk17 (fun b_ hb e' => by have e'' : b_ = gc := e'; omega)).lo hk28).lo hk41).kp hk49 (fun b_ hb e' => by have e'' : b_ = g38 := e'; omega)).kp hk55 (fun b_ hb e' => by have e'' : b_ = gc := e'; omega), ((((((hb6).lo hk12).kp hk17 (fun e' => by have e'' : g1 = gc := e'; omega)).lo hk28).lo hk41).kp hk49 (fun e' => by have e'' : g1 = g38 := e'; omega)).kp hk55 (fun e' => by have e'' : g1 = gc := e'; omega), ((hb51).kp hk55 (fun e' => by have e'' : g38 = gc := e'; omega)), (((((hO32).lo hk41).kp hk49 (fun b_ hb e' => hd47 (by have e'' : b_ = g38 := e'; rw [← e'']; exact hb))).kp hk55 (fun b_ hb e' => by have e'' : b_ = gc := e'; have := (((hO32).lo hk41).kp hk49 (fun b_ hb e' => hd47 (by have e'' : b_ = g38 := e'; rw [← e'']; exact hb))).base_le hb; omega)).down (by omega)), (fun e' => by have := ((((hO32).lo hk41).kp hk49 (fun b_ hb e' => hd47 (by have e'' : b_ = g38 := e'; rw [← e'']; exact hb))).kp hk55 (fun b_ hb e' => by have e'' : b_ = gc := e'; have := (((hO32).lo hk41).kp hk49 (fun b_ hb e' => hd47 (by have e'' : b_ = g38 := e'; rw [← e'']; exact hb))).base_le hb; omega)).base_le e'; omega), (fun e' => by have := ((((hO32).lo hk41).kp hk49 (fun b_ hb e' => hd47 (by have e'' : b_ = g38 := e'; rw [← e'']; exact hb))).kp hk55 (fun b_ hb e' => by have e'' : b_ = gc := e'; have := (((hO32).lo hk41).kp hk49 (fun b_ hb e' => hd47 (by have e'' : b_ = g38 := e'; rw [← e'']; exact hb))).base_le hb; omega)).base_le e'; omega), hd47, (z_c___spec_l1Cur__scanJob_65 Lc tc sc nc htc hbdc hlec v18 t19 s20 ht22 hq23 hq26 n30 hl35 hl36 hq37 v56 t57 s58 ht60 hq61)⟩
  · rintro ⟨n, o, t, z, A64, n64, c64⟩ f66 w67 hP69
    obtain ⟨hB68, hm70, hm71, hm72, hm73, hO74, hd76, hd77, hd78, hi75⟩ : (Kp (fun b_ => b_ = gc) w w67) ∧ (Blk w67 gc ec [.slice Ac nc cc, .int .i64 t, .int .u64 z]) ∧ (SlR w67 Bc encB 1 Ac nc cc Lc) ∧ (Blk w67 g1 57 [.int .i64 0, .slice none 0 0, .int .i64 0, .int .i64 0, .int .i64 0]) ∧ (Blk w67 g38 57 [.int .i64 o.State, .slice A64 n64 c64, .int .i64 o.Next, .int .i64 o.Fails, .int .i64 o.Size]) ∧ (SlO w67 w.heap.size encI 1 3 A64 n64 c64 o.Tiles) ∧ (¬ A64 = some ⟨gc, 0, none⟩) ∧ (¬ A64 = some ⟨g1, 0, none⟩) ∧ (¬ A64 = some ⟨g38, 0, none⟩) ∧ ((0 ≤ n ∧ n ≤ 19) ∧ JobOK o ∧ tc ≤ t ∧ t ≤ tc + 4 + 8 * (19 - n)) := hP69
    refine (?_ : W _ _ _ _ _ (act _ (sets f66 [(0, .pointer (some ((⟨gc, 0, none⟩ : Addr)))), (2, .pointer (some ((⟨g1, 0, none⟩ : Addr)))), (3, .pointer (some ((⟨g38, 0, none⟩ : Addr)))), (5, .int .i64 n)])) _)
    have hzw67 := hB68.size
    have hl79 := hm70.lt
    have hl80 := hm72.lt
    have hl81 := hm73.lt
    have hl82 := hO74.len
    have hl83 := hO74.rd.bound
    have hq84 : JobOK o := hi75.2.1
    have hq85 : 0 ≤ o.Size ∧ o.Size ≤ 8000 := job_size hi75.2.1
    have hq86 : o.Tiles.length ≤ 8 := (job_rng hi75.2.1).1
    have hq87 : (0 ≤ n ∧ n ≤ 19) ∧ tc ≤ t ∧ t ≤ tc + 4 + 8 * (19 - n) := And.intro hi75.1 hi75.2.2
    refine W.seq ?_
    refine W.seq ?_
    refine W.regS (SR.q' (r_mv (v := .int .i64 _) rfl) <| SR.q' (r_gt rfl rfl) <| SR.nil ?_)
    refine W.cond_d rfl (fun h88 => ?_) (fun h88 => ?_)
    · refine W.skip ?_
      refine W.seq ?_
      refine W.block ?_
      refine W.seq ?_
      refine W.regA (Kp (fun b_ => b_ = gc) w67) (fun f' w' => ∃ (v109 : ScanStep), ∃ (t110 : Int), ∃ (s111 : Int), ∃ (A119 : Option Addr), ∃ (n120 : Nat), ∃ (c121 : Nat), ∃ (g129 : Nat), At f' [(0, .pointer (some ((⟨gc, 0, none⟩ : Addr)))), (2, .pointer (some ((⟨g1, 0, none⟩ : Addr)))), (3, .pointer (some ((⟨g38, 0, none⟩ : Addr)))), (5, .int .i64 n), (6, .pointer (some ((⟨g129, 0, none⟩ : Addr)))), (7, .bool ((spec_StepScan o v109).2))] ∧ (Kp (fun b_ => b_ = gc) w67 w') ∧ (SlO w' w67.heap.size encI 1 3 A119 n120 c121 (((spec_StepScan o v109).1).Tiles)) ∧ (Blk w' g129 57 [.int .i64 (((spec_StepScan o v109).1).State), .slice A119 n120 c121, .int .i64 (((spec_StepScan o v109).1).Next), .int .i64 (((spec_StepScan o v109).1).Fails), .int .i64 (((spec_StepScan o v109).1).Size)]) ∧ (w67.heap.size ≤ g129 ∧ g129 < w'.heap.size) ∧ (Blk w' gc ec [.slice Ac nc cc, .int .i64 t110, .int .u64 s111]) ∧ (¬ A64 = some ⟨g129, 0, none⟩) ∧ (¬ A119 = some ⟨g129, 0, none⟩) ∧ (∀ b_, A119 = some ⟨b_, 0, none⟩ → ¬ A64 = some ⟨b_, 0, none⟩) ∧ (t ≤ t110 ∧ t110 ≤ t + 8) ∧ (n120 = (((spec_StepScan o v109).1).Tiles).length) ∧ ((n120 : Int) ≤ 9223372036854775807) ∧ ((((spec_StepScan o v109).1).Tiles).length ≤ 8)) mo ?_ ?_
      · intro w103 hk104
        have hz105 := hk104.size
        have hB106 := hB68.lo hk104
        refine AH.take 0 rfl (by kernel_rfl) trivial ((Kp.refl w67 : Kp (fun b_ => b_ = gc) w67 w67).lo hk104) (fun w' hw' => r_lda (l := [.int .i64 o.State, .slice A64 n64 c64, .int .i64 o.Next, .int .i64 o.Fails, .int .i64 o.Size]) agg57 rfl (fun _ _ hu => ((hm73).kp hw' (fun e' => by have e'' : g38 = gc := e'; omega)).cell hu) rfl) <| AH.take 1 rfl (by kernel_rfl) trivial ((Kp.refl w67 : Kp (fun b_ => b_ = gc) w67 w67).lo hk104) (fun w' hw' => r_mv (v := .pointer (some _)) rfl) <| AH.take 2 rfl (by kernel_rfl) trivial ((Kp.refl w67 : Kp (fun b_ => b_ = gc) w67 w67).lo hk104) (fun w' hw' => r_lda (l := [.int .i64 o.State, .slice A64 n64 c64, .int .i64 o.Next, .int .i64 o.Fails, .int .i64 o.Size]) agg57 rfl (fun _ _ hu => ((hm73).kp hw' (fun e' => by have e'' : g38 = gc := e'; omega)).cell hu) rfl) <| AH.br [3, 8] (by kernel_rfl) rfl ⟨Br.mk' rfl trivial ?_, Br.mk' rfl trivial ?_, trivial⟩
        · refine SR.call ent124 (c___spec_l1Cur__scanStep w103 Lc t z ((hm70).lo hk104) (((hm71).lo hk104)) (by omega) (by omega) o ((((hO74).lo hk104).rd))) rfl ?_
          rintro e w107 ⟨v109, t110, s111, rfl, hb112, ht113, hk108⟩
          refine ⟨_, rfl, ?_⟩
          have hz114 := hk108.size
          have hB115 := hB106.step hk108 (fun i_ hi_ e' => e')
          have hS116 := ((Kp.refl w67 : Kp (fun b_ => b_ = gc) w67 w67).lo hk104).step hk108 (fun _ _ e => e)
          refine SR.nil ⟨hS116, _, rfl, ?_⟩
          refine AH.br [4, 8] (by kernel_rfl) rfl ⟨Br.mk' rfl trivial ?_, Br.mk' rfl trivial ?_, trivial⟩
          · refine SR.call ent123 (c_spec_StepScan w107 o (((((hO74).lo hk104).kp hk108 (fun b_ hb e' => hd76 (by have e'' : b_ = gc := e'; rw [← e'']; exact hb))).rd)) v109) rfl ?_
            rintro e w117 ⟨A119, n120, c121, rfl, hO122, hk118⟩
            refine ⟨_, rfl, ?_⟩
            have hz123 := hk118.size
            have hB124 := hB115.lo hk118
            have hS125 := (hS116).lo hk118
            have hl126 := hO122.len
            have hl127 := hO122.rd.bound
            have hq128 := step_lenJS o v109
            refine SR.nil ⟨hS125, _, rfl, ?_⟩
            refine AH.take 5 rfl (by kernel_rfl) trivial (hS125) (fun w' hw' => r_mv (v := .tuple (List.toArray _)) rfl) <| AH.take 6 rfl (by kernel_rfl) trivial (hS125) (fun w' hw' => r_ext (v := .agg (List.toArray _)) rfl rfl) <| AH.take 7 rfl (by kernel_rfl) trivial (hS125) (fun w' hw' => r_ext (v := .bool _) rfl rfl) <| AH.br [8] (by kernel_rfl) rfl ⟨Br.mk' rfl trivial ?_, trivial⟩
            refine SR.alloc (l := [.int .i64 0, .slice none 0 0, .int .i64 0, .int .i64 0, .int .i64 0]) tz57 rfl ?_
            intro g129 w130 hg131 hk132 hs133 hb134
            have hz135 := hk132.size
            have hB136 := hB124.lo hk132
            have hS137 := (hS125).lo hk132
            have hd138 : ¬ A64 = some ⟨g129, 0, none⟩ := fun e' => by have := ((((hO74).lo hk104).kp hk108 (fun b_ hb e' => hd76 (by have e'' : b_ = gc := e'; rw [← e'']; exact hb))).lo hk118).base_le e'; omega
            have hd139 : ¬ A119 = some ⟨g129, 0, none⟩ := fun e' => by have := (hO122).base_le e'; omega
            refine SR.nil ⟨hS137, _, rfl, ?_⟩
            refine AH.br [9] (by kernel_rfl) rfl ⟨Br.mk' rfl trivial ?_, trivial⟩
            refine SR.store (o := 0) (vs := [.int .i64 (((spec_StepScan o v109).1).State), .slice A119 n120 c121, .int .i64 (((spec_StepScan o v109).1).Next), .int .i64 (((spec_StepScan o v109).1).Fails), .int .i64 (((spec_StepScan o v109).1).Size)]) agg57.2 rfl rfl rfl rfl (hb134) (Nat.le_of_ble_eq_true rfl) rfl ?_
            intro w140 hk141 hs142 hb143
            have hz144 := hk141.size
            have hB145 := hB136.new hk141 (by omega)
            have hS146 := (hS137).new hk141 (by omega)
            refine SR.nil ⟨hS146, _, rfl, ?_⟩
            refine AH.take 10 rfl (by kernel_rfl) trivial (hS146) (fun w' hw' => r_as (v := .bool _) rfl) <| AH.done (by kernel_rfl) ?_
            exact ⟨v109, t110, s111, A119, n120, c121, g129, ⟨rfl, rfl, rfl, rfl, rfl, rfl, trivial⟩, hS146, ((((hO122).lo hk132).kp hk141 (fun b_ hb e' => hd139 (by have e'' : b_ = g129 := e'; rw [← e'']; exact hb))).down (by omega)), (hb143), ⟨by omega, (hb143).lt⟩, ((((hb112).lo hk118).lo hk132).kp hk141 (fun e' => by have e'' : gc = g129 := e'; omega)), hd138, hd139, (fun b_ h h' => by have h1 := (((hO122).lo hk132).kp hk141 (fun b_ hb e' => hd139 (by have e'' : b_ = g129 := e'; rw [← e'']; exact hb))).base_le h; have h2 := (((hO74).lo hk104).kp hk108 (fun b_ hb e' => hd76 (by have e'' : b_ = gc := e'; rw [← e'']; exact hb))).base_le h'; omega), ht113, hl126, hl127, hq128⟩
          · refine SR.alloc (l := [.int .i64 0, .slice none 0 0, .int .i64 0, .int .i64 0, .int .i64 0]) tz57 rfl ?_
            intro g154 w155 hg156 hk157 hs158 hb159
            have hz160 := hk157.size
            have hB161 := hB115.lo hk157
            have hS162 := (hS116).lo hk157
            have hd163 : ¬ A64 = some ⟨g154, 0, none⟩ := fun e' => by have := (((hO74).lo hk104).kp hk108 (fun b_ hb e' => hd76 (by have e'' : b_ = gc := e'; rw [← e'']; exact hb))).base_le e'; omega
            refine SR.nil ⟨hS162, _, rfl, ?_⟩
            refine AH.br [4] (by kernel_rfl) rfl ⟨Br.mk' rfl trivial ?_, trivial⟩
            refine SR.call ent123 (c_spec_StepScan w155 o ((((((hO74).lo hk104).kp hk108 (fun b_ hb e' => hd76 (by have e'' : b_ = gc := e'; rw [← e'']; exact hb))).lo hk157).rd)) v109) rfl ?_
            rintro e w164 ⟨A166, n167, c168, rfl, hO169, hk165⟩
            refine ⟨_, rfl, ?_⟩
            have hz170 := hk165.size
            have hB171 := hB161.lo hk165
            have hS172 := (hS162).lo hk165
            have hl173 := hO169.len
            have hl174 := hO169.rd.bound
            have hq175 := step_lenJS o v109
            refine SR.nil ⟨hS172, _, rfl, ?_⟩
            refine AH.take 5 rfl (by kernel_rfl) trivial (hS172) (fun w' hw' => r_mv (v := .tuple (List.toArray _)) rfl) <| AH.take 6 rfl (by kernel_rfl) trivial (hS172) (fun w' hw' => r_ext (v := .agg (List.toArray _)) rfl rfl) <| AH.take 7 rfl (by kernel_rfl) trivial (hS172) (fun w' hw' => r_ext (v := .bool _) rfl rfl) <| AH.br [9] (by kernel_rfl) rfl ⟨Br.mk' rfl trivial ?_, trivial⟩
            refine SR.store (o := 0) (vs := [.int .i64 (((spec_StepScan o v109).1).State), .slice A166 n167 c168, .int .i64 (((spec_StepScan o v109).1).Next), .int .i64 (((spec_StepScan o v109).1).Fails), .int .i64 (((spec_StepScan o v109).1).Size)]) agg57.2 rfl rfl rfl rfl ((hb159).lo hk165) (Nat.le_of_ble_eq_true rfl) rfl ?_
            intro w176 hk177 hs178 hb179
            have hz180 := hk177.size
            have hB181 := hB171.new hk177 (by omega)
            have hS182 := (hS172).new hk177 (by omega)
            refine SR.nil ⟨hS182, _, rfl, ?_⟩
            refine AH.take 10 rfl (by kernel_rfl) trivial (hS182) (fun w' hw' => r_as (v := .bool _) rfl) <| AH.done (by kernel_rfl) ?_
            exact ⟨v109, t110, s111, A166, n167, c168, g154, ⟨rfl, rfl, rfl, rfl, rfl, rfl, trivial⟩, hS182, (((hO169).kp hk177 (fun b_ hb e' => by have e'' : b_ = g154 := e'; have := (hO169).base_le hb; omega)).down (by omega)), (hb179), ⟨by omega, (hb179).lt⟩, ((((hb112).lo hk157).lo hk165).kp hk177 (fun e' => by have e'' : gc = g154 := e'; omega)), hd163, (fun e' => by have := ((hO169).kp hk177 (fun b_ hb e' => by have e'' : b_ = g154 := e'; have := (hO169).base_le hb; omega)).base_le e'; omega), (fun b_ h h' => by have h1 := ((hO169).kp hk177 (fun b_ hb e' => by have e'' : b_ = g154 := e'; have := (hO169).base_le hb; omega)).base_le h; have h2 := ((((hO74).lo hk104).kp hk108 (fun b_ hb e' => hd76 (by have e'' : b_ = gc := e'; rw [← e'']; exact hb))).lo hk157).base_le h'; omega), ht113, hl173, hl174, hq175⟩
        · refine SR.alloc (l := [.int .i64 0, .slice none 0 0, .int .i64 0, .int .i64 0, .int .i64 0]) tz57 rfl ?_
          intro g187 w188 hg189 hk190 hs191 hb192
          have hz193 := hk190.size
          have hB194 := hB106.lo hk190
          have hS195 := ((Kp.refl w67 : Kp (fun b_ => b_ = gc) w67 w67).lo hk104).lo hk190
          have hd196 : ¬ A64 = some ⟨g187, 0, none⟩ := fun e' => by have := ((hO74).lo hk104).base_le e'; omega
          refine SR.nil ⟨hS195, _, rfl, ?_⟩
          refine AH.br [3] (by kernel_rfl) rfl ⟨Br.mk' rfl trivial ?_, trivial⟩
          refine SR.call ent124 (c___spec_l1Cur__scanStep w188 Lc t z (((hm70).lo hk104).lo hk190) ((((hm71).lo hk104).lo hk190)) (by omega) (by omega) o (((((hO74).lo hk104).lo hk190).rd))) rfl ?_
          rintro e w197 ⟨v199, t200, s201, rfl, hb202, ht203, hk198⟩
          refine ⟨_, rfl, ?_⟩
          have hz204 := hk198.size
          have hB205 := hB194.step hk198 (fun i_ hi_ e' => e')
          have hS206 := (hS195).step hk198 (fun _ _ e => e)
          refine SR.nil ⟨hS206, _, rfl, ?_⟩
          refine AH.br [4] (by kernel_rfl) rfl ⟨Br.mk' rfl trivial ?_, trivial⟩
          refine SR.call ent123 (c_spec_StepScan w197 o ((((((hO74).lo hk104).lo hk190).kp hk198 (fun b_ hb e' => hd76 (by have e'' : b_ = gc := e'; rw [← e'']; exact hb))).rd)) v199) rfl ?_
          rintro e w207 ⟨A209, n210, c211, rfl, hO212, hk208⟩
          refine ⟨_, rfl, ?_⟩
          have hz213 := hk208.size
          have hB214 := hB205.lo hk208
          have hS215 := (hS206).lo hk208
          have hl216 := hO212.len
          have hl217 := hO212.rd.bound
          have hq218 := step_lenJS o v199
          refine SR.nil ⟨hS215, _, rfl, ?_⟩
          refine AH.take 5 rfl (by kernel_rfl) trivial (hS215) (fun w' hw' => r_mv (v := .tuple (List.toArray _)) rfl) <| AH.take 6 rfl (by kernel_rfl) trivial (hS215) (fun w' hw' => r_ext (v := .agg (List.toArray _)) rfl rfl) <| AH.take 7 rfl (by kernel_rfl) trivial (hS215) (fun w' hw' => r_ext (v := .bool _) rfl rfl) <| AH.br [9] (by kernel_rfl) rfl ⟨Br.mk' rfl trivial ?_, trivial⟩
          refine SR.store (o := 0) (vs := [.int .i64 (((spec_StepScan o v199).1).State), .slice A209 n210 c211, .int .i64 (((spec_StepScan o v199).1).Next), .int .i64 (((spec_StepScan o v199).1).Fails), .int .i64 (((spec_StepScan o v199).1).Size)]) agg57.2 rfl rfl rfl rfl (((hb192).kp hk198 (fun e' => by have e'' : g187 = gc := e'; omega)).lo hk208) (Nat.le_of_ble_eq_true rfl) rfl ?_
          intro w219 hk220 hs221 hb222
          have hz223 := hk220.size
          have hB224 := hB214.new hk220 (by omega)
          have hS225 := (hS215).new hk220 (by omega)
          refine SR.nil ⟨hS225, _, rfl, ?_⟩
          refine AH.take 10 rfl (by kernel_rfl) trivial (hS225) (fun w' hw' => r_as (v := .bool _) rfl) <| AH.done (by kernel_rfl) ?_
          exact ⟨v199, t200, s201, A209, n210, c211, g187, ⟨rfl, rfl, rfl, rfl, rfl, rfl, trivial⟩, hS225, (((hO212).kp hk220 (fun b_ hb e' => by have e'' : b_ = g187 := e'; have := (hO212).base_le hb; omega)).down (by omega)), (hb222), ⟨by omega, (hb222).lt⟩, (((hb202).lo hk208).kp hk220 (fun e' => by have e'' : gc = g187 := e'; omega)), hd196, (fun e' => by have := ((hO212).kp hk220 (fun b_ hb e' => by have e'' : b_ = g187 := e'; have := (hO212).base_le hb; omega)).base_le e'; omega), (fun b_ h h' => by have h1 := ((hO212).kp hk220 (fun b_ hb e' => by have e'' : b_ = g187 := e'; have := (hO212).base_le hb; omega)).base_le h; have h2 := ((((hO74).lo hk104).lo hk190).kp hk198 (fun b_ hb e' => hd76 (by have e'' : b_ = gc := e'; rw [← e'']; exact hb))).base_le h'; omega), ht203, hl216, hl217, hq218⟩
      rintro f230 w231 ⟨v109, t110, s111, A119, n120, c121, g129, hat233, hR232, hm147, hm148, hg149, hm150, hd151, hd152, hd153, ht113, hl126, hl127, hq128⟩
      rw [← sets_of_at hat233]
      have hz234 := hR232.size
      have hB235 := hB68.step hR232 (fun i_ hi_ e' => e')
      refine W.seq ?_
      refine W.regS (SR.q' (r_mv (v := .bool _) rfl) <| SR.nil ?_)
      refine W.cond_b rfl (fun h236 => ?_) (fun h236 => ?_)
      · refine W.regS (SR.q' (r_lda (l := [.int .i64 (((spec_StepScan o v109).1).State), .slice A119 n120 c121, .int .i64 (((spec_StepScan o v109).1).Next), .int .i64 (((spec_StepScan o v109).1).Fails), .int .i64 (((spec_StepScan o v109).1).Size)]) agg57 rfl (fun _ _ hu => (hm148).cell hu) rfl) <| SR.store (o := 0) (vs := [.int .i64 (((spec_StepScan o v109).1).State), .slice A119 n120 c121, .int .i64 (((spec_StepScan o v109).1).Next), .int .i64 (((spec_StepScan o v109).1).Fails), .int .i64 (((spec_StepScan o v109).1).Size)]) agg57.2 rfl rfl rfl rfl ((hm73).kp hR232 (fun e' => by have e'' : g38 = gc := e'; omega)) (Nat.le_of_ble_eq_true rfl) rfl ?_)
        intro w237 hk238 hs239 hb240
        have hz241 := hk238.size
        have hB242 := hB235.new hk238 (by omega)
        refine SR.nil ?_
        refine W.regS (SR.q' (r_mv (v := .int .i64 _) rfl) <| SR.q' (r_sub rfl rfl (by omega)) <| SR.q' (r_as (v := .int .i64 _) rfl) <| SR.nil ?_)
        refine ⟨(n - 1, ((spec_StepScan o v109).1), t110, s111, A119, n120, c121), _, rfl, ⟨rfl, rfl, rfl, rfl, trivial⟩, (show (Kp (fun b_ => b_ = gc) w w237) ∧ (Blk w237 gc ec [.slice Ac nc cc, .int .i64 t110, .int .u64 s111]) ∧ (SlR w237 Bc encB 1 Ac nc cc Lc) ∧ (Blk w237 g1 57 [.int .i64 0, .slice none 0 0, .int .i64 0, .int .i64 0, .int .i64 0]) ∧ (Blk w237 g38 57 [.int .i64 (((spec_StepScan o v109).1).State), .slice A119 n120 c121, .int .i64 (((spec_StepScan o v109).1).Next), .int .i64 (((spec_StepScan o v109).1).Fails), .int .i64 (((spec_StepScan o v109).1).Size)]) ∧ (SlO w237 w.heap.size encI 1 3 A119 n120 c121 (((spec_StepScan o v109).1).Tiles)) ∧ (¬ A119 = some ⟨gc, 0, none⟩) ∧ (¬ A119 = some ⟨g1, 0, none⟩) ∧ (¬ A119 = some ⟨g38, 0, none⟩) ∧ ((0 ≤ n - 1 ∧ n - 1 ≤ 19) ∧ JobOK ((spec_StepScan o v109).1) ∧ tc ≤ t110 ∧ t110 ≤ tc + 4 + 8 * (19 - (n - 1))) from ⟨hB242, ((hm150).kp hk238 (fun e' => by have e'' : gc = g38 := e'; omega)), ((hm71).kp hR232 (fun b_ hb e' => by have e'' : b_ = gc := e'; omega)).kp hk238 (fun b_ hb e' => by have e'' : b_ = g38 := e'; omega), ((hm72).kp hR232 (fun e' => by have e'' : g1 = gc := e'; omega)).kp hk238 (fun e' => by have e'' : g1 = g38 := e'; omega), (hb240), (((hm147).kp hk238 (fun b_ hb e' => by have e'' : b_ = g38 := e'; have := (hm147).base_le hb; omega)).down (by omega)), (fun e' => by have := ((hm147).kp hk238 (fun b_ hb e' => by have e'' : b_ = g38 := e'; have := (hm147).base_le hb; omega)).base_le e'; omega), (fun e' => by have := ((hm147).kp hk238 (fun b_ hb e' => by have e'' : b_ = g38 := e'; have := (hm147).base_le hb; omega)).base_le e'; omega), (fun e' => by have := ((hm147).kp hk238 (fun b_ hb e' => by have e'' : b_ = g38 := e'; have := (hm147).base_le hb; omega)).base_le e'; omega), ?_⟩), ?_⟩
        · exact (z_c___spec_l1Cur__scanJob_243 Lc tc sc nc htc hbdc hlec v18 t19 s20 ht22 hq23 hq26 n30 hl35 hl36 hq37 v56 t57 s58 ht60 hq61 n o t z n64 c64 hi75 hl82 hq84 hq85 hq86 hq87 h88 v109 t110 s111 n120 ht113 hl126 hl127 hq128 h236)
        · exact (z_c___spec_l1Cur__scanJob_244 Lc tc sc nc htc hbdc hlec v18 t19 s20 ht22 hq23 hq26 n30 hl35 hl36 hq37 v56 t57 s58 ht60 hq61 n o t z n64 c64 hi75 hl82 hq84 hq85 hq86 hq87 h88 v109 t110 s111 n120 ht113 hl126 hl127 hq128 h236)
      · refine W.skip ?_
        refine W.regS (SR.q' (r_mv (v := .int .i64 _) rfl) <| SR.q' (r_sub rfl rfl (by omega)) <| SR.q' (r_as (v := .int .i64 _) rfl) <| SR.nil ?_)
        refine ⟨(n - 1, o, t110, s111, A64, n64, c64), _, rfl, ⟨rfl, rfl, rfl, rfl, trivial⟩, (show (Kp (fun b_ => b_ = gc) w w231) ∧ (Blk w231 gc ec [.slice Ac nc cc, .int .i64 t110, .int .u64 s111]) ∧ (SlR w231 Bc encB 1 Ac nc cc Lc) ∧ (Blk w231 g1 57 [.int .i64 0, .slice none 0 0, .int .i64 0, .int .i64 0, .int .i64 0]) ∧ (Blk w231 g38 57 [.int .i64 o.State, .slice A64 n64 c64, .int .i64 o.Next, .int .i64 o.Fails, .int .i64 o.Size]) ∧ (SlO w231 w.heap.size encI 1 3 A64 n64 c64 o.Tiles) ∧ (¬ A64 = some ⟨gc, 0, none⟩) ∧ (¬ A64 = some ⟨g1, 0, none⟩) ∧ (¬ A64 = some ⟨g38, 0, none⟩) ∧ ((0 ≤ n - 1 ∧ n - 1 ≤ 19) ∧ JobOK o ∧ tc ≤ t110 ∧ t110 ≤ tc + 4 + 8 * (19 - (n - 1))) from ⟨hB235, (hm150), (hm71).kp hR232 (fun b_ hb e' => by have e'' : b_ = gc := e'; omega), (hm72).kp hR232 (fun e' => by have e'' : g1 = gc := e'; omega), ((hm73).kp hR232 (fun e' => by have e'' : g38 = gc := e'; omega)), ((hO74).kp hR232 (fun b_ hb e' => hd76 (by have e'' : b_ = gc := e'; rw [← e'']; exact hb))), hd76, hd77, hd78, ?_⟩), ?_⟩
        · exact (z_c___spec_l1Cur__scanJob_245 Lc tc sc nc htc hbdc hlec v18 t19 s20 ht22 hq23 hq26 n30 hl35 hl36 hq37 v56 t57 s58 ht60 hq61 n o t z n64 c64 hi75 hl82 hq84 hq85 hq86 hq87 h88 v109 t110 s111 n120 ht113 hl126 hl127 hq128 h236)
        · exact (z_c___spec_l1Cur__scanJob_246 Lc tc sc nc htc hbdc hlec v18 t19 s20 ht22 hq23 hq26 n30 hl35 hl36 hq37 v56 t57 s58 ht60 hq61 n o t z n64 c64 hi75 hl82 hq84 hq85 hq86 hq87 h88 v109 t110 s111 n120 ht113 hl126 hl127 hq128 h236)
    · refine W.exit (xin_here ?_)
      refine W.seq ?_
      refine W.seq ?_
      refine W.regS (SR.q' (r_mv (v := .pointer (some _)) rfl) <| SR.call ent95 (c___spec_l1Cur__pick w67 Lc t z (hm70) ((hm71)) (by omega) (by omega) 32 (by first | omega | (simp only [List.length_append, List.length_cons, List.length_nil, List.length_take, List.length_drop]; omega))) rfl ?_)
      rintro e w247 ⟨v249, t250, s251, rfl, hb252, ht253, hq254, hk248⟩
      refine ⟨_, rfl, ?_⟩
      have hz255 := hk248.size
      have hB256 := hB68.step hk248 (fun i_ hi_ e' => e')
      refine SR.nil ?_
      refine W.block ?_
      refine W.seq ?_
      refine W.regS (SR.q' (r_eq rfl rfl) <| SR.q' (r_as (v := .bool _) rfl) <| SR.nil ?_)
      refine W.cond_d rfl (fun h257 => ?_) (fun h257 => ?_)
      · refine W.regS (SR.q' (r_mv (v := .pointer (some _)) rfl) <| SR.call ent95 (c___spec_l1Cur__pick w247 Lc t250 s251 (hb252) (((hm71).kp hk248 (fun b_ hb e' => by have e'' : b_ = gc := e'; omega))) (by omega) (by omega) 5 (by first | omega | (simp only [List.length_append, List.length_cons, List.length_nil, List.length_take, List.length_drop]; omega))) rfl ?_)
        rintro e w258 ⟨v260, t261, s262, rfl, hb263, ht264, hq265, hk259⟩
        refine ⟨_, rfl, ?_⟩
        have hz266 := hk259.size
        have hB267 := hB256.step hk259 (fun i_ hi_ e' => e')
        refine SR.q' (r_fa fa57_0 rfl) <| SR.store (o := 0) (vs := [.int .i64 v260]) sca3.2 rfl rfl rfl rfl (((hm73).kp hk248 (fun e' => by have e'' : g38 = gc := e'; omega)).kp hk259 (fun e' => by have e'' : g38 = gc := e'; omega)) (Nat.le_of_ble_eq_true rfl) rfl ?_
        intro w268 hk269 hs270 hb271
        have hz272 := hk269.size
        have hB273 := hB267.new hk269 (by omega)
        refine SR.nil ?_
        refine W.seq ?_
        refine W.regS (SR.q' (r_lda (l := [.int .i64 v260, .slice A64 n64 c64, .int .i64 o.Next, .int .i64 o.Fails, .int .i64 o.Size]) agg57 rfl (fun _ _ hu => (hb271).cell hu) rfl) <| SR.store (o := 0) (vs := [.int .i64 v260, .slice A64 n64 c64, .int .i64 o.Next, .int .i64 o.Fails, .int .i64 o.Size]) agg57.2 rfl rfl rfl rfl ((((hm72).kp hk248 (fun e' => by have e'' : g1 = gc := e'; omega)).kp hk259 (fun e' => by have e'' : g1 = gc := e'; omega)).kp hk269 (fun e' => by have e'' : g1 = g38 := e'; omega)) (Nat.le_of_ble_eq_true rfl) rfl ?_)
        intro w274 hk275 hs276 hb277
        have hz278 := hk275.size
        have hB279 := hB273.new hk275 (by omega)
        refine SR.nil ?_
        refine W.ret ?_
        refine retC rfl rfl agg57 (hb277) rfl ?_
        exact ⟨A64, n64, c64, (⟨v260, o.Tiles, o.Next, o.Fails, o.Size⟩ : ScanJob), t261, s262, eR (eA (eC (eI (z_c___spec_l1Cur__scanJob_281 Lc tc sc nc htc hbdc hlec v18 t19 s20 ht22 hq23 hq26 n30 hl35 hl36 hq37 v56 t57 s58 ht60 hq61 n o t z n64 c64 hi75 hl82 hq84 hq85 hq86 hq87 h88 v249 t250 s251 ht253 hq254 h257 v260 t261 s262 ht264 hq265)) (eC rfl (eC (eI (z_c___spec_l1Cur__scanJob_282 Lc tc sc nc htc hbdc hlec v18 t19 s20 ht22 hq23 hq26 n30 hl35 hl36 hq37 v56 t57 s58 ht60 hq61 n o t z n64 c64 hi75 hl82 hq84 hq85 hq86 hq87 h88 v249 t250 s251 ht253 hq254 h257 v260 t261 s262 ht264 hq265)) (eC (eI (z_c___spec_l1Cur__scanJob_283 Lc tc sc nc htc hbdc hlec v18 t19 s20 ht22 hq23 hq26 n30 hl35 hl36 hq37 v56 t57 s58 ht60 hq61 n o t z n64 c64 hi75 hl82 hq84 hq85 hq86 hq87 h88 v249 t250 s251 ht253 hq254 h257 v260 t261 s262 ht264 hq265)) (eC (eI (z_c___spec_l1Cur__scanJob_284 Lc tc sc nc htc hbdc hlec v18 t19 s20 ht22 hq23 hq26 n30 hl35 hl36 hq37 v56 t57 s58 ht60 hq61 n o t z n64 c64 hi75 hl82 hq84 hq85 hq86 hq87 h88 v249 t250 s251 ht253 hq254 h257 v260 t261 s262 ht264 hq265)) rfl)))))), (SlO.eqv ((((((hO74).kp hk248 (fun b_ hb e' => hd76 (by have e'' : b_ = gc := e'; rw [← e'']; exact hb))).kp hk259 (fun b_ hb e' => hd76 (by have e'' : b_ = gc := e'; rw [← e'']; exact hb))).kp hk269 (fun b_ hb e' => hd78 (by have e'' : b_ = g38 := e'; rw [← e'']; exact hb))).kp hk275 (fun b_ hb e' => hd77 (by have e'' : b_ = g1 := e'; rw [← e'']; exact hb))).down (by omega)) (z_c___spec_l1Cur__scanJob_280 Lc tc sc nc htc hbdc hlec v18 t19 s20 ht22 hq23 hq26 n30 hl35 hl36 hq37 v56 t57 s58 ht60 hq61 n o t z n64 c64 hi75 hl82 hq84 hq85 hq86 hq87 h88 v249 t250 s251 ht253 hq254 h257 v260 t261 s262 ht264 hq265)), (((hb263).kp hk269 (fun e' => by have e'' : gc = g38 := e'; omega)).kp hk275 (fun e' => by have e'' : gc = g1 := e'; omega)), ⟨by omega, by omega⟩, (z_c___spec_l1Cur__scanJob_285 Lc tc sc nc htc hbdc hlec v18 t19 s20 ht22 hq23 hq26 n30 hl35 hl36 hq37 v56 t57 s58 ht60 hq61 n o t z n64 c64 hi75 hl82 hq84 hq85 hq86 hq87 h88 v249 t250 s251 ht253 hq254 h257 v260 t261 s262 ht264 hq265), hB279⟩
      · refine W.seq ?_
        refine W.regS (SR.q' (r_eq rfl rfl) <| SR.q' (r_as (v := .bool _) rfl) <| SR.nil ?_)
        refine W.cond_d rfl (fun h286 => ?_) (fun h286 => ?_)
        · refine W.regS (SR.q' (r_fa fa57_4 rfl) <| SR.q' (r_ld (v := .int .i64 o.Size) sca3 rfl (((hm73).kp hk248 (fun e' => by have e'' : g38 = gc := e'; omega)).cell rfl)) <| SR.q' (r_add rfl rfl (by omega)) <| SR.q' (r_fa fa57_4 rfl) <| SR.store (o := 4) (vs := [.int .i64 (o.Size + 10)]) sca3.2 rfl rfl rfl rfl ((hm73).kp hk248 (fun e' => by have e'' : g38 = gc := e'; omega)) (Nat.le_of_ble_eq_true rfl) rfl ?_)
          intro w287 hk288 hs289 hb290
          have hz291 := hk288.size
          have hB292 := hB256.new hk288 (by omega)
          refine SR.nil ?_
          refine W.seq ?_
          refine W.regS (SR.q' (r_lda (l := [.int .i64 o.State, .slice A64 n64 c64, .int .i64 o.Next, .int .i64 o.Fails, .int .i64 (o.Size + 10)]) agg57 rfl (fun _ _ hu => (hb290).cell hu) rfl) <| SR.store (o := 0) (vs := [.int .i64 o.State, .slice A64 n64 c64, .int .i64 o.Next, .int .i64 o.Fails, .int .i64 (o.Size + 10)]) agg57.2 rfl rfl rfl rfl (((hm72).kp hk248 (fun e' => by have e'' : g1 = gc := e'; omega)).kp hk288 (fun e' => by have e'' : g1 = g38 := e'; omega)) (Nat.le_of_ble_eq_true rfl) rfl ?_)
          intro w293 hk294 hs295 hb296
          have hz297 := hk294.size
          have hB298 := hB292.new hk294 (by omega)
          refine SR.nil ?_
          refine W.ret ?_
          refine retC rfl rfl agg57 (hb296) rfl ?_
          exact ⟨A64, n64, c64, (⟨o.State, o.Tiles, o.Next, o.Fails, o.Size + 10⟩ : ScanJob), t250, s251, eR (eA (eC (eI (z_c___spec_l1Cur__scanJob_300 Lc tc sc nc htc hbdc hlec v18 t19 s20 ht22 hq23 hq26 n30 hl35 hl36 hq37 v56 t57 s58 ht60 hq61 n o t z n64 c64 hi75 hl82 hq84 hq85 hq86 hq87 h88 v249 t250 s251 ht253 hq254 h257 h286)) (eC rfl (eC (eI (z_c___spec_l1Cur__scanJob_301 Lc tc sc nc htc hbdc hlec v18 t19 s20 ht22 hq23 hq26 n30 hl35 hl36 hq37 v56 t57 s58 ht60 hq61 n o t z n64 c64 hi75 hl82 hq84 hq85 hq86 hq87 h88 v249 t250 s251 ht253 hq254 h257 h286)) (eC (eI (z_c___spec_l1Cur__scanJob_302 Lc tc sc nc htc hbdc hlec v18 t19 s20 ht22 hq23 hq26 n30 hl35 hl36 hq37 v56 t57 s58 ht60 hq61 n o t z n64 c64 hi75 hl82 hq84 hq85 hq86 hq87 h88 v249 t250 s251 ht253 hq254 h257 h286)) (eC (eI (z_c___spec_l1Cur__scanJob_303 Lc tc sc nc htc hbdc hlec v18 t19 s20 ht22 hq23 hq26 n30 hl35 hl36 hq37 v56 t57 s58 ht60 hq61 n o t z n64 c64 hi75 hl82 hq84 hq85 hq86 hq87 h88 v249 t250 s251 ht253 hq254 h257 h286)) rfl)))))), (SlO.eqv (((((hO74).kp hk248 (fun b_ hb e' => hd76 (by have e'' : b_ = gc := e'; rw [← e'']; exact hb))).kp hk288 (fun b_ hb e' => hd78 (by have e'' : b_ = g38 := e'; rw [← e'']; exact hb))).kp hk294 (fun b_ hb e' => hd77 (by have e'' : b_ = g1 := e'; rw [← e'']; exact hb))).down (by omega)) (z_c___spec_l1Cur__scanJob_299 Lc tc sc nc htc hbdc hlec v18 t19 s20 ht22 hq23 hq26 n30 hl35 hl36 hq37 v56 t57 s58 ht60 hq61 n o t z n64 c64 hi75 hl82 hq84 hq85 hq86 hq87 h88 v249 t250 s251 ht253 hq254 h257 h286)), (((hb252).kp hk288 (fun e' => by have e'' : gc = g38 := e'; omega)).kp hk294 (fun e' => by have e'' : gc = g1 := e'; omega)), ⟨by omega, by omega⟩, (z_c___spec_l1Cur__scanJob_304 Lc tc sc nc htc hbdc hlec v18 t19 s20 ht22 hq23 hq26 n30 hl35 hl36 hq37 v56 t57 s58 ht60 hq61 n o t z n64 c64 hi75 hl82 hq84 hq85 hq86 hq87 h88 v249 t250 s251 ht253 hq254 h257 h286), hB298⟩
        · refine W.seq ?_
          refine W.regS (SR.q' (r_eq rfl rfl) <| SR.q' (r_as (v := .bool _) rfl) <| SR.nil ?_)
          refine W.cond_d rfl (fun h305 => ?_) (fun h305 => ?_)
          · refine W.regS (SR.q' (r_mv (v := .pointer (some _)) rfl) <| SR.lit (vs := [.int .i64 (-1), .int .i64 3, .int .i64 4]) (L := ([(-1), 3, 4] : List Int)) (enc := encI) tel38 (fun _ => rfl) rfl rfl rfl (by decide) ?_)
            intro g306 w307 hg308 hk309 hO310
            have hz311 := hk309.size
            have hB312 := hB256.lo hk309
            have hd313 : ¬ A64 = some ⟨g306, 0, none⟩ := fun e' => by have := ((hO74).kp hk248 (fun b_ hb e' => hd76 (by have e'' : b_ = gc := e'; rw [← e'']; exact hb))).base_le e'; omega
            refine SR.call ent54 (c___spec_l1Cur__among w307 Lc t250 s251 ((hb252).lo hk309) ((((hm71).kp hk248 (fun b_ hb e' => by have e'' : b_ = gc := e'; omega)).lo hk309)) (by omega) (by omega) ([(-1), 3, 4] : List Int) (((hO310).rd)) (by omega) (by omega) (show ¬ g306 = gc from by omega)) rfl ?_
            rintro e w314 ⟨v316, t317, s318, rfl, hb319, ht320, hq321, hk315⟩
            refine ⟨_, rfl, ?_⟩
            have hz322 := hk315.size
            have hB323 := hB312.step hk315 (fun i_ hi_ e' => e')
            have hq324 : ((-1) : Int) ≤ v316 ∧ v316 ≤ 4 := mem_rngB (lo := (-1)) (hi := 4) (by decide) hq321
            refine SR.q' (r_fa fa57_3 rfl) <| SR.store (o := 3) (vs := [.int .i64 v316]) sca3.2 rfl rfl rfl rfl ((((hm73).kp hk248 (fun e' => by have e'' : g38 = gc := e'; omega)).lo hk309).kp hk315 (fun e' => by have e'' : g38 = gc := e'; omega)) (Nat.le_of_ble_eq_true rfl) rfl ?_
            intro w325 hk326 hs327 hb328
            have hz329 := hk326.size
            have hB330 := hB323.new hk326 (by omega)
            refine SR.nil ?_
            refine W.seq ?_
            refine W.regS (SR.q' (r_lda (l := [.int .i64 o.State, .slice A64 n64 c64, .int .i64 o.Next, .int .i64 v316, .int .i64 o.Size]) agg57 rfl (fun _ _ hu => (hb328).cell hu) rfl) <| SR.store (o := 0) (vs := [.int .i64 o.State, .slice A64 n64 c64, .int .i64 o.Next, .int .i64 v316, .int .i64 o.Size]) agg57.2 rfl rfl rfl rfl (((((hm72).kp hk248 (fun e' => by have e'' : g1 = gc := e'; omega)).lo hk309).kp hk315 (fun e' => by have e'' : g1 = gc := e'; omega)).kp hk326 (fun e' => by have e'' : g1 = g38 := e'; omega)) (Nat.le_of_ble_eq_true rfl) rfl ?_)
            intro w331 hk332 hs333 hb334
            have hz335 := hk332.size
            have hB336 := hB330.new hk332 (by omega)
            refine SR.nil ?_
            refine W.ret ?_
            refine retC rfl rfl agg57 (hb334) rfl ?_
            exact ⟨A64, n64, c64, (⟨o.State, o.Tiles, o.Next, v316, o.Size⟩ : ScanJob), t317, s318, eR (eA (eC (eI (z_c___spec_l1Cur__scanJob_338 Lc tc sc nc htc hbdc hlec v18 t19 s20 ht22 hq23 hq26 n30 hl35 hl36 hq37 v56 t57 s58 ht60 hq61 n o t z n64 c64 hi75 hl82 hq84 hq85 hq86 hq87 h88 v249 t250 s251 ht253 hq254 h257 h286 h305 v316 t317 s318 ht320 hq321 hq324)) (eC rfl (eC (eI (z_c___spec_l1Cur__scanJob_339 Lc tc sc nc htc hbdc hlec v18 t19 s20 ht22 hq23 hq26 n30 hl35 hl36 hq37 v56 t57 s58 ht60 hq61 n o t z n64 c64 hi75 hl82 hq84 hq85 hq86 hq87 h88 v249 t250 s251 ht253 hq254 h257 h286 h305 v316 t317 s318 ht320 hq321 hq324)) (eC (eI (z_c___spec_l1Cur__scanJob_340 Lc tc sc nc htc hbdc hlec v18 t19 s20 ht22 hq23 hq26 n30 hl35 hl36 hq37 v56 t57 s58 ht60 hq61 n o t z n64 c64 hi75 hl82 hq84 hq85 hq86 hq87 h88 v249 t250 s251 ht253 hq254 h257 h286 h305 v316 t317 s318 ht320 hq321 hq324)) (eC (eI (z_c___spec_l1Cur__scanJob_341 Lc tc sc nc htc hbdc hlec v18 t19 s20 ht22 hq23 hq26 n30 hl35 hl36 hq37 v56 t57 s58 ht60 hq61 n o t z n64 c64 hi75 hl82 hq84 hq85 hq86 hq87 h88 v249 t250 s251 ht253 hq254 h257 h286 h305 v316 t317 s318 ht320 hq321 hq324)) rfl)))))), (SlO.eqv (((((((hO74).kp hk248 (fun b_ hb e' => hd76 (by have e'' : b_ = gc := e'; rw [← e'']; exact hb))).lo hk309).kp hk315 (fun b_ hb e' => hd76 (by have e'' : b_ = gc := e'; rw [← e'']; exact hb))).kp hk326 (fun b_ hb e' => hd78 (by have e'' : b_ = g38 := e'; rw [← e'']; exact hb))).kp hk332 (fun b_ hb e' => hd77 (by have e'' : b_ = g1 := e'; rw [← e'']; exact hb))).down (by omega)) (z_c___spec_l1Cur__scanJob_337 Lc tc sc nc htc hbdc hlec v18 t19 s20 ht22 hq23 hq26 n30 hl35 hl36 hq37 v56 t57 s58 ht60 hq61 n o t z n64 c64 hi75 hl82 hq84 hq85 hq86 hq87 h88 v249 t250 s251 ht253 hq254 h257 h286 h305 v316 t317 s318 ht320 hq321 hq324)), (((hb319).kp hk326 (fun e' => by have e'' : gc = g38 := e'; omega)).kp hk332 (fun e' => by have e'' : gc = g1 := e'; omega)), ⟨by omega, by omega⟩, (z_c___spec_l1Cur__scanJob_342 Lc tc sc nc htc hbdc hlec v18 t19 s20 ht22 hq23 hq26 n30 hl35 hl36 hq37 v56 t57 s58 ht60 hq61 n o t z n64 c64 hi75 hl82 hq84 hq85 hq86 hq87 h88 v249 t250 s251 ht253 hq254 h257 h286 h305 v316 t317 s318 ht320 hq321 hq324), hB336⟩
          · refine W.seq ?_
            refine W.regS (SR.q' (r_eq rfl rfl) <| SR.q' (r_as (v := .bool _) rfl) <| SR.nil ?_)
            refine W.cond_d rfl (fun h343 => ?_) (fun h343 => ?_)
            · refine W.regA (Kp (fun b_ => b_ = gc ∨ A64 = some ⟨b_, 0, none⟩ ∨ b_ = g38) w247) (fun f' w' => ∃ (g472 : Nat), ∃ (v483 : Int), ∃ (t484 : Int), ∃ (s485 : Int), ∃ (g493 : Nat), ∃ (A503 : Option Addr), ∃ (c504 : Nat), At f' [(2, .pointer (some ((⟨g1, 0, none⟩ : Addr)))), (3, .pointer (some ((⟨g38, 0, none⟩ : Addr))))] ∧ (Kp (fun b_ => b_ = gc ∨ A64 = some ⟨b_, 0, none⟩ ∨ b_ = g38) w247 w') ∧ (SlO w' w.heap.size encI 1 3 A503 (n64 + 1) c504 (o.Tiles ++ ([v483] : List Int))) ∧ (Blk w' gc ec [.slice Ac nc cc, .int .i64 t484, .int .u64 s485]) ∧ (Blk w' g38 57 [.int .i64 o.State, .slice A503 (n64 + 1) c504, .int .i64 o.Next, .int .i64 o.Fails, .int .i64 o.Size]) ∧ (¬ A503 = some ⟨gc, 0, none⟩) ∧ (¬ A503 = some ⟨g1, 0, none⟩) ∧ (¬ A503 = some ⟨g38, 0, none⟩) ∧ (t250 ≤ t484 ∧ t484 ≤ t250 + 2) ∧ (v483 ∈ ([0, 5, 101] : List Int)) ∧ ((0 : Int) ≤ v483 ∧ v483 ≤ 101)) mo ?_ ?_
              · intro w468 hk469
                have hz470 := hk469.size
                have hB471 := hB256.lo hk469
                refine AH.take 0 rfl (by kernel_rfl) trivial ((Kp.refl w247 : Kp (fun b_ => b_ = gc ∨ A64 = some ⟨b_, 0, none⟩ ∨ b_ = g38) w247 w247).lo hk469) (fun w' hw' => r_fa fa57_1 rfl) <| AH.take 2 rfl (by kernel_rfl) trivial ((Kp.refl w247 : Kp (fun b_ => b_ = gc ∨ A64 = some ⟨b_, 0, none⟩ ∨ b_ = g38) w247 w247).lo hk469) (fun w' hw' => r_mv (v := .pointer (some _)) rfl) <| AH.br [1, 3] (by kernel_rfl) rfl ⟨Br.mk' rfl trivial ?_, Br.mk' rfl trivial ?_, trivial⟩
                · refine SR.q' (r_ld (v := .slice A64 n64 c64) sca38 rfl ((((hm73).kp hk248 (fun e' => by have e'' : g38 = gc := e'; omega)).lo hk469).cell rfl)) ?_
                  refine SR.nil ⟨(Kp.refl w247 : Kp (fun b_ => b_ = gc ∨ A64 = some ⟨b_, 0, none⟩ ∨ b_ = g38) w247 w247).lo hk469, _, rfl, ?_⟩
                  refine AH.br [3] (by kernel_rfl) rfl ⟨Br.mk' rfl trivial ?_, trivial⟩
                  refine SR.lit (vs := [.int .i64 0, .int .i64 5, .int .i64 101]) (L := ([0, 5, 101] : List Int)) (enc := encI) tel38 (fun _ => rfl) rfl rfl rfl (by decide) ?_
                  intro g472 w473 hg474 hk475 hO476
                  have hz477 := hk475.size
                  have hB478 := hB471.lo hk475
                  have hS479 := ((Kp.refl w247 : Kp (fun b_ => b_ = gc ∨ A64 = some ⟨b_, 0, none⟩ ∨ b_ = g38) w247 w247).lo hk469).lo hk475
                  have hd480 : ¬ A64 = some ⟨g472, 0, none⟩ := fun e' => by have := (((hO74).kp hk248 (fun b_ hb e' => hd76 (by have e'' : b_ = gc := e'; rw [← e'']; exact hb))).lo hk469).base_le e'; omega
                  refine SR.nil ⟨hS479, _, rfl, ?_⟩
                  refine AH.br [4] (by kernel_rfl) rfl ⟨Br.mk' rfl trivial ?_, trivial⟩
                  refine SR.call ent54 (c___spec_l1Cur__among w473 Lc t250 s251 (((hb252).lo hk469).lo hk475) (((((hm71).kp hk248 (fun b_ hb e' => by have e'' : b_ = gc := e'; omega)).lo hk469).lo hk475)) (by omega) (by omega) ([0, 5, 101] : List Int) (((hO476).rd)) (by omega) (by omega) (show ¬ g472 = gc from by omega)) rfl ?_
                  rintro e w481 ⟨v483, t484, s485, rfl, hb486, ht487, hq488, hk482⟩
                  refine ⟨_, rfl, ?_⟩
                  have hz489 := hk482.size
                  have hB490 := hB478.step hk482 (fun i_ hi_ e' => e')
                  have hS491 := (hS479).step hk482 (fun _ _ e => .inl e)
                  have hq492 : (0 : Int) ≤ v483 ∧ v483 ≤ 101 := mem_rngB (lo := 0) (hi := 101) (by decide) hq488
                  refine SR.nil ⟨hS491, _, rfl, ?_⟩
                  refine AH.br [5] (by kernel_rfl) rfl ⟨Br.mk' rfl trivial ?_, trivial⟩
                  refine SR.lit (vs := [.int .i64 v483]) (L := ([v483] : List Int)) (enc := encI) tel38 (fun _ => rfl) rfl rfl rfl (by decide) ?_
                  intro g493 w494 hg495 hk496 hO497
                  have hz498 := hk496.size
                  have hB499 := hB490.lo hk496
                  have hS500 := (hS491).lo hk496
                  have hd501 : ¬ A64 = some ⟨g493, 0, none⟩ := fun e' => by have := (((((hO74).kp hk248 (fun b_ hb e' => hd76 (by have e'' : b_ = gc := e'; rw [← e'']; exact hb))).lo hk469).lo hk475).kp hk482 (fun b_ hb e' => hd76 (by have e'' : b_ = gc := e'; rw [← e'']; exact hb))).base_le e'; omega
                  have hd502 : ¬ (some (⟨g472, 0, none⟩ : Addr)) = some ⟨g493, 0, none⟩ := fun e' => by have := ((hO476).kp hk482 (fun b_ hb e' => by have e'' : b_ = gc := e'; have := (hO476).base_le hb; omega)).base_le e'; omega
                  refine SR.nil ⟨hS500, _, rfl, ?_⟩
                  refine AH.br [6] (by kernel_rfl) rfl ⟨Br.mk' rfl trivial ?_, trivial⟩
                  refine SR.app tel38 rfl rfl ((((((hO74).kp hk248 (fun b_ hb e' => hd76 (by have e'' : b_ = gc := e'; rw [← e'']; exact hb))).lo hk469).lo hk475).kp hk482 (fun b_ hb e' => hd76 (by have e'' : b_ = gc := e'; rw [← e'']; exact hb))).lo hk496) ((hO497).rd) (fun _ => rfl) (by omega) (by omega) ?_
                  intro A503 c504 w505 hk506 hO507 hN508
                  have hz509 := hk506.size
                  have hB510 := hB499.step hk506 (fun i_ hi_ e' => by have := (((((((hO74).kp hk248 (fun b_ hb e' => hd76 (by have e'' : b_ = gc := e'; rw [← e'']; exact hb))).lo hk469).lo hk475).kp hk482 (fun b_ hb e' => hd76 (by have e'' : b_ = gc := e'; rw [← e'']; exact hb))).lo hk496)).base_le e'; first | omega | (exfalso; omega) | exact e' | exact .inl e' | exact .inr e')
                  have hS511 := (hS500).step hk506 (fun _ _ e => .inr (.inl e))
                  have hd512 : ¬ A503 = some ⟨gc, 0, none⟩ := fun e' => (hN508 gc e').elim (fun h => hd76 (h.trans e')) (fun h => by have := ((hb486).lo hk496).lt; omega)
                  have hd513 : ¬ A503 = some ⟨g1, 0, none⟩ := fun e' => (hN508 g1 e').elim (fun h => hd77 (h.trans e')) (fun h => by have := ((((((hm72).kp hk248 (fun e' => by have e'' : g1 = gc := e'; omega)).lo hk469).lo hk475).kp hk482 (fun e' => by have e'' : g1 = gc := e'; omega)).lo hk496).lt; omega)
                  have hd514 : ¬ A503 = some ⟨g38, 0, none⟩ := fun e' => (hN508 g38 e').elim (fun h => hd78 (h.trans e')) (fun h => by have := ((((((hm73).kp hk248 (fun e' => by have e'' : g38 = gc := e'; omega)).lo hk469).lo hk475).kp hk482 (fun e' => by have e'' : g38 = gc := e'; omega)).lo hk496).lt; omega)
                  refine SR.nil ⟨hS511, _, rfl, ?_⟩
                  refine AH.take 7 rfl (by kernel_rfl) trivial (hS511) (fun w' hw' => r_fa fa57_1 rfl) <| AH.br [8] (by kernel_rfl) rfl ⟨Br.mk' rfl trivial ?_, trivial⟩
                  refine SR.store (o := 1) (vs := [.slice A503 (n64 + 1) c504]) sca38.2 rfl rfl rfl rfl (((((((hm73).kp hk248 (fun e' => by have e'' : g38 = gc := e'; omega)).lo hk469).lo hk475).kp hk482 (fun e' => by have e'' : g38 = gc := e'; omega)).lo hk496).kp hk506 (fun e' => hd78 e')) (Nat.le_of_ble_eq_true rfl) rfl ?_
                  intro w517 hk518 hs519 hb520
                  have hz521 := hk518.size
                  have hB522 := hB510.new hk518 (by omega)
                  have hS523 := (hS511).step hk518 (fun _ _ e => .inr (.inr (e)))
                  refine SR.nil ⟨hS523, _, rfl, ?_⟩
                  refine AH.done (by kernel_rfl) ?_
                  exact ⟨g472, v483, t484, s485, g493, A503, c504, ⟨rfl, rfl, trivial⟩, hS523, ((hO507).kp hk518 (fun b_ hb e' => hd514 (by have e'' : b_ = g38 := e'; rw [← e'']; exact hb))), ((((hb486).lo hk496).kp hk506 (fun e' => hd76 e')).kp hk518 (fun e' => by have e'' : gc = g38 := e'; omega)), (hb520), hd512, hd513, hd514, ht487, hq488, hq492⟩
                · refine SR.lit (vs := [.int .i64 0, .int .i64 5, .int .i64 101]) (L := ([0, 5, 101] : List Int)) (enc := encI) tel38 (fun _ => rfl) rfl rfl rfl (by decide) ?_
                  intro g530 w531 hg532 hk533 hO534
                  have hz535 := hk533.size
                  have hB536 := hB471.lo hk533
                  have hS537 := ((Kp.refl w247 : Kp (fun b_ => b_ = gc ∨ A64 = some ⟨b_, 0, none⟩ ∨ b_ = g38) w247 w247).lo hk469).lo hk533
                  have hd538 : ¬ A64 = some ⟨g530, 0, none⟩ := fun e' => by have := (((hO74).kp hk248 (fun b_ hb e' => hd76 (by have e'' : b_ = gc := e'; rw [← e'']; exact hb))).lo hk469).base_le e'; omega
                  refine SR.nil ⟨hS537, _, rfl, ?_⟩
                  refine AH.br [1, 4] (by kernel_rfl) rfl ⟨Br.mk' rfl trivial ?_, Br.mk' rfl trivial ?_, trivial⟩
                  · refine SR.q' (r_ld (v := .slice A64 n64 c64) sca38 rfl (((((hm73).kp hk248 (fun e' => by have e'' : g38 = gc := e'; omega)).lo hk469).lo hk533).cell rfl)) ?_
                    refine SR.nil ⟨hS537, _, rfl, ?_⟩
                    refine AH.br [4] (by kernel_rfl) rfl ⟨Br.mk' rfl trivial ?_, trivial⟩
                    refine SR.call ent54 (c___spec_l1Cur__among w531 Lc t250 s251 (((hb252).lo hk469).lo hk533) (((((hm71).kp hk248 (fun b_ hb e' => by have e'' : b_ = gc := e'; omega)).lo hk469).lo hk533)) (by omega) (by omega) ([0, 5, 101] : List Int) (((hO534).rd)) (by omega) (by omega) (show ¬ g530 = gc from by omega)) rfl ?_
                    rintro e w539 ⟨v541, t542, s543, rfl, hb544, ht545, hq546, hk540⟩
                    refine ⟨_, rfl, ?_⟩
                    have hz547 := hk540.size
                    have hB548 := hB536.step hk540 (fun i_ hi_ e' => e')
                    have hS549 := (hS537).step hk540 (fun _ _ e => .inl e)
                    have hq550 : (0 : Int) ≤ v541 ∧ v541 ≤ 101 := mem_rngB (lo := 0) (hi := 101) (by decide) hq546
                    refine SR.nil ⟨hS549, _, rfl, ?_⟩
                    refine AH.br [5] (by kernel_rfl) rfl ⟨Br.mk' rfl trivial ?_, trivial⟩
                    refine SR.lit (vs := [.int .i64 v541]) (L := ([v541] : List Int)) (enc := encI) tel38 (fun _ => rfl) rfl rfl rfl (by decide) ?_
                    intro g551 w552 hg553 hk554 hO555
                    have hz556 := hk554.size
                    have hB557 := hB548.lo hk554
                    have hS558 := (hS549).lo hk554
                    have hd559 : ¬ A64 = some ⟨g551, 0, none⟩ := fun e' => by have := (((((hO74).kp hk248 (fun b_ hb e' => hd76 (by have e'' : b_ = gc := e'; rw [← e'']; exact hb))).lo hk469).lo hk533).kp hk540 (fun b_ hb e' => hd76 (by have e'' : b_ = gc := e'; rw [← e'']; exact hb))).base_le e'; omega
                    have hd560 : ¬ (some (⟨g530, 0, none⟩ : Addr)) = some ⟨g551, 0, none⟩ := fun e' => by have := ((hO534).kp hk540 (fun b_ hb e' => by have e'' : b_ = gc := e'; have := (hO534).base_le hb; omega)).base_le e'; omega
                    refine SR.nil ⟨hS558, _, rfl, ?_⟩
                    refine AH.br [6] (by kernel_rfl) rfl ⟨Br.mk' rfl trivial ?_, trivial⟩
                    refine SR.app tel38 rfl rfl ((((((hO74).kp hk248 (fun b_ hb e' => hd76 (by have e'' : b_ = gc := e'; rw [← e'']; exact hb))).lo hk469).lo hk533).kp hk540 (fun b_ hb e' => hd76 (by have e'' : b_ = gc := e'; rw [← e'']; exact hb))).lo hk554) ((hO555).rd) (fun _ => rfl) (by omega) (by omega) ?_
                    intro A561 c562 w563 hk564 hO565 hN566
                    have hz567 := hk564.size
                    have hB568 := hB557.step hk564 (fun i_ hi_ e' => by have := (((((((hO74).kp hk248 (fun b_ hb e' => hd76 (by have e'' : b_ = gc := e'; rw [← e'']; exact hb))).lo hk469).lo hk533).kp hk540 (fun b_ hb e' => hd76 (by have e'' : b_ = gc := e'; rw [← e'']; exact hb))).lo hk554)).base_le e'; first | omega | (exfalso; omega) | exact e' | exact .inl e' | exact .inr e')
                    have hS569 := (hS558).step hk564 (fun _ _ e => .inr (.inl e))
                    have hd570 : ¬ A561 = some ⟨gc, 0, none⟩ := fun e' => (hN566 gc e').elim (fun h => hd76 (h.trans e')) (fun h => by have := ((hb544).lo hk554).lt; omega)
                    have hd571 : ¬ A561 = some ⟨g1, 0, none⟩ := fun e' => (hN566 g1 e').elim (fun h => hd77 (h.trans e')) (fun h => by have := ((((((hm72).kp hk248 (fun e' => by have e'' : g1 = gc := e'; omega)).lo hk469).lo hk533).kp hk540 (fun e' => by have e'' : g1 = gc := e'; omega)).lo hk554).lt; omega)
                    have hd572 : ¬ A561 = some ⟨g38, 0, none⟩ := fun e' => (hN566 g38 e').elim (fun h => hd78 (h.trans e')) (fun h => by have := ((((((hm73).kp hk248 (fun e' => by have e'' : g38 = gc := e'; omega)).lo hk469).lo hk533).kp hk540 (fun e' => by have e'' : g38 = gc := e'; omega)).lo hk554).lt; omega)
                    refine SR.nil ⟨hS569, _, rfl, ?_⟩
                    refine AH.take 7 rfl (by kernel_rfl) trivial (hS569) (fun w' hw' => r_fa fa57_1 rfl) <| AH.br [8] (by kernel_rfl) rfl ⟨Br.mk' rfl trivial ?_, trivial⟩
                    refine SR.store (o := 1) (vs := [.slice A561 (n64 + 1) c562]) sca38.2 rfl rfl rfl rfl (((((((hm73).kp hk248 (fun e' => by have e'' : g38 = gc := e'; omega)).lo hk469).lo hk533).kp hk540 (fun e' => by have e'' : g38 = gc := e'; omega)).lo hk554).kp hk564 (fun e' => hd78 e')) (Nat.le_of_ble_eq_true rfl) rfl ?_
                    intro w575 hk576 hs577 hb578
                    have hz579 := hk576.size
                    have hB580 := hB568.new hk576 (by omega)
                    have hS581 := (hS569).step hk576 (fun _ _ e => .inr (.inr (e)))
                    refine SR.nil ⟨hS581, _, rfl, ?_⟩
                    refine AH.done (by kernel_rfl) ?_
                    exact ⟨g530, v541, t542, s543, g551, A561, c562, ⟨rfl, rfl, trivial⟩, hS581, ((hO565).kp hk576 (fun b_ hb e' => hd572 (by have e'' : b_ = g38 := e'; rw [← e'']; exact hb))), ((((hb544).lo hk554).kp hk564 (fun e' => hd76 e')).kp hk576 (fun e' => by have e'' : gc = g38 := e'; omega)), (hb578), hd570, hd571, hd572, ht545, hq546, hq550⟩
                  · refine SR.call ent54 (c___spec_l1Cur__among w531 Lc t250 s251 (((hb252).lo hk469).lo hk533) (((((hm71).kp hk248 (fun b_ hb e' => by have e'' : b_ = gc := e'; omega)).lo hk469).lo hk533)) (by omega) (by omega) ([0, 5, 101] : List Int) (((hO534).rd)) (by omega) (by omega) (show ¬ g530 = gc from by omega)) rfl ?_
                    rintro e w585 ⟨v587, t588, s589, rfl, hb590, ht591, hq592, hk586⟩
                    refine ⟨_, rfl, ?_⟩
                    have hz593 := hk586.size
                    have hB594 := hB536.step hk586 (fun i_ hi_ e' => e')
                    have hS595 := (hS537).step hk586 (fun _ _ e => .inl e)
                    have hq596 : (0 : Int) ≤ v587 ∧ v587 ≤ 101 := mem_rngB (lo := 0) (hi := 101) (by decide) hq592
                    refine SR.nil ⟨hS595, _, rfl, ?_⟩
                    refine AH.br [1, 5] (by kernel_rfl) rfl ⟨Br.mk' rfl trivial ?_, Br.mk' rfl trivial ?_, trivial⟩
                    · refine SR.q' (r_ld (v := .slice A64 n64 c64) sca38 rfl ((((((hm73).kp hk248 (fun e' => by have e'' : g38 = gc := e'; omega)).lo hk469).lo hk533).kp hk586 (fun e' => by have e'' : g38 = gc := e'; omega)).cell rfl)) ?_
                      refine SR.nil ⟨hS595, _, rfl, ?_⟩
                      refine AH.br [5] (by kernel_rfl) rfl ⟨Br.mk' rfl trivial ?_, trivial⟩
                      refine SR.lit (vs := [.int .i64 v587]) (L := ([v587] : List Int)) (enc := encI) tel38 (fun _ => rfl) rfl rfl rfl (by decide) ?_
                      intro g597 w598 hg599 hk600 hO601
                      have hz602 := hk600.size
                      have hB603 := hB594.lo hk600
                      have hS604 := (hS595).lo hk600
                      have hd605 : ¬ A64 = some ⟨g597, 0, none⟩ := fun e' => by have := (((((hO74).kp hk248 (fun b_ hb e' => hd76 (by have e'' : b_ = gc := e'; rw [← e'']; exact hb))).lo hk469).lo hk533).kp hk586 (fun b_ hb e' => hd76 (by have e'' : b_ = gc := e'; rw [← e'']; exact hb))).base_le e'; omega
                      have hd606 : ¬ (some (⟨g530, 0, none⟩ : Addr)) = some ⟨g597, 0, none⟩ := fun e' => by have := ((hO534).kp hk586 (fun b_ hb e' => by have e'' : b_ = gc := e'; have := (hO534).base_le hb; omega)).base_le e'; omega
                      refine SR.nil ⟨hS604, _, rfl, ?_⟩
                      refine AH.br [6] (by kernel_rfl) rfl ⟨Br.mk' rfl trivial ?_, trivial⟩
                      refine SR.app tel38 rfl rfl ((((((hO74).kp hk248 (fun b_ hb e' => hd76 (by have e'' : b_ = gc := e'; rw [← e'']; exact hb))).lo hk469).lo hk533).kp hk586 (fun b_ hb e' => hd76 (by have e'' : b_ = gc := e'; rw [← e'']; exact hb))).lo hk600) ((hO601).rd) (fun _ => rfl) (by omega) (by omega) ?_
                      intro A607 c608 w609 hk610 hO611 hN612
                      have hz613 := hk610.size
                      have hB614 := hB603.step hk610 (fun i_ hi_ e' => by have := (((((((hO74).kp hk248 (fun b_ hb e' => hd76 (by have e'' : b_ = gc := e'; rw [← e'']; exact hb))).lo hk469).lo hk533).kp hk586 (fun b_ hb e' => hd76 (by have e'' : b_ = gc := e'; rw [← e'']; exact hb))).lo hk600)).base_le e'; first | omega | (exfalso; omega) | exact e' | exact .inl e' | exact .inr e')
                      have hS615 := (hS604).step hk610 (fun _ _ e => .inr (.inl e))
                      have hd616 : ¬ A607 = some ⟨gc, 0, none⟩ := fun e' => (hN612 gc e').elim (fun h => hd76 (h.trans e')) (fun h => by have := ((hb590).lo hk600).lt; omega)
                      have hd617 : ¬ A607 = some ⟨g1, 0, none⟩ := fun e' => (hN612 g1 e').elim (fun h => hd77 (h.trans e')) (fun h => by have := ((((((hm72).kp hk248 (fun e' => by have e'' : g1 = gc := e'; omega)).lo hk469).lo hk533).kp hk586 (fun e' => by have e'' : g1 = gc := e'; omega)).lo hk600).lt; omega)
                      have hd618 : ¬ A607 = some ⟨g38, 0, none⟩ := fun e' => (hN612 g38 e').elim (fun h => hd78 (h.trans e')) (fun h => by have := ((((((hm73).kp hk248 (fun e' => by have e'' : g38 = gc := e'; omega)).lo hk469).lo hk533).kp hk586 (fun e' => by have e'' : g38 = gc := e'; omega)).lo hk600).lt; omega)
                      refine SR.nil ⟨hS615, _, rfl, ?_⟩
                      refine AH.take 7 rfl (by kernel_rfl) trivial (hS615) (fun w' hw' => r_fa fa57_1 rfl) <| AH.br [8] (by kernel_rfl) rfl ⟨Br.mk' rfl trivial ?_, trivial⟩
                      refine SR.store (o := 1) (vs := [.slice A607 (n64 + 1) c608]) sca38.2 rfl rfl rfl rfl (((((((hm73).kp hk248 (fun e' => by have e'' : g38 = gc := e'; omega)).lo hk469).lo hk533).kp hk586 (fun e' => by have e'' : g38 = gc := e'; omega)).lo hk600).kp hk610 (fun e' => hd78 e')) (Nat.le_of_ble_eq_true rfl) rfl ?_
                      intro w621 hk622 hs623 hb624
                      have hz625 := hk622.size
                      have hB626 := hB614.new hk622 (by omega)
                      have hS627 := (hS615).step hk622 (fun _ _ e => .inr (.inr (e)))
                      refine SR.nil ⟨hS627, _, rfl, ?_⟩
                      refine AH.done (by kernel_rfl) ?_
                      exact ⟨g530, v587, t588, s589, g597, A607, c608, ⟨rfl, rfl, trivial⟩, hS627, ((hO611).kp hk622 (fun b_ hb e' => hd618 (by have e'' : b_ = g38 := e'; rw [← e'']; exact hb))), ((((hb590).lo hk600).kp hk610 (fun e' => hd76 e')).kp hk622 (fun e' => by have e'' : gc = g38 := e'; omega)), (hb624), hd616, hd617, hd618, ht591, hq592, hq596⟩
                    · refine SR.lit (vs := [.int .i64 v587]) (L := ([v587] : List Int)) (enc := encI) tel38 (fun _ => rfl) rfl rfl rfl (by decide) ?_
                      intro g631 w632 hg633 hk634 hO635
                      have hz636 := hk634.size
                      have hB637 := hB594.lo hk634
                      have hS638 := (hS595).lo hk634
                      have hd639 : ¬ A64 = some ⟨g631, 0, none⟩ := fun e' => by have := (((((hO74).kp hk248 (fun b_ hb e' => hd76 (by have e'' : b_ = gc := e'; rw [← e'']; exact hb))).lo hk469).lo hk533).kp hk586 (fun b_ hb e' => hd76 (by have e'' : b_ = gc := e'; rw [← e'']; exact hb))).base_le e'; omega
                      have hd640 : ¬ (some (⟨g530, 0, none⟩ : Addr)) = some ⟨g631, 0, none⟩ := fun e' => by have := ((hO534).kp hk586 (fun b_ hb e' => by have e'' : b_ = gc := e'; have := (hO534).base_le hb; omega)).base_le e'; omega
                      refine SR.nil ⟨hS638, _, rfl, ?_⟩
                      refine AH.br [1] (by kernel_rfl) rfl ⟨Br.mk' rfl trivial ?_, trivial⟩
                      refine SR.q' (r_ld (v := .slice A64 n64 c64) sca38 rfl (((((((hm73).kp hk248 (fun e' => by have e'' : g38 = gc := e'; omega)).lo hk469).lo hk533).kp hk586 (fun e' => by have e'' : g38 = gc := e'; omega)).lo hk634).cell rfl)) ?_
                      refine SR.nil ⟨hS638, _, rfl, ?_⟩
                      refine AH.br [6] (by kernel_rfl) rfl ⟨Br.mk' rfl trivial ?_, trivial⟩
                      refine SR.app tel38 rfl rfl ((((((hO74).kp hk248 (fun b_ hb e' => hd76 (by have e'' : b_ = gc := e'; rw [← e'']; exact hb))).lo hk469).lo hk533).kp hk586 (fun b_ hb e' => hd76 (by have e'' : b_ = gc := e'; rw [← e'']; exact hb))).lo hk634) ((hO635).rd) (fun _ => rfl) (by omega) (by omega) ?_
                      intro A641 c642 w643 hk644 hO645 hN646
                      have hz647 := hk644.size
                      have hB648 := hB637.step hk644 (fun i_ hi_ e' => by have := (((((((hO74).kp hk248 (fun b_ hb e' => hd76 (by have e'' : b_ = gc := e'; rw [← e'']; exact hb))).lo hk469).lo hk533).kp hk586 (fun b_ hb e' => hd76 (by have e'' : b_ = gc := e'; rw [← e'']; exact hb))).lo hk634)).base_le e'; first | omega | (exfalso; omega) | exact e' | exact .inl e' | exact .inr e')
                      have hS649 := (hS638).step hk644 (fun _ _ e => .inr (.inl e))
                      have hd650 : ¬ A641 = some ⟨gc, 0, none⟩ := fun e' => (hN646 gc e').elim (fun h => hd76 (h.trans e')) (fun h => by have := ((hb590).lo hk634).lt; omega)
                      have hd651 : ¬ A641 = some ⟨g1, 0, none⟩ := fun e' => (hN646 g1 e').elim (fun h => hd77 (h.trans e')) (fun h => by have := ((((((hm72).kp hk248 (fun e' => by have e'' : g1 = gc := e'; omega)).lo hk469).lo hk533).kp hk586 (fun e' => by have e'' : g1 = gc := e'; omega)).lo hk634).lt; omega)
                      have hd652 : ¬ A641 = some ⟨g38, 0, none⟩ := fun e' => (hN646 g38 e').elim (fun h => hd78 (h.trans e')) (fun h => by have := ((((((hm73).kp hk248 (fun e' => by have e'' : g38 = gc := e'; omega)).lo hk469).lo hk533).kp hk586 (fun e' => by have e'' : g38 = gc := e'; omega)).lo hk634).lt; omega)
                      refine SR.nil ⟨hS649, _, rfl, ?_⟩
                      refine AH.take 7 rfl (by kernel_rfl) trivial (hS649) (fun w' hw' => r_fa fa57_1 rfl) <| AH.br [8] (by kernel_rfl) rfl ⟨Br.mk' rfl trivial ?_, trivial⟩
                      refine SR.store (o := 1) (vs := [.slice A641 (n64 + 1) c642]) sca38.2 rfl rfl rfl rfl (((((((hm73).kp hk248 (fun e' => by have e'' : g38 = gc := e'; omega)).lo hk469).lo hk533).kp hk586 (fun e' => by have e'' : g38 = gc := e'; omega)).lo hk634).kp hk644 (fun e' => hd78 e')) (Nat.le_of_ble_eq_true rfl) rfl ?_
                      intro w655 hk656 hs657 hb658
                      have hz659 := hk656.size
                      have hB660 := hB648.new hk656 (by omega)
                      have hS661 := (hS649).step hk656 (fun _ _ e => .inr (.inr (e)))
                      refine SR.nil ⟨hS661, _, rfl, ?_⟩
                      refine AH.done (by kernel_rfl) ?_
                      exact ⟨g530, v587, t588, s589, g631, A641, c642, ⟨rfl, rfl, trivial⟩, hS661, ((hO645).kp hk656 (fun b_ hb e' => hd652 (by have e'' : b_ = g38 := e'; rw [← e'']; exact hb))), ((((hb590).lo hk634).kp hk644 (fun e' => hd76 e')).kp hk656 (fun e' => by have e'' : gc = g38 := e'; omega)), (hb658), hd650, hd651, hd652, ht591, hq592, hq596⟩
              rintro f665 w666 ⟨g472, v483, t484, s485, g493, A503, c504, hat668, hR667, hm524, hm525, hm526, hd527, hd528, hd529, ht487, hq488, hq492⟩
              rw [← sets_of_at hat668]
              have hz669 := hR667.size
              have hB670 := hB256.step hR667 (fun i_ hi_ e' => e'.elim (fun e' => e') (fun e' => e'.elim (fun e' => by have := (((hO74).kp hk248 (fun b_ hb e' => hd76 (by have e'' : b_ = gc := e'; rw [← e'']; exact hb)))).base_le e'; exfalso; omega) (fun e' => by have e'' : i_ = g38 := e'; exfalso; omega)))
              refine W.seq ?_
              refine W.regS (SR.q' (r_lda (l := [.int .i64 o.State, .slice A503 (n64 + 1) c504, .int .i64 o.Next, .int .i64 o.Fails, .int .i64 o.Size]) agg57 rfl (fun _ _ hu => (hm526).cell hu) rfl) <| SR.store (o := 0) (vs := [.int .i64 o.State, .slice A503 (n64 + 1) c504, .int .i64 o.Next, .int .i64 o.Fails, .int .i64 o.Size]) agg57.2 rfl rfl rfl rfl (((hm72).kp hk248 (fun e' => by have e'' : g1 = gc := e'; omega)).kp hR667 (fun e' => e'.elim (fun e' => by have e'' : g1 = gc := e'; omega) (fun e' => e'.elim (fun e' => hd77 e') (fun e' => by have e'' : g1 = g38 := e'; omega)))) (Nat.le_of_ble_eq_true rfl) rfl ?_)
              intro w671 hk672 hs673 hb674
              have hz675 := hk672.size
              have hB676 := hB670.new hk672 (by omega)
              refine SR.nil ?_
              refine W.ret ?_
              refine retC rfl rfl agg57 (hb674) rfl ?_
              exact ⟨A503, n64 + 1, c504, (⟨o.State, o.Tiles ++ ([v483] : List Int), o.Next, o.Fails, o.Size⟩ : ScanJob), t484, s485, eR (eA (eC (eI (z_c___spec_l1Cur__scanJob_678 Lc tc sc nc htc hbdc hlec v18 t19 s20 ht22 hq23 hq26 n30 hl35 hl36 hq37 v56 t57 s58 ht60 hq61 n o t z n64 c64 hi75 hl82 hq84 hq85 hq86 hq87 h88 v249 t250 s251 ht253 hq254 h257 h286 h305 h343 v483 t484 s485 ht487 hq488 hq492)) (eC rfl (eC (eI (z_c___spec_l1Cur__scanJob_679 Lc tc sc nc htc hbdc hlec v18 t19 s20 ht22 hq23 hq26 n30 hl35 hl36 hq37 v56 t57 s58 ht60 hq61 n o t z n64 c64 hi75 hl82 hq84 hq85 hq86 hq87 h88 v249 t250 s251 ht253 hq254 h257 h286 h305 h343 v483 t484 s485 ht487 hq488 hq492)) (eC (eI (z_c___spec_l1Cur__scanJob_680 Lc tc sc nc htc hbdc hlec v18 t19 s20 ht22 hq23 hq26 n30 hl35 hl36 hq37 v56 t57 s58 ht60 hq61 n o t z n64 c64 hi75 hl82 hq84 hq85 hq86 hq87 h88 v249 t250 s251 ht253 hq254 h257 h286 h305 h343 v483 t484 s485 ht487 hq488 hq492)) (eC (eI (z_c___spec_l1Cur__scanJob_681 Lc tc sc nc htc hbdc hlec v18 t19 s20 ht22 hq23 hq26 n30 hl35 hl36 hq37 v56 t57 s58 ht60 hq61 n o t z n64 c64 hi75 hl82 hq84 hq85 hq86 hq87 h88 v249 t250 s251 ht253 hq254 h257 h286 h305 h343 v483 t484 s485 ht487 hq488 hq492)) rfl)))))), (SlO.eqv (((hm524).kp hk672 (fun b_ hb e' => hd528 (by have e'' : b_ = g1 := e'; rw [← e'']; exact hb))).down (by omega)) (z_c___spec_l1Cur__scanJob_677 Lc tc sc nc htc hbdc hlec v18 t19 s20 ht22 hq23 hq26 n30 hl35 hl36 hq37 v56 t57 s58 ht60 hq61 n o t z n64 c64 hi75 hl82 hq84 hq85 hq86 hq87 h88 v249 t250 s251 ht253 hq254 h257 h286 h305 h343 v483 t484 s485 ht487 hq488 hq492)), ((hm525).kp hk672 (fun e' => by have e'' : gc = g1 := e'; omega)), ⟨by omega, by omega⟩, (z_c___spec_l1Cur__scanJob_682 Lc tc sc nc htc hbdc hlec v18 t19 s20 ht22 hq23 hq26 n30 hl35 hl36 hq37 v56 t57 s58 ht60 hq61 n o t z n64 c64 hi75 hl82 hq84 hq85 hq86 hq87 h88 v249 t250 s251 ht253 hq254 h257 h286 h305 h343 v483 t484 s485 ht487 hq488 hq492), hB676⟩
            · refine W.skip ?_
              refine W.seq ?_
              refine W.regS (SR.q' (r_lda (l := [.int .i64 o.State, .slice A64 n64 c64, .int .i64 o.Next, .int .i64 o.Fails, .int .i64 o.Size]) agg57 rfl (fun _ _ hu => ((hm73).kp hk248 (fun e' => by have e'' : g38 = gc := e'; omega)).cell hu) rfl) <| SR.store (o := 0) (vs := [.int .i64 o.State, .slice A64 n64 c64, .int .i64 o.Next, .int .i64 o.Fails, .int .i64 o.Size]) agg57.2 rfl rfl rfl rfl ((hm72).kp hk248 (fun e' => by have e'' : g1 = gc := e'; omega)) (Nat.le_of_ble_eq_true rfl) rfl ?_)
              intro w683 hk684 hs685 hb686
              have hz687 := hk684.size
              have hB688 := hB256.new hk684 (by omega)
              refine SR.nil ?_
              refine W.ret ?_
              refine retC rfl rfl agg57 (hb686) rfl ?_
              exact ⟨A64, n64, c64, o, t250, s251, eR rfl, ((((hO74).kp hk248 (fun b_ hb e' => hd76 (by have e'' : b_ = gc := e'; rw [← e'']; exact hb))).kp hk684 (fun b_ hb e' => hd77 (by have e'' : b_ = g1 := e'; rw [← e'']; exact hb))).down (by omega)), ((hb252).kp hk684 (fun e' => by have e'' : gc = g1 := e'; omega)), ⟨by omega, by omega⟩, (z_c___spec_l1Cur__scanJob_689 Lc tc sc nc htc hbdc hlec v18 t19 s20 ht22 hq23 hq26 n30 hl35 hl36 hq37 v56 t57 s58 ht60 hq61 n o t z n64 c64 hi75 hl82 hq84 hq85 hq86 hq87 h88 v249 t250 s251 ht253 hq254 h257 h286 h305 h343), hB688⟩

theorem z_c_laws_vBig_1 (L : List UInt8) (nL : Nat) (hbdL : (nL : Int) ≤ 9223372036854775807) (hleL : nL = L.length) : (65536 < (nL : Int)) ↔ (65536 < (L.length : Int)) := by
  omega
theorem c_laws_vBig (w : World) {AL : Option Addr} {nL cL BL : Nat}  (L : List UInt8) (hL : SlR w BL encB 1 AL nL cL L) : Calls Tryd.prog 11 #[.slice AL nL cL] w fun e w' => e = .returned (.bool (decide (65536 < (L.length : Int)))) ∧ Lo w w' := by
  refine calls_W 6 Tryd.func11 rfl rfl rfl ?_
  have hbdL := hL.bound
  have hleL := hL.len
  have hBbL := hL.bd
  refine W.seq ?_
  refine W.regS (SR.q' (r_as (v := .bool false) rfl) <| SR.nil ?_)
  refine W.seq ?_
  refine W.regS (SR.q' (r_mv (v := .slice _ _ _) rfl) <| SR.q' (r_len und36 rfl) <| SR.q' (r_gt rfl rfl) <| SR.q' (r_as (v := .bool _) rfl) <| SR.nil ?_)
  refine W.ret ?_
  refine ret1 rfl (v := .bool _) rfl ?_
  exact ⟨eR (eDD (z_c_laws_vBig_1 L nL hbdL hleL)), (Lo.refl w)⟩
end Go.Proofs.YtlpapeeaghmjpaaDoor
