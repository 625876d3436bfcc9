/- Walks, printed by a program of this claim's author. -/
import Derived.Test.YtmigipacjadpeaaChecked
import Derived.Test.YtmigipacjadpeaaLa
import Derived.Test.YtmigipacjadpeaaLb
import Derived.Test.YtmigipacjadpeaaFo
import Derived.Test.YtmigipacjadpeaaFs
import Derived.Test.YtmigipacjadpeaaFq
import Derived.Test.YtmigipacjadpeaaFp
import Derived.Test.YtmigipacjadpeaaFu
import Derived.Test.YtmigipacjadpeaaFt
import Derived.Test.YtmigipacjadpeaaLe
import Derived.Test.YtmigipacjadpeaaG31v
namespace Go.Proofs.Ytmigipacjadpeaa
open Go Go.RowKit Fw
set_option maxRecDepth 10000
set_option linter.unusedVariables false
theorem ent10 : Ent Try.prog 10 := ent_of Try.func10 (by decide +kernel) rfl
theorem ent11 : Ent Try.prog 11 := ent_of Try.func11 (by decide +kernel) rfl
theorem ent12 : Ent Try.prog 12 := ent_of Try.func12 (by decide +kernel) rfl
theorem ent13 : Ent Try.prog 13 := ent_of Try.func13 (by decide +kernel) rfl
theorem ent14 : Ent Try.prog 14 := ent_of Try.func14 (by decide +kernel) rfl
theorem ent15 : Ent Try.prog 15 := ent_of Try.func15 (by decide +kernel) rfl
theorem ent16 : Ent Try.prog 16 := ent_of Try.func16 (by decide +kernel) rfl
theorem ent17 : Ent Try.prog 17 := ent_of Try.func17 (by decide +kernel) rfl
theorem ent18 : Ent Try.prog 18 := ent_of Try.func18 (by decide +kernel) rfl
theorem ent4 : Ent Try.prog 4 := ent_of Try.func4 (by decide +kernel) rfl
theorem ent5 : Ent Try.prog 5 := ent_of Try.func5 (by decide +kernel) rfl
theorem ent6 : Ent Try.prog 6 := ent_of Try.func6 (by decide +kernel) rfl
theorem ent7 : Ent Try.prog 7 := ent_of Try.func7 (by decide +kernel) rfl
theorem ent8 : Ent Try.prog 8 := ent_of Try.func8 (by decide +kernel) rfl
theorem ent9 : Ent Try.prog 9 := ent_of Try.func9 (by decide +kernel) rfl
theorem und4 : Try.prog.underlying 4 = some (.bool) := by kernel_rfl

theorem z_c_laws_FnTrends_29 (L : List UInt8) (nL : Nat) (hbdL : (nL : Int) ≤ 9223372036854775807) (hleL : nL = L.length) (h5 : ¬ (65536 < (L.length : Int))) (v12 : List LibRow) (hq13 : v12.length ≤ 60) (n9 : Nat) (hl16 : n9 = (v12).length) (hl17 : (n9 : Int) ≤ 9223372036854775807) : (0 ≤ v12.length ∧ (0 < 0 → RowsOK v12 ∧ 0 < v12.length)) ∧ 0 = lessN v12 (medL v12) 0 ∧ 0 = moreN v12 (medL v12) 0 ∧ 0 ≤ 0 ∧ 0 ≤ 0 := by
  exact ⟨⟨by omega, fun h => absurd h (by omega)⟩, rfl, rfl, by omega, by omega⟩
theorem z_c_laws_FnTrends_55 (L : List UInt8) (nL : Nat) (hbdL : (nL : Int) ≤ 9223372036854775807) (hleL : nL = L.length) (h5 : ¬ (65536 < (L.length : Int))) (v12 : List LibRow) (hq13 : v12.length ≤ 60) (n9 : Nat) (hl16 : n9 = (v12).length) (hl17 : (n9 : Int) ≤ 9223372036854775807) (k : Nat) (a : Nat) (b : Nat) (hi36 : (k ≤ v12.length ∧ (0 < k → RowsOK v12 ∧ 0 < v12.length)) ∧ a = lessN v12 (medL v12) k ∧ b = moreN v12 (medL v12) k ∧ a ≤ k ∧ b ≤ k) (hq37 : a ≤ k ∧ b ≤ k) (h45 : ((k : Int) < (n9 : Int)) ∧ (RowsOK v12 ∧ 0 < v12.length)) (hq46 : (k : Int) < (n9 : Int)) (hq47 : RowsOK v12 ∧ 0 < v12.length) (hq48 : RowsOK v12) (hq49 : v12.length ≤ 12) (hx51 : v12[k]? = some (gt v12 k)) (hq52 : ((1 : Int) ≤ (gt v12 k).Month ∧ (gt v12 k).Month ≤ 1200) ∧ ((0 : Int) ≤ (gt v12 k).Lent ∧ (gt v12 k).Lent ≤ 9999) ∧ ((0 : Int) ≤ (gt v12 k).Copied ∧ (gt v12 k).Copied ≤ 9999) ∧ ((0 : Int) ≤ (gt v12 k).Given ∧ (gt v12 k).Given ≤ 999) ∧ ((0 : Int) ≤ (gt v12 k).Fines ∧ (gt v12 k).Fines ≤ 99999)) (h53 : ((gt v12 k).Lent) < (medL v12)) (h54 : (medL v12) < ((gt v12 k).Lent)) : (k + 1 ≤ v12.length ∧ (0 < k + 1 → RowsOK v12 ∧ 0 < v12.length)) ∧ (a + 1) = lessN v12 (medL v12) (k + 1) ∧ (b + 1) = moreN v12 (medL v12) (k + 1) ∧ (a + 1) ≤ k + 1 ∧ (b + 1) ≤ k + 1 := by
  have hx := ‹_[k]? = some _›
  have hh := ‹_ ∧ _ = lessN _ _ _ ∧ _›
  rw [lessN_next hx, moreN_next hx]
  exact ⟨⟨by omega, fun _ => ‹RowsOK _ ∧ 0 < _›⟩, by split <;> omega, by split <;> omega, by omega, by omega⟩
theorem z_c_laws_FnTrends_56 (L : List UInt8) (nL : Nat) (hbdL : (nL : Int) ≤ 9223372036854775807) (hleL : nL = L.length) (h5 : ¬ (65536 < (L.length : Int))) (v12 : List LibRow) (hq13 : v12.length ≤ 60) (n9 : Nat) (hl16 : n9 = (v12).length) (hl17 : (n9 : Int) ≤ 9223372036854775807) (k : Nat) (a : Nat) (b : Nat) (hi36 : (k ≤ v12.length ∧ (0 < k → RowsOK v12 ∧ 0 < v12.length)) ∧ a = lessN v12 (medL v12) k ∧ b = moreN v12 (medL v12) k ∧ a ≤ k ∧ b ≤ k) (hq37 : a ≤ k ∧ b ≤ k) (h45 : ((k : Int) < (n9 : Int)) ∧ (RowsOK v12 ∧ 0 < v12.length)) (hq46 : (k : Int) < (n9 : Int)) (hq47 : RowsOK v12 ∧ 0 < v12.length) (hq48 : RowsOK v12) (hq49 : v12.length ≤ 12) (hx51 : v12[k]? = some (gt v12 k)) (hq52 : ((1 : Int) ≤ (gt v12 k).Month ∧ (gt v12 k).Month ≤ 1200) ∧ ((0 : Int) ≤ (gt v12 k).Lent ∧ (gt v12 k).Lent ≤ 9999) ∧ ((0 : Int) ≤ (gt v12 k).Copied ∧ (gt v12 k).Copied ≤ 9999) ∧ ((0 : Int) ≤ (gt v12 k).Given ∧ (gt v12 k).Given ≤ 999) ∧ ((0 : Int) ≤ (gt v12 k).Fines ∧ (gt v12 k).Fines ≤ 99999)) (h53 : ((gt v12 k).Lent) < (medL v12)) (h54 : (medL v12) < ((gt v12 k).Lent)) : v12.length - (k + 1) < v12.length - k := by
  omega
theorem z_c_laws_FnTrends_57 (L : List UInt8) (nL : Nat) (hbdL : (nL : Int) ≤ 9223372036854775807) (hleL : nL = L.length) (h5 : ¬ (65536 < (L.length : Int))) (v12 : List LibRow) (hq13 : v12.length ≤ 60) (n9 : Nat) (hl16 : n9 = (v12).length) (hl17 : (n9 : Int) ≤ 9223372036854775807) (k : Nat) (a : Nat) (b : Nat) (hi36 : (k ≤ v12.length ∧ (0 < k → RowsOK v12 ∧ 0 < v12.length)) ∧ a = lessN v12 (medL v12) k ∧ b = moreN v12 (medL v12) k ∧ a ≤ k ∧ b ≤ k) (hq37 : a ≤ k ∧ b ≤ k) (h45 : ((k : Int) < (n9 : Int)) ∧ (RowsOK v12 ∧ 0 < v12.length)) (hq46 : (k : Int) < (n9 : Int)) (hq47 : RowsOK v12 ∧ 0 < v12.length) (hq48 : RowsOK v12) (hq49 : v12.length ≤ 12) (hx51 : v12[k]? = some (gt v12 k)) (hq52 : ((1 : Int) ≤ (gt v12 k).Month ∧ (gt v12 k).Month ≤ 1200) ∧ ((0 : Int) ≤ (gt v12 k).Lent ∧ (gt v12 k).Lent ≤ 9999) ∧ ((0 : Int) ≤ (gt v12 k).Copied ∧ (gt v12 k).Copied ≤ 9999) ∧ ((0 : Int) ≤ (gt v12 k).Given ∧ (gt v12 k).Given ≤ 999) ∧ ((0 : Int) ≤ (gt v12 k).Fines ∧ (gt v12 k).Fines ≤ 99999)) (h53 : ((gt v12 k).Lent) < (medL v12)) (h54 : ¬ ((medL v12) < ((gt v12 k).Lent))) : (k + 1 ≤ v12.length ∧ (0 < k + 1 → RowsOK v12 ∧ 0 < v12.length)) ∧ (a + 1) = lessN v12 (medL v12) (k + 1) ∧ b = moreN v12 (medL v12) (k + 1) ∧ (a + 1) ≤ k + 1 ∧ b ≤ k + 1 := by
  have hx := ‹_[k]? = some _›
  have hh := ‹_ ∧ _ = lessN _ _ _ ∧ _›
  rw [lessN_next hx, moreN_next hx]
  exact ⟨⟨by omega, fun _ => ‹RowsOK _ ∧ 0 < _›⟩, by split <;> omega, by split <;> omega, by omega, by omega⟩
theorem z_c_laws_FnTrends_58 (L : List UInt8) (nL : Nat) (hbdL : (nL : Int) ≤ 9223372036854775807) (hleL : nL = L.length) (h5 : ¬ (65536 < (L.length : Int))) (v12 : List LibRow) (hq13 : v12.length ≤ 60) (n9 : Nat) (hl16 : n9 = (v12).length) (hl17 : (n9 : Int) ≤ 9223372036854775807) (k : Nat) (a : Nat) (b : Nat) (hi36 : (k ≤ v12.length ∧ (0 < k → RowsOK v12 ∧ 0 < v12.length)) ∧ a = lessN v12 (medL v12) k ∧ b = moreN v12 (medL v12) k ∧ a ≤ k ∧ b ≤ k) (hq37 : a ≤ k ∧ b ≤ k) (h45 : ((k : Int) < (n9 : Int)) ∧ (RowsOK v12 ∧ 0 < v12.length)) (hq46 : (k : Int) < (n9 : Int)) (hq47 : RowsOK v12 ∧ 0 < v12.length) (hq48 : RowsOK v12) (hq49 : v12.length ≤ 12) (hx51 : v12[k]? = some (gt v12 k)) (hq52 : ((1 : Int) ≤ (gt v12 k).Month ∧ (gt v12 k).Month ≤ 1200) ∧ ((0 : Int) ≤ (gt v12 k).Lent ∧ (gt v12 k).Lent ≤ 9999) ∧ ((0 : Int) ≤ (gt v12 k).Copied ∧ (gt v12 k).Copied ≤ 9999) ∧ ((0 : Int) ≤ (gt v12 k).Given ∧ (gt v12 k).Given ≤ 999) ∧ ((0 : Int) ≤ (gt v12 k).Fines ∧ (gt v12 k).Fines ≤ 99999)) (h53 : ((gt v12 k).Lent) < (medL v12)) (h54 : ¬ ((medL v12) < ((gt v12 k).Lent))) : v12.length - (k + 1) < v12.length - k := by
  omega
theorem z_c_laws_FnTrends_60 (L : List UInt8) (nL : Nat) (hbdL : (nL : Int) ≤ 9223372036854775807) (hleL : nL = L.length) (h5 : ¬ (65536 < (L.length : Int))) (v12 : List LibRow) (hq13 : v12.length ≤ 60) (n9 : Nat) (hl16 : n9 = (v12).length) (hl17 : (n9 : Int) ≤ 9223372036854775807) (k : Nat) (a : Nat) (b : Nat) (hi36 : (k ≤ v12.length ∧ (0 < k → RowsOK v12 ∧ 0 < v12.length)) ∧ a = lessN v12 (medL v12) k ∧ b = moreN v12 (medL v12) k ∧ a ≤ k ∧ b ≤ k) (hq37 : a ≤ k ∧ b ≤ k) (h45 : ((k : Int) < (n9 : Int)) ∧ (RowsOK v12 ∧ 0 < v12.length)) (hq46 : (k : Int) < (n9 : Int)) (hq47 : RowsOK v12 ∧ 0 < v12.length) (hq48 : RowsOK v12) (hq49 : v12.length ≤ 12) (hx51 : v12[k]? = some (gt v12 k)) (hq52 : ((1 : Int) ≤ (gt v12 k).Month ∧ (gt v12 k).Month ≤ 1200) ∧ ((0 : Int) ≤ (gt v12 k).Lent ∧ (gt v12 k).Lent ≤ 9999) ∧ ((0 : Int) ≤ (gt v12 k).Copied ∧ (gt v12 k).Copied ≤ 9999) ∧ ((0 : Int) ≤ (gt v12 k).Given ∧ (gt v12 k).Given ≤ 999) ∧ ((0 : Int) ≤ (gt v12 k).Fines ∧ (gt v12 k).Fines ≤ 99999)) (h53 : ¬ (((gt v12 k).Lent) < (medL v12))) (h59 : (medL v12) < ((gt v12 k).Lent)) : (k + 1 ≤ v12.length ∧ (0 < k + 1 → RowsOK v12 ∧ 0 < v12.length)) ∧ a = lessN v12 (medL v12) (k + 1) ∧ (b + 1) = moreN v12 (medL v12) (k + 1) ∧ a ≤ k + 1 ∧ (b + 1) ≤ k + 1 := by
  have hx := ‹_[k]? = some _›
  have hh := ‹_ ∧ _ = lessN _ _ _ ∧ _›
  rw [lessN_next hx, moreN_next hx]
  exact ⟨⟨by omega, fun _ => ‹RowsOK _ ∧ 0 < _›⟩, by split <;> omega, by split <;> omega, by omega, by omega⟩
theorem z_c_laws_FnTrends_61 (L : List UInt8) (nL : Nat) (hbdL : (nL : Int) ≤ 9223372036854775807) (hleL : nL = L.length) (h5 : ¬ (65536 < (L.length : Int))) (v12 : List LibRow) (hq13 : v12.length ≤ 60) (n9 : Nat) (hl16 : n9 = (v12).length) (hl17 : (n9 : Int) ≤ 9223372036854775807) (k : Nat) (a : Nat) (b : Nat) (hi36 : (k ≤ v12.length ∧ (0 < k → RowsOK v12 ∧ 0 < v12.length)) ∧ a = lessN v12 (medL v12) k ∧ b = moreN v12 (medL v12) k ∧ a ≤ k ∧ b ≤ k) (hq37 : a ≤ k ∧ b ≤ k) (h45 : ((k : Int) < (n9 : Int)) ∧ (RowsOK v12 ∧ 0 < v12.length)) (hq46 : (k : Int) < (n9 : Int)) (hq47 : RowsOK v12 ∧ 0 < v12.length) (hq48 : RowsOK v12) (hq49 : v12.length ≤ 12) (hx51 : v12[k]? = some (gt v12 k)) (hq52 : ((1 : Int) ≤ (gt v12 k).Month ∧ (gt v12 k).Month ≤ 1200) ∧ ((0 : Int) ≤ (gt v12 k).Lent ∧ (gt v12 k).Lent ≤ 9999) ∧ ((0 : Int) ≤ (gt v12 k).Copied ∧ (gt v12 k).Copied ≤ 9999) ∧ ((0 : Int) ≤ (gt v12 k).Given ∧ (gt v12 k).Given ≤ 999) ∧ ((0 : Int) ≤ (gt v12 k).Fines ∧ (gt v12 k).Fines ≤ 99999)) (h53 : ¬ (((gt v12 k).Lent) < (medL v12))) (h59 : (medL v12) < ((gt v12 k).Lent)) : v12.length - (k + 1) < v12.length - k := by
  omega
theorem z_c_laws_FnTrends_62 (L : List UInt8) (nL : Nat) (hbdL : (nL : Int) ≤ 9223372036854775807) (hleL : nL = L.length) (h5 : ¬ (65536 < (L.length : Int))) (v12 : List LibRow) (hq13 : v12.length ≤ 60) (n9 : Nat) (hl16 : n9 = (v12).length) (hl17 : (n9 : Int) ≤ 9223372036854775807) (k : Nat) (a : Nat) (b : Nat) (hi36 : (k ≤ v12.length ∧ (0 < k → RowsOK v12 ∧ 0 < v12.length)) ∧ a = lessN v12 (medL v12) k ∧ b = moreN v12 (medL v12) k ∧ a ≤ k ∧ b ≤ k) (hq37 : a ≤ k ∧ b ≤ k) (h45 : ((k : Int) < (n9 : Int)) ∧ (RowsOK v12 ∧ 0 < v12.length)) (hq46 : (k : Int) < (n9 : Int)) (hq47 : RowsOK v12 ∧ 0 < v12.length) (hq48 : RowsOK v12) (hq49 : v12.length ≤ 12) (hx51 : v12[k]? = some (gt v12 k)) (hq52 : ((1 : Int) ≤ (gt v12 k).Month ∧ (gt v12 k).Month ≤ 1200) ∧ ((0 : Int) ≤ (gt v12 k).Lent ∧ (gt v12 k).Lent ≤ 9999) ∧ ((0 : Int) ≤ (gt v12 k).Copied ∧ (gt v12 k).Copied ≤ 9999) ∧ ((0 : Int) ≤ (gt v12 k).Given ∧ (gt v12 k).Given ≤ 999) ∧ ((0 : Int) ≤ (gt v12 k).Fines ∧ (gt v12 k).Fines ≤ 99999)) (h53 : ¬ (((gt v12 k).Lent) < (medL v12))) (h59 : ¬ ((medL v12) < ((gt v12 k).Lent))) : (k + 1 ≤ v12.length ∧ (0 < k + 1 → RowsOK v12 ∧ 0 < v12.length)) ∧ a = lessN v12 (medL v12) (k + 1) ∧ b = moreN v12 (medL v12) (k + 1) ∧ a ≤ k + 1 ∧ b ≤ k + 1 := by
  have hx := ‹_[k]? = some _›
  have hh := ‹_ ∧ _ = lessN _ _ _ ∧ _›
  rw [lessN_next hx, moreN_next hx]
  exact ⟨⟨by omega, fun _ => ‹RowsOK _ ∧ 0 < _›⟩, by split <;> omega, by split <;> omega, by omega, by omega⟩
theorem z_c_laws_FnTrends_63 (L : List UInt8) (nL : Nat) (hbdL : (nL : Int) ≤ 9223372036854775807) (hleL : nL = L.length) (h5 : ¬ (65536 < (L.length : Int))) (v12 : List LibRow) (hq13 : v12.length ≤ 60) (n9 : Nat) (hl16 : n9 = (v12).length) (hl17 : (n9 : Int) ≤ 9223372036854775807) (k : Nat) (a : Nat) (b : Nat) (hi36 : (k ≤ v12.length ∧ (0 < k → RowsOK v12 ∧ 0 < v12.length)) ∧ a = lessN v12 (medL v12) k ∧ b = moreN v12 (medL v12) k ∧ a ≤ k ∧ b ≤ k) (hq37 : a ≤ k ∧ b ≤ k) (h45 : ((k : Int) < (n9 : Int)) ∧ (RowsOK v12 ∧ 0 < v12.length)) (hq46 : (k : Int) < (n9 : Int)) (hq47 : RowsOK v12 ∧ 0 < v12.length) (hq48 : RowsOK v12) (hq49 : v12.length ≤ 12) (hx51 : v12[k]? = some (gt v12 k)) (hq52 : ((1 : Int) ≤ (gt v12 k).Month ∧ (gt v12 k).Month ≤ 1200) ∧ ((0 : Int) ≤ (gt v12 k).Lent ∧ (gt v12 k).Lent ≤ 9999) ∧ ((0 : Int) ≤ (gt v12 k).Copied ∧ (gt v12 k).Copied ≤ 9999) ∧ ((0 : Int) ≤ (gt v12 k).Given ∧ (gt v12 k).Given ≤ 999) ∧ ((0 : Int) ≤ (gt v12 k).Fines ∧ (gt v12 k).Fines ≤ 99999)) (h53 : ¬ (((gt v12 k).Lent) < (medL v12))) (h59 : ¬ ((medL v12) < ((gt v12 k).Lent))) : v12.length - (k + 1) < v12.length - k := by
  omega
theorem z_c_laws_FnTrends_74 (L : List UInt8) (nL : Nat) (hbdL : (nL : Int) ≤ 9223372036854775807) (hleL : nL = L.length) (h5 : ¬ (65536 < (L.length : Int))) (v12 : List LibRow) (hq13 : v12.length ≤ 60) (n9 : Nat) (hl16 : n9 = (v12).length) (hl17 : (n9 : Int) ≤ 9223372036854775807) (k : Nat) (a : Nat) (b : Nat) (hi36 : (k ≤ v12.length ∧ (0 < k → RowsOK v12 ∧ 0 < v12.length)) ∧ a = lessN v12 (medL v12) k ∧ b = moreN v12 (medL v12) k ∧ a ≤ k ∧ b ≤ k) (hq37 : a ≤ k ∧ b ≤ k) (h45 : ¬ (((k : Int) < (n9 : Int)) ∧ (RowsOK v12 ∧ 0 < v12.length))) (h71 : (((n9 : Int) + 1) ≤ (2 * (a : Int))) ∨ ((n9 : Int) < (2 * (b : Int)))) : false = true := by
  first | exact decide_eq_true rfl | (exfalso; have hh := ‹_ ∧ _ = lessN _ _ _ ∧ _›; rcases Nat.eq_zero_or_pos k with h0 | h0; omega; have h1 := hh.1.2 h0; have h3 := med_half h1 (Nat.le_antisymm hh.1.1 (Nat.le_of_not_lt fun q => ‹¬ (_ ∧ RowsOK _ ∧ _)› ⟨by omega, h1⟩)); omega) | (exfalso; exact ‹¬ IntKind.i64.wrap _ = IntKind.i64.wrap _› (congrArg _ (gro_law' ‹RowsOK _ ∧ 2 ≤ _› (by assumption)))) | (exfalso; have h1 := best_law ‹RowsOK _ ∧ 0 < _› (And.right ‹_ ∧ lastR _ _ _ _ = _›) ‹_[j]? = some _› ‹¬ (_ ∨ _)›; omega)
theorem z_c_laws_FnTrends_131 (L : List UInt8) (nL : Nat) (hbdL : (nL : Int) ≤ 9223372036854775807) (hleL : nL = L.length) (h5 : ¬ (65536 < (L.length : Int))) (v12 : List LibRow) (hq13 : v12.length ≤ 60) (n9 : Nat) (hl16 : n9 = (v12).length) (hl17 : (n9 : Int) ≤ 9223372036854775807) (k : Nat) (a : Nat) (b : Nat) (hi36 : (k ≤ v12.length ∧ (0 < k → RowsOK v12 ∧ 0 < v12.length)) ∧ a = lessN v12 (medL v12) k ∧ b = moreN v12 (medL v12) k ∧ a ≤ k ∧ b ≤ k) (hq37 : a ≤ k ∧ b ≤ k) (h45 : ¬ (((k : Int) < (n9 : Int)) ∧ (RowsOK v12 ∧ 0 < v12.length))) (h71 : ¬ ((((n9 : Int) + 1) ≤ (2 * (a : Int))) ∨ ((n9 : Int) < (2 * (b : Int))))) (hq75 : ¬ (((n9 : Int) + 1) ≤ (2 * (a : Int)))) (hq76 : ¬ ((n9 : Int) < (2 * (b : Int)))) (v85 : List LibRow) (hq86 : v85.length ≤ 60) (n82 : Nat) (hl89 : n82 = (v85).length) (hl90 : (n82 : Int) ≤ 9223372036854775807) (hq95 : (-100000 ≤ groN v85 ∧ groN v85 ≤ 100000) ∧ (-100000 ≤ groD v85 ∧ groD v85 ≤ 100000)) (hq102 : (-100000 ≤ groN v85 ∧ groN v85 ≤ 100000) ∧ (-100000 ≤ groD v85 ∧ groD v85 ≤ 100000)) (h124 : (RowsOK v85 ∧ 2 ≤ v85.length) ∧ (¬ ((IntKind.i64.wrap ((groN v85) * (((gt v85 (n82 - 1)).Month) - ((gt v85 0).Month)))) = (IntKind.i64.wrap ((groD v85) * (((gt v85 (n82 - 1)).Lent) - ((gt v85 0).Lent))))))) (hq125 : RowsOK v85 ∧ 2 ≤ v85.length) (hq126 : ¬ ((IntKind.i64.wrap ((groN v85) * (((gt v85 (n82 - 1)).Month) - ((gt v85 0).Month)))) = (IntKind.i64.wrap ((groD v85) * (((gt v85 (n82 - 1)).Lent) - ((gt v85 0).Lent)))))) (hq127 : RowsOK v85) (hq128 : v85.length ≤ 12) : false = true := by
  first | exact decide_eq_true rfl | (exfalso; have hh := ‹_ ∧ _ = lessN _ _ _ ∧ _›; rcases Nat.eq_zero_or_pos k with h0 | h0; omega; have h1 := hh.1.2 h0; have h3 := med_half h1 (Nat.le_antisymm hh.1.1 (Nat.le_of_not_lt fun q => ‹¬ (_ ∧ RowsOK _ ∧ _)› ⟨by omega, h1⟩)); omega) | (exfalso; exact ‹¬ IntKind.i64.wrap _ = IntKind.i64.wrap _› (congrArg _ (gro_law' ‹RowsOK _ ∧ 2 ≤ _› (by assumption)))) | (exfalso; have h1 := best_law ‹RowsOK _ ∧ 0 < _› (And.right ‹_ ∧ lastR _ _ _ _ = _›) ‹_[j]? = some _› ‹¬ (_ ∨ _)›; omega)
theorem z_c_laws_FnTrends_156 (L : List UInt8) (nL : Nat) (hbdL : (nL : Int) ≤ 9223372036854775807) (hleL : nL = L.length) (h5 : ¬ (65536 < (L.length : Int))) (v12 : List LibRow) (hq13 : v12.length ≤ 60) (n9 : Nat) (hl16 : n9 = (v12).length) (hl17 : (n9 : Int) ≤ 9223372036854775807) (k : Nat) (a : Nat) (b : Nat) (hi36 : (k ≤ v12.length ∧ (0 < k → RowsOK v12 ∧ 0 < v12.length)) ∧ a = lessN v12 (medL v12) k ∧ b = moreN v12 (medL v12) k ∧ a ≤ k ∧ b ≤ k) (hq37 : a ≤ k ∧ b ≤ k) (h45 : ¬ (((k : Int) < (n9 : Int)) ∧ (RowsOK v12 ∧ 0 < v12.length))) (h71 : ¬ ((((n9 : Int) + 1) ≤ (2 * (a : Int))) ∨ ((n9 : Int) < (2 * (b : Int))))) (hq75 : ¬ (((n9 : Int) + 1) ≤ (2 * (a : Int)))) (hq76 : ¬ ((n9 : Int) < (2 * (b : Int)))) (v85 : List LibRow) (hq86 : v85.length ≤ 60) (n82 : Nat) (hl89 : n82 = (v85).length) (hl90 : (n82 : Int) ≤ 9223372036854775807) (hq95 : (-100000 ≤ groN v85 ∧ groN v85 ≤ 100000) ∧ (-100000 ≤ groD v85 ∧ groD v85 ≤ 100000)) (hq102 : (-100000 ≤ groN v85 ∧ groN v85 ≤ 100000) ∧ (-100000 ≤ groD v85 ∧ groD v85 ≤ 100000)) (h124 : ¬ ((RowsOK v85 ∧ 2 ≤ v85.length) ∧ (¬ ((IntKind.i64.wrap ((groN v85) * (((gt v85 (n82 - 1)).Month) - ((gt v85 0).Month)))) = (IntKind.i64.wrap ((groD v85) * (((gt v85 (n82 - 1)).Lent) - ((gt v85 0).Lent)))))))) (v140 : List LibRow) (hq141 : v140.length ≤ 60) (n137 : Nat) (hl144 : n137 = (v140).length) (hl145 : (n137 : Int) ≤ 9223372036854775807) : 0 ≤ v140.length ∧ lastR v140 (bestF v140) (bestL v140) 0 = (0 : Int) := by
  exact ⟨by omega, rfl⟩
theorem z_c_laws_FnTrends_191 (L : List UInt8) (nL : Nat) (hbdL : (nL : Int) ≤ 9223372036854775807) (hleL : nL = L.length) (h5 : ¬ (65536 < (L.length : Int))) (v12 : List LibRow) (hq13 : v12.length ≤ 60) (n9 : Nat) (hl16 : n9 = (v12).length) (hl17 : (n9 : Int) ≤ 9223372036854775807) (k : Nat) (a : Nat) (b : Nat) (hi36 : (k ≤ v12.length ∧ (0 < k → RowsOK v12 ∧ 0 < v12.length)) ∧ a = lessN v12 (medL v12) k ∧ b = moreN v12 (medL v12) k ∧ a ≤ k ∧ b ≤ k) (hq37 : a ≤ k ∧ b ≤ k) (h45 : ¬ (((k : Int) < (n9 : Int)) ∧ (RowsOK v12 ∧ 0 < v12.length))) (h71 : ¬ ((((n9 : Int) + 1) ≤ (2 * (a : Int))) ∨ ((n9 : Int) < (2 * (b : Int))))) (hq75 : ¬ (((n9 : Int) + 1) ≤ (2 * (a : Int)))) (hq76 : ¬ ((n9 : Int) < (2 * (b : Int)))) (v85 : List LibRow) (hq86 : v85.length ≤ 60) (n82 : Nat) (hl89 : n82 = (v85).length) (hl90 : (n82 : Int) ≤ 9223372036854775807) (hq95 : (-100000 ≤ groN v85 ∧ groN v85 ≤ 100000) ∧ (-100000 ≤ groD v85 ∧ groD v85 ≤ 100000)) (hq102 : (-100000 ≤ groN v85 ∧ groN v85 ≤ 100000) ∧ (-100000 ≤ groD v85 ∧ groD v85 ≤ 100000)) (h124 : ¬ ((RowsOK v85 ∧ 2 ≤ v85.length) ∧ (¬ ((IntKind.i64.wrap ((groN v85) * (((gt v85 (n82 - 1)).Month) - ((gt v85 0).Month)))) = (IntKind.i64.wrap ((groD v85) * (((gt v85 (n82 - 1)).Lent) - ((gt v85 0).Lent)))))))) (v140 : List LibRow) (hq141 : v140.length ≤ 60) (n137 : Nat) (hl144 : n137 = (v140).length) (hl145 : (n137 : Int) ≤ 9223372036854775807) (j : Nat) (l : Int) (hi163 : j ≤ v140.length ∧ lastR v140 (bestF v140) (bestL v140) j = l) (h171 : ((j : Int) < (n137 : Int)) ∧ (RowsOK v140 ∧ 0 < v140.length)) (hq172 : (j : Int) < (n137 : Int)) (hq173 : RowsOK v140 ∧ 0 < v140.length) (hq174 : RowsOK v140) (hq175 : v140.length ≤ 12) (hq184 : v140[j]? = some (gt v140 j)) (hq185 : ((1 : Int) ≤ (gt v140 j).Month ∧ (gt v140 j).Month ≤ 1200) ∧ ((0 : Int) ≤ (gt v140 j).Lent ∧ (gt v140 j).Lent ≤ 9999) ∧ ((0 : Int) ≤ (gt v140 j).Copied ∧ (gt v140 j).Copied ≤ 9999) ∧ ((0 : Int) ≤ (gt v140 j).Given ∧ (gt v140 j).Given ≤ 999) ∧ ((0 : Int) ≤ (gt v140 j).Fines ∧ (gt v140 j).Fines ≤ 99999)) (h188 : (((gt v140 j).Month) < (bestF v140)) ∨ ((bestL v140) < ((gt v140 j).Month))) : j + 1 ≤ v140.length ∧ lastR v140 (bestF v140) (bestL v140) (j + 1) = l := by
  have hh := ‹_ ∧ lastR _ _ _ _ = _›
  first | exact ⟨by omega, (lastR_out ‹_[j]? = some _› ‹_ < bestF _ ∨ _›).trans hh.2⟩ | exact ⟨by omega, lastR_in ‹_[j]? = some _› ‹¬ (_ < bestF _ ∨ _)›⟩
theorem z_c_laws_FnTrends_192 (L : List UInt8) (nL : Nat) (hbdL : (nL : Int) ≤ 9223372036854775807) (hleL : nL = L.length) (h5 : ¬ (65536 < (L.length : Int))) (v12 : List LibRow) (hq13 : v12.length ≤ 60) (n9 : Nat) (hl16 : n9 = (v12).length) (hl17 : (n9 : Int) ≤ 9223372036854775807) (k : Nat) (a : Nat) (b : Nat) (hi36 : (k ≤ v12.length ∧ (0 < k → RowsOK v12 ∧ 0 < v12.length)) ∧ a = lessN v12 (medL v12) k ∧ b = moreN v12 (medL v12) k ∧ a ≤ k ∧ b ≤ k) (hq37 : a ≤ k ∧ b ≤ k) (h45 : ¬ (((k : Int) < (n9 : Int)) ∧ (RowsOK v12 ∧ 0 < v12.length))) (h71 : ¬ ((((n9 : Int) + 1) ≤ (2 * (a : Int))) ∨ ((n9 : Int) < (2 * (b : Int))))) (hq75 : ¬ (((n9 : Int) + 1) ≤ (2 * (a : Int)))) (hq76 : ¬ ((n9 : Int) < (2 * (b : Int)))) (v85 : List LibRow) (hq86 : v85.length ≤ 60) (n82 : Nat) (hl89 : n82 = (v85).length) (hl90 : (n82 : Int) ≤ 9223372036854775807) (hq95 : (-100000 ≤ groN v85 ∧ groN v85 ≤ 100000) ∧ (-100000 ≤ groD v85 ∧ groD v85 ≤ 100000)) (hq102 : (-100000 ≤ groN v85 ∧ groN v85 ≤ 100000) ∧ (-100000 ≤ groD v85 ∧ groD v85 ≤ 100000)) (h124 : ¬ ((RowsOK v85 ∧ 2 ≤ v85.length) ∧ (¬ ((IntKind.i64.wrap ((groN v85) * (((gt v85 (n82 - 1)).Month) - ((gt v85 0).Month)))) = (IntKind.i64.wrap ((groD v85) * (((gt v85 (n82 - 1)).Lent) - ((gt v85 0).Lent)))))))) (v140 : List LibRow) (hq141 : v140.length ≤ 60) (n137 : Nat) (hl144 : n137 = (v140).length) (hl145 : (n137 : Int) ≤ 9223372036854775807) (j : Nat) (l : Int) (hi163 : j ≤ v140.length ∧ lastR v140 (bestF v140) (bestL v140) j = l) (h171 : ((j : Int) < (n137 : Int)) ∧ (RowsOK v140 ∧ 0 < v140.length)) (hq172 : (j : Int) < (n137 : Int)) (hq173 : RowsOK v140 ∧ 0 < v140.length) (hq174 : RowsOK v140) (hq175 : v140.length ≤ 12) (hq184 : v140[j]? = some (gt v140 j)) (hq185 : ((1 : Int) ≤ (gt v140 j).Month ∧ (gt v140 j).Month ≤ 1200) ∧ ((0 : Int) ≤ (gt v140 j).Lent ∧ (gt v140 j).Lent ≤ 9999) ∧ ((0 : Int) ≤ (gt v140 j).Copied ∧ (gt v140 j).Copied ≤ 9999) ∧ ((0 : Int) ≤ (gt v140 j).Given ∧ (gt v140 j).Given ≤ 999) ∧ ((0 : Int) ≤ (gt v140 j).Fines ∧ (gt v140 j).Fines ≤ 99999)) (h188 : (((gt v140 j).Month) < (bestF v140)) ∨ ((bestL v140) < ((gt v140 j).Month))) : v140.length - (j + 1) < v140.length - j := by
  omega
theorem z_c_laws_FnTrends_201 (L : List UInt8) (nL : Nat) (hbdL : (nL : Int) ≤ 9223372036854775807) (hleL : nL = L.length) (h5 : ¬ (65536 < (L.length : Int))) (v12 : List LibRow) (hq13 : v12.length ≤ 60) (n9 : Nat) (hl16 : n9 = (v12).length) (hl17 : (n9 : Int) ≤ 9223372036854775807) (k : Nat) (a : Nat) (b : Nat) (hi36 : (k ≤ v12.length ∧ (0 < k → RowsOK v12 ∧ 0 < v12.length)) ∧ a = lessN v12 (medL v12) k ∧ b = moreN v12 (medL v12) k ∧ a ≤ k ∧ b ≤ k) (hq37 : a ≤ k ∧ b ≤ k) (h45 : ¬ (((k : Int) < (n9 : Int)) ∧ (RowsOK v12 ∧ 0 < v12.length))) (h71 : ¬ ((((n9 : Int) + 1) ≤ (2 * (a : Int))) ∨ ((n9 : Int) < (2 * (b : Int))))) (hq75 : ¬ (((n9 : Int) + 1) ≤ (2 * (a : Int)))) (hq76 : ¬ ((n9 : Int) < (2 * (b : Int)))) (v85 : List LibRow) (hq86 : v85.length ≤ 60) (n82 : Nat) (hl89 : n82 = (v85).length) (hl90 : (n82 : Int) ≤ 9223372036854775807) (hq95 : (-100000 ≤ groN v85 ∧ groN v85 ≤ 100000) ∧ (-100000 ≤ groD v85 ∧ groD v85 ≤ 100000)) (hq102 : (-100000 ≤ groN v85 ∧ groN v85 ≤ 100000) ∧ (-100000 ≤ groD v85 ∧ groD v85 ≤ 100000)) (h124 : ¬ ((RowsOK v85 ∧ 2 ≤ v85.length) ∧ (¬ ((IntKind.i64.wrap ((groN v85) * (((gt v85 (n82 - 1)).Month) - ((gt v85 0).Month)))) = (IntKind.i64.wrap ((groD v85) * (((gt v85 (n82 - 1)).Lent) - ((gt v85 0).Lent)))))))) (v140 : List LibRow) (hq141 : v140.length ≤ 60) (n137 : Nat) (hl144 : n137 = (v140).length) (hl145 : (n137 : Int) ≤ 9223372036854775807) (j : Nat) (l : Int) (hi163 : j ≤ v140.length ∧ lastR v140 (bestF v140) (bestL v140) j = l) (h171 : ((j : Int) < (n137 : Int)) ∧ (RowsOK v140 ∧ 0 < v140.length)) (hq172 : (j : Int) < (n137 : Int)) (hq173 : RowsOK v140 ∧ 0 < v140.length) (hq174 : RowsOK v140) (hq175 : v140.length ≤ 12) (hq184 : v140[j]? = some (gt v140 j)) (hq185 : ((1 : Int) ≤ (gt v140 j).Month ∧ (gt v140 j).Month ≤ 1200) ∧ ((0 : Int) ≤ (gt v140 j).Lent ∧ (gt v140 j).Lent ≤ 9999) ∧ ((0 : Int) ≤ (gt v140 j).Copied ∧ (gt v140 j).Copied ≤ 9999) ∧ ((0 : Int) ≤ (gt v140 j).Given ∧ (gt v140 j).Given ≤ 999) ∧ ((0 : Int) ≤ (gt v140 j).Fines ∧ (gt v140 j).Fines ≤ 99999)) (h188 : ¬ ((((gt v140 j).Month) < (bestF v140)) ∨ ((bestL v140) < ((gt v140 j).Month)))) (hq193 : ¬ (((gt v140 j).Month) < (bestF v140))) (hq194 : ¬ ((bestL v140) < ((gt v140 j).Month))) (hx198 : v140[j]? = some (gt v140 j)) (hq199 : ((1 : Int) ≤ (gt v140 j).Month ∧ (gt v140 j).Month ≤ 1200) ∧ ((0 : Int) ≤ (gt v140 j).Lent ∧ (gt v140 j).Lent ≤ 9999) ∧ ((0 : Int) ≤ (gt v140 j).Copied ∧ (gt v140 j).Copied ≤ 9999) ∧ ((0 : Int) ≤ (gt v140 j).Given ∧ (gt v140 j).Given ≤ 999) ∧ ((0 : Int) ≤ (gt v140 j).Fines ∧ (gt v140 j).Fines ≤ 99999)) (h200 : ((gt v140 j).Lent) < l) : false = true := by
  first | exact decide_eq_true rfl | (exfalso; have hh := ‹_ ∧ _ = lessN _ _ _ ∧ _›; rcases Nat.eq_zero_or_pos k with h0 | h0; omega; have h1 := hh.1.2 h0; have h3 := med_half h1 (Nat.le_antisymm hh.1.1 (Nat.le_of_not_lt fun q => ‹¬ (_ ∧ RowsOK _ ∧ _)› ⟨by omega, h1⟩)); omega) | (exfalso; exact ‹¬ IntKind.i64.wrap _ = IntKind.i64.wrap _› (congrArg _ (gro_law' ‹RowsOK _ ∧ 2 ≤ _› (by assumption)))) | (exfalso; have h1 := best_law ‹RowsOK _ ∧ 0 < _› (And.right ‹_ ∧ lastR _ _ _ _ = _›) ‹_[j]? = some _› ‹¬ (_ ∨ _)›; omega)
theorem z_c_laws_FnTrends_202 (L : List UInt8) (nL : Nat) (hbdL : (nL : Int) ≤ 9223372036854775807) (hleL : nL = L.length) (h5 : ¬ (65536 < (L.length : Int))) (v12 : List LibRow) (hq13 : v12.length ≤ 60) (n9 : Nat) (hl16 : n9 = (v12).length) (hl17 : (n9 : Int) ≤ 9223372036854775807) (k : Nat) (a : Nat) (b : Nat) (hi36 : (k ≤ v12.length ∧ (0 < k → RowsOK v12 ∧ 0 < v12.length)) ∧ a = lessN v12 (medL v12) k ∧ b = moreN v12 (medL v12) k ∧ a ≤ k ∧ b ≤ k) (hq37 : a ≤ k ∧ b ≤ k) (h45 : ¬ (((k : Int) < (n9 : Int)) ∧ (RowsOK v12 ∧ 0 < v12.length))) (h71 : ¬ ((((n9 : Int) + 1) ≤ (2 * (a : Int))) ∨ ((n9 : Int) < (2 * (b : Int))))) (hq75 : ¬ (((n9 : Int) + 1) ≤ (2 * (a : Int)))) (hq76 : ¬ ((n9 : Int) < (2 * (b : Int)))) (v85 : List LibRow) (hq86 : v85.length ≤ 60) (n82 : Nat) (hl89 : n82 = (v85).length) (hl90 : (n82 : Int) ≤ 9223372036854775807) (hq95 : (-100000 ≤ groN v85 ∧ groN v85 ≤ 100000) ∧ (-100000 ≤ groD v85 ∧ groD v85 ≤ 100000)) (hq102 : (-100000 ≤ groN v85 ∧ groN v85 ≤ 100000) ∧ (-100000 ≤ groD v85 ∧ groD v85 ≤ 100000)) (h124 : ¬ ((RowsOK v85 ∧ 2 ≤ v85.length) ∧ (¬ ((IntKind.i64.wrap ((groN v85) * (((gt v85 (n82 - 1)).Month) - ((gt v85 0).Month)))) = (IntKind.i64.wrap ((groD v85) * (((gt v85 (n82 - 1)).Lent) - ((gt v85 0).Lent)))))))) (v140 : List LibRow) (hq141 : v140.length ≤ 60) (n137 : Nat) (hl144 : n137 = (v140).length) (hl145 : (n137 : Int) ≤ 9223372036854775807) (j : Nat) (l : Int) (hi163 : j ≤ v140.length ∧ lastR v140 (bestF v140) (bestL v140) j = l) (h171 : ((j : Int) < (n137 : Int)) ∧ (RowsOK v140 ∧ 0 < v140.length)) (hq172 : (j : Int) < (n137 : Int)) (hq173 : RowsOK v140 ∧ 0 < v140.length) (hq174 : RowsOK v140) (hq175 : v140.length ≤ 12) (hq184 : v140[j]? = some (gt v140 j)) (hq185 : ((1 : Int) ≤ (gt v140 j).Month ∧ (gt v140 j).Month ≤ 1200) ∧ ((0 : Int) ≤ (gt v140 j).Lent ∧ (gt v140 j).Lent ≤ 9999) ∧ ((0 : Int) ≤ (gt v140 j).Copied ∧ (gt v140 j).Copied ≤ 9999) ∧ ((0 : Int) ≤ (gt v140 j).Given ∧ (gt v140 j).Given ≤ 999) ∧ ((0 : Int) ≤ (gt v140 j).Fines ∧ (gt v140 j).Fines ≤ 99999)) (h188 : ¬ ((((gt v140 j).Month) < (bestF v140)) ∨ ((bestL v140) < ((gt v140 j).Month)))) (hq193 : ¬ (((gt v140 j).Month) < (bestF v140))) (hq194 : ¬ ((bestL v140) < ((gt v140 j).Month))) (hx198 : v140[j]? = some (gt v140 j)) (hq199 : ((1 : Int) ≤ (gt v140 j).Month ∧ (gt v140 j).Month ≤ 1200) ∧ ((0 : Int) ≤ (gt v140 j).Lent ∧ (gt v140 j).Lent ≤ 9999) ∧ ((0 : Int) ≤ (gt v140 j).Copied ∧ (gt v140 j).Copied ≤ 9999) ∧ ((0 : Int) ≤ (gt v140 j).Given ∧ (gt v140 j).Given ≤ 999) ∧ ((0 : Int) ≤ (gt v140 j).Fines ∧ (gt v140 j).Fines ≤ 99999)) (h200 : ¬ (((gt v140 j).Lent) < l)) : j + 1 ≤ v140.length ∧ lastR v140 (bestF v140) (bestL v140) (j + 1) = (gt v140 j).Lent := by
  have hh := ‹_ ∧ lastR _ _ _ _ = _›
  first | exact ⟨by omega, (lastR_out ‹_[j]? = some _› ‹_ < bestF _ ∨ _›).trans hh.2⟩ | exact ⟨by omega, lastR_in ‹_[j]? = some _› ‹¬ (_ < bestF _ ∨ _)›⟩
theorem z_c_laws_FnTrends_203 (L : List UInt8) (nL : Nat) (hbdL : (nL : Int) ≤ 9223372036854775807) (hleL : nL = L.length) (h5 : ¬ (65536 < (L.length : Int))) (v12 : List LibRow) (hq13 : v12.length ≤ 60) (n9 : Nat) (hl16 : n9 = (v12).length) (hl17 : (n9 : Int) ≤ 9223372036854775807) (k : Nat) (a : Nat) (b : Nat) (hi36 : (k ≤ v12.length ∧ (0 < k → RowsOK v12 ∧ 0 < v12.length)) ∧ a = lessN v12 (medL v12) k ∧ b = moreN v12 (medL v12) k ∧ a ≤ k ∧ b ≤ k) (hq37 : a ≤ k ∧ b ≤ k) (h45 : ¬ (((k : Int) < (n9 : Int)) ∧ (RowsOK v12 ∧ 0 < v12.length))) (h71 : ¬ ((((n9 : Int) + 1) ≤ (2 * (a : Int))) ∨ ((n9 : Int) < (2 * (b : Int))))) (hq75 : ¬ (((n9 : Int) + 1) ≤ (2 * (a : Int)))) (hq76 : ¬ ((n9 : Int) < (2 * (b : Int)))) (v85 : List LibRow) (hq86 : v85.length ≤ 60) (n82 : Nat) (hl89 : n82 = (v85).length) (hl90 : (n82 : Int) ≤ 9223372036854775807) (hq95 : (-100000 ≤ groN v85 ∧ groN v85 ≤ 100000) ∧ (-100000 ≤ groD v85 ∧ groD v85 ≤ 100000)) (hq102 : (-100000 ≤ groN v85 ∧ groN v85 ≤ 100000) ∧ (-100000 ≤ groD v85 ∧ groD v85 ≤ 100000)) (h124 : ¬ ((RowsOK v85 ∧ 2 ≤ v85.length) ∧ (¬ ((IntKind.i64.wrap ((groN v85) * (((gt v85 (n82 - 1)).Month) - ((gt v85 0).Month)))) = (IntKind.i64.wrap ((groD v85) * (((gt v85 (n82 - 1)).Lent) - ((gt v85 0).Lent)))))))) (v140 : List LibRow) (hq141 : v140.length ≤ 60) (n137 : Nat) (hl144 : n137 = (v140).length) (hl145 : (n137 : Int) ≤ 9223372036854775807) (j : Nat) (l : Int) (hi163 : j ≤ v140.length ∧ lastR v140 (bestF v140) (bestL v140) j = l) (h171 : ((j : Int) < (n137 : Int)) ∧ (RowsOK v140 ∧ 0 < v140.length)) (hq172 : (j : Int) < (n137 : Int)) (hq173 : RowsOK v140 ∧ 0 < v140.length) (hq174 : RowsOK v140) (hq175 : v140.length ≤ 12) (hq184 : v140[j]? = some (gt v140 j)) (hq185 : ((1 : Int) ≤ (gt v140 j).Month ∧ (gt v140 j).Month ≤ 1200) ∧ ((0 : Int) ≤ (gt v140 j).Lent ∧ (gt v140 j).Lent ≤ 9999) ∧ ((0 : Int) ≤ (gt v140 j).Copied ∧ (gt v140 j).Copied ≤ 9999) ∧ ((0 : Int) ≤ (gt v140 j).Given ∧ (gt v140 j).Given ≤ 999) ∧ ((0 : Int) ≤ (gt v140 j).Fines ∧ (gt v140 j).Fines ≤ 99999)) (h188 : ¬ ((((gt v140 j).Month) < (bestF v140)) ∨ ((bestL v140) < ((gt v140 j).Month)))) (hq193 : ¬ (((gt v140 j).Month) < (bestF v140))) (hq194 : ¬ ((bestL v140) < ((gt v140 j).Month))) (hx198 : v140[j]? = some (gt v140 j)) (hq199 : ((1 : Int) ≤ (gt v140 j).Month ∧ (gt v140 j).Month ≤ 1200) ∧ ((0 : Int) ≤ (gt v140 j).Lent ∧ (gt v140 j).Lent ≤ 9999) ∧ ((0 : Int) ≤ (gt v140 j).Copied ∧ (gt v140 j).Copied ≤ 9999) ∧ ((0 : Int) ≤ (gt v140 j).Given ∧ (gt v140 j).Given ≤ 999) ∧ ((0 : Int) ≤ (gt v140 j).Fines ∧ (gt v140 j).Fines ≤ 99999)) (h200 : ¬ (((gt v140 j).Lent) < l)) : v140.length - (j + 1) < v140.length - j := by
  omega
theorem z_c_laws_FnTrends_241 (L : List UInt8) (nL : Nat) (hbdL : (nL : Int) ≤ 9223372036854775807) (hleL : nL = L.length) (h5 : ¬ (65536 < (L.length : Int))) (v12 : List LibRow) (hq13 : v12.length ≤ 60) (n9 : Nat) (hl16 : n9 = (v12).length) (hl17 : (n9 : Int) ≤ 9223372036854775807) (k : Nat) (a : Nat) (b : Nat) (hi36 : (k ≤ v12.length ∧ (0 < k → RowsOK v12 ∧ 0 < v12.length)) ∧ a = lessN v12 (medL v12) k ∧ b = moreN v12 (medL v12) k ∧ a ≤ k ∧ b ≤ k) (hq37 : a ≤ k ∧ b ≤ k) (h45 : ¬ (((k : Int) < (n9 : Int)) ∧ (RowsOK v12 ∧ 0 < v12.length))) (h71 : ¬ ((((n9 : Int) + 1) ≤ (2 * (a : Int))) ∨ ((n9 : Int) < (2 * (b : Int))))) (hq75 : ¬ (((n9 : Int) + 1) ≤ (2 * (a : Int)))) (hq76 : ¬ ((n9 : Int) < (2 * (b : Int)))) (v85 : List LibRow) (hq86 : v85.length ≤ 60) (n82 : Nat) (hl89 : n82 = (v85).length) (hl90 : (n82 : Int) ≤ 9223372036854775807) (hq95 : (-100000 ≤ groN v85 ∧ groN v85 ≤ 100000) ∧ (-100000 ≤ groD v85 ∧ groD v85 ≤ 100000)) (hq102 : (-100000 ≤ groN v85 ∧ groN v85 ≤ 100000) ∧ (-100000 ≤ groD v85 ∧ groD v85 ≤ 100000)) (h124 : ¬ ((RowsOK v85 ∧ 2 ≤ v85.length) ∧ (¬ ((IntKind.i64.wrap ((groN v85) * (((gt v85 (n82 - 1)).Month) - ((gt v85 0).Month)))) = (IntKind.i64.wrap ((groD v85) * (((gt v85 (n82 - 1)).Lent) - ((gt v85 0).Lent)))))))) (v140 : List LibRow) (hq141 : v140.length ≤ 60) (n137 : Nat) (hl144 : n137 = (v140).length) (hl145 : (n137 : Int) ≤ 9223372036854775807) (j : Nat) (l : Int) (hi163 : j ≤ v140.length ∧ lastR v140 (bestF v140) (bestL v140) j = l) (h171 : ¬ (((j : Int) < (n137 : Int)) ∧ (RowsOK v140 ∧ 0 < v140.length))) (n217 : Nat) (hl222 : n217 = (totL v12).length) (hl223 : (n217 : Int) ≤ 9223372036854775807) (hq224 : (totL v12).length ≤ 4) (n229 : Nat) (hl234 : n229 = (totL v12).length) (hl235 : (n229 : Int) ≤ 9223372036854775807) (hq236 : (totL v12).length ≤ 4) : decide ((totL v12) = (totL v12)) = true := by
  first | exact decide_eq_true rfl | (exfalso; have hh := ‹_ ∧ _ = lessN _ _ _ ∧ _›; rcases Nat.eq_zero_or_pos k with h0 | h0; omega; have h1 := hh.1.2 h0; have h3 := med_half h1 (Nat.le_antisymm hh.1.1 (Nat.le_of_not_lt fun q => ‹¬ (_ ∧ RowsOK _ ∧ _)› ⟨by omega, h1⟩)); omega) | (exfalso; exact ‹¬ IntKind.i64.wrap _ = IntKind.i64.wrap _› (congrArg _ (gro_law' ‹RowsOK _ ∧ 2 ≤ _› (by assumption)))) | (exfalso; have h1 := best_law ‹RowsOK _ ∧ 0 < _› (And.right ‹_ ∧ lastR _ _ _ _ = _›) ‹_[j]? = some _› ‹¬ (_ ∨ _)›; omega)
theorem c_laws_FnTrends (w : World) {AL : Option Addr} {nL cL BL : Nat}  (L : List UInt8) (hL : SlR w BL encB 1 AL nL cL L) : Calls Try.prog 3 #[.slice AL nL cL] w fun e w' => e = .returned (.bool true) ∧ Lo w w' := by
  refine calls_W 259 Try.func3 rfl rfl rfl ?_
  have hbdL := hL.bound
  have hleL := hL.len
  have hBbL := hL.bd
  refine W.seq ?_
  refine W.regS (SR.q' (r_as (v := .bool false) rfl) <| SR.nil ?_)
  refine W.seq ?_
  refine W.seq ?_
  refine W.regS (SR.q' (r_mv (v := .slice _ _ _) rfl) <| SR.call ent4 (c_laws_rBig w L ((hL))) rfl ?_)
  rintro e w1 ⟨rfl, hk2⟩
  refine ⟨_, rfl, ?_⟩
  have hz3 := hk2.size
  have hB4 := (Lo.refl w).lo hk2
  refine SR.nil ?_
  refine W.cond_d rfl (fun h5 => ?_) (fun h5 => ?_)
  · refine W.seq ?_
    refine W.regS (SR.q' (r_as (v := .bool true) rfl) <| SR.nil ?_)
    refine W.ret ?_
    refine ret1 rfl (v := .bool _) rfl ?_
    exact ⟨eR rfl, hB4⟩
  · refine W.skip ?_
    refine W.seq ?_
    refine W.regS (SR.q' (r_mv (v := .slice _ _ _) rfl) <| SR.call ent5 (c_spec_DrawMedianLent w1 L (((hL).lo hk2)) (by omega)) rfl ?_)
    rintro e w6 ⟨A8, n9, c10, v12, rfl, hO11, hq13, hk7⟩
    refine ⟨_, rfl, ?_⟩
    have hz14 := hk7.size
    have hB15 := hB4.lo hk7
    have hl16 := hO11.len
    have hl17 := hO11.rd.bound
    refine SR.q' (r_as (v := .slice _ _ _) rfl) <| SR.nil ?_
    refine W.seq ?_
    have hm18 := ((hL).lo hk2).lo hk7
    refine W.regS (SR.q' (r_mv (v := .slice _ _ _) rfl) <| SR.call ent6 (c_impl_MedianLent w6 v12 (((hO11).rd))) rfl ?_)
    rintro e w19 ⟨rfl, hk20⟩
    refine ⟨_, rfl, ?_⟩
    have hz21 := hk20.size
    have hB22 := hB15.lo hk20
    refine SR.q' (r_mv (v := .tuple (List.toArray _)) rfl) <| SR.q' (r_ext (v := .int .i64 _) rfl rfl) <| SR.q' (r_ext (v := .bool _) rfl rfl) <| SR.q' (r_as (v := .int .i64 _) rfl) <| SR.q' (r_as (v := .bool _) rfl) <| SR.nil ?_
    refine W.seq ?_
    refine W.seq ?_
    refine W.regS (SR.q' (r_mv (v := .slice _ _ _) rfl) <| SR.call ent7 (c_spec_MedianLent w19 v12 ((((hO11).lo hk20).rd))) rfl ?_)
    rintro e w23 ⟨rfl, hk24⟩
    refine ⟨_, rfl, ?_⟩
    have hz25 := hk24.size
    have hB26 := hB22.lo hk24
    refine SR.q' (r_mv (v := .tuple (List.toArray _)) rfl) <| SR.q' (r_ext (v := .int .i64 _) rfl rfl) <| SR.q' (r_ext (v := .bool _) rfl rfl) <| SR.q' (r_as (v := .int .i64 _) rfl) <| SR.q' (r_as (v := .bool _) rfl) <| SR.nil ?_
    refine W.seq ?_
    have hm27 := ((hm18).lo hk20).lo hk24
    have hm28 := ((hO11).lo hk20).lo hk24
    refine W.regS (SR.q' (r_mv (v := .int .i64 _) rfl) <| SR.q' (r_mv (v := .int .i64 _) rfl) <| SR.q' (r_ne_s rfl rfl) <| SR.q' (r_mv (v := .bool _) rfl) <| SR.g' rfl (r_mv (v := .bool _) rfl) <| SR.g' rfl (r_mv (v := .bool _) rfl) <| SR.g' rfl (r_neb_s und4 rfl rfl) <| SR.q' (r_pick false rfl (v := .bool _) rfl) <| SR.nil ?_)
    refine W.cond_f rfl ?_
    refine W.skip ?_
    refine W.seq ?_
    refine W.regS (SR.q' (r_as (v := .int .i64 0) rfl) <| SR.q' (r_as (v := .int .i64 0) rfl) <| SR.nil ?_)
    refine W.seq ?_
    refine W.seq ?_
    refine W.regS (SR.q' (r_as (v := .int .i64 0) rfl) <| SR.nil ?_)
    refine W.block ?_
    refine W.loop (σ := Nat × Nat × Nat) (fun g => [(0, .slice AL nL cL), (2, .bool false), (3, .slice A8 n9 c10), (4, .int .i64 (medL v12)), (5, .bool (decide (RowsOK v12 ∧ 0 < v12.length))), (8, .int .i64 (g.2.1 : Int)), (9, .int .i64 (g.2.2 : Int)), (10, .int .i64 (g.1 : Int))]) (fun g w' => (Lo w w') ∧ (SlR w' BL encB 1 AL nL cL L) ∧ (SlO w' w1.heap.size encLibRow 5 29 A8 n9 c10 v12) ∧ ((g.1 ≤ v12.length ∧ (0 < g.1 → RowsOK v12 ∧ 0 < v12.length)) ∧ g.2.1 = lessN v12 (medL v12) g.1 ∧ g.2.2 = moreN v12 (medL v12) g.1 ∧ g.2.1 ≤ g.1 ∧ g.2.2 ≤ g.1)) (fun g => v12.length - g.1) (0, 0, 0) ?_ ?_ ?_
    · exact ⟨rfl, rfl, rfl, rfl, rfl, (eI (by first | omega | (dsimp only; omega))), (eI (by first | omega | (dsimp only; omega))), (eI (by first | omega | (dsimp only; omega))), trivial⟩
    · exact ⟨hB26, hm27, hm28, (z_c_laws_FnTrends_29 L nL hbdL hleL h5 v12 hq13 n9 hl16 hl17)⟩
    · rintro ⟨k, a, b⟩ f30 w31 hP33
      obtain ⟨hB32, hm34, hm35, hi36⟩ : (Lo w w31) ∧ (SlR w31 BL encB 1 AL nL cL L) ∧ (SlO w31 w1.heap.size encLibRow 5 29 A8 n9 c10 v12) ∧ ((k ≤ v12.length ∧ (0 < k → RowsOK v12 ∧ 0 < v12.length)) ∧ a = lessN v12 (medL v12) k ∧ b = moreN v12 (medL v12) k ∧ a ≤ k ∧ b ≤ k) := hP33
      refine (?_ : W _ _ _ _ _ (act _ (sets f30 [(0, .slice AL nL cL), (2, .bool false), (3, .slice A8 n9 c10), (4, .int .i64 (medL v12)), (5, .bool (decide (RowsOK v12 ∧ 0 < v12.length))), (8, .int .i64 (a : Int)), (9, .int .i64 (b : Int)), (10, .int .i64 (k : Int))])) _)
      have hzw31 := hB32.size
      have hq37 : a ≤ k ∧ b ≤ k := hi36.2.2.2
      refine W.seq ?_
      refine W.seq ?_
      refine W.regJS (fun f' w' => At f' [(0, .slice AL nL cL), (2, .bool false), (3, .slice A8 n9 c10), (4, .int .i64 (medL v12)), (5, .bool (decide (RowsOK v12 ∧ 0 < v12.length))), (8, .int .i64 (a : Int)), (9, .int .i64 (b : Int)), (10, .int .i64 (k : Int)), (64, .bool (decide (((k : Int) < (n9 : Int)) ∧ (RowsOK v12 ∧ 0 < v12.length))))] ∧ Lo w31 w') ?_ ?_
      · refine SR.q' (r_mv (v := .int .i64 _) rfl) <| SR.q' (r_mv (v := .slice _ _ _) rfl) <| SR.q' (r_len und24 rfl) <| SR.q' (r_lt rfl rfl) <| SR.q' (r_mv (v := .bool _) rfl) <| SR.splitD (fun h38 => ?_) (fun h38 => ?_)
        · refine SR.g' rfl (r_mv (v := .bool _) rfl) <| SR.q' (r_pick true rfl (v := .bool _) rfl) <| SR.nil ?_
          exact ⟨_, rfl, ⟨⟨rfl, rfl, rfl, rfl, rfl, rfl, rfl, rfl, (eDD (jat h38)), trivial⟩, (Lo.refl _)⟩⟩
        · refine SR.s' rfl <| SR.q' (r_pick false rfl (v := .bool false) rfl) <| SR.nil ?_
          exact ⟨_, rfl, ⟨⟨rfl, rfl, rfl, rfl, rfl, rfl, rfl, rfl, (eDF (jaf h38).2), trivial⟩, (Lo.refl _)⟩⟩
      rintro f39 w40 ⟨hat41, hk42⟩
      rw [← sets_of_at hat41]
      have hz43 := hk42.size
      have hB44 := hB32.lo hk42
      refine W.cond_d rfl (fun h45 => ?_) (fun h45 => ?_)
      · have hq46 : (k : Int) < (n9 : Int) := h45.1
        have hq47 : RowsOK v12 ∧ 0 < v12.length := h45.2
        have hq48 := And.left hq47
        have hq49 := rows_len hq48
        refine W.skip ?_
        refine W.seq ?_
        refine W.block ?_
        refine W.seq ?_
        refine W.seq ?_
        refine W.regS (SR.q' (r_mv (v := .slice _ _ _) rfl) <| SR.q' (r_mv (v := .int .i64 _) rfl) <| ?_)
        have hx51 := (((hm35).lo hk42).rd).elem (i := k) (by omega)
        have hq52 := rows_rng hq48 hx51
        refine SR.q' (r_ixR tsl24 (((hm35).lo hk42).rd) rfl rfl (by omega)) <| SR.q' (r_fa fa29_1 rfl) <| SR.q' (r_ld (v := .int .i64 ((gt v12 k).Lent)) sca3 rfl ((((hm35).lo hk42).rd).cell hx51 rfl)) <| SR.q' (r_mv (v := .int .i64 _) rfl) <| SR.q' (r_lt rfl rfl) <| SR.nil ?_
        refine W.cond_d rfl (fun h53 => ?_) (fun h53 => ?_)
        · refine W.regS (SR.q' (r_mv (v := .int .i64 _) rfl) <| SR.q' (r_add rfl rfl (by omega)) <| SR.q' (r_as (v := .int .i64 _) rfl) <| SR.nil ?_)
          refine W.seq ?_
          refine W.regS (SR.q' (r_mv (v := .slice _ _ _) rfl) <| SR.q' (r_mv (v := .int .i64 _) rfl) <| SR.q' (r_ixR tsl24 (((hm35).lo hk42).rd) rfl rfl (by omega)) <| SR.q' (r_fa fa29_1 rfl) <| SR.q' (r_ld (v := .int .i64 ((gt v12 k).Lent)) sca3 rfl ((((hm35).lo hk42).rd).cell hx51 rfl)) <| SR.q' (r_mv (v := .int .i64 _) rfl) <| SR.q' (r_gt rfl rfl) <| SR.nil ?_)
          refine W.cond_d rfl (fun h54 => ?_) (fun h54 => ?_)
          · refine W.regS (SR.q' (r_mv (v := .int .i64 _) rfl) <| SR.q' (r_add rfl rfl (by omega)) <| SR.q' (r_as (v := .int .i64 _) rfl) <| SR.nil ?_)
            refine W.regS (SR.q' (r_mv (v := .int .i64 _) rfl) <| SR.q' (r_add rfl rfl (by omega)) <| SR.q' (r_as (v := .int .i64 _) rfl) <| SR.nil ?_)
            refine ⟨(k + 1, (a + 1), (b + 1)), _, rfl, ⟨rfl, rfl, rfl, rfl, rfl, (eI (by first | omega | (dsimp only; omega))), (eI (by first | omega | (dsimp only; omega))), (eI (by first | omega | (dsimp only; omega))), trivial⟩, ⟨hB44, (hm34).lo hk42, (hm35).lo hk42, ?_⟩, ?_⟩
            · exact (z_c_laws_FnTrends_55 L nL hbdL hleL h5 v12 hq13 n9 hl16 hl17 k a b hi36 hq37 h45 hq46 hq47 hq48 hq49 hx51 hq52 h53 h54)
            · exact (z_c_laws_FnTrends_56 L nL hbdL hleL h5 v12 hq13 n9 hl16 hl17 k a b hi36 hq37 h45 hq46 hq47 hq48 hq49 hx51 hq52 h53 h54)
          · refine W.skip ?_
            refine W.regS (SR.q' (r_mv (v := .int .i64 _) rfl) <| SR.q' (r_add rfl rfl (by omega)) <| SR.q' (r_as (v := .int .i64 _) rfl) <| SR.nil ?_)
            refine ⟨(k + 1, (a + 1), b), _, rfl, ⟨rfl, rfl, rfl, rfl, rfl, (eI (by first | omega | (dsimp only; omega))), rfl, (eI (by first | omega | (dsimp only; omega))), trivial⟩, ⟨hB44, (hm34).lo hk42, (hm35).lo hk42, ?_⟩, ?_⟩
            · exact (z_c_laws_FnTrends_57 L nL hbdL hleL h5 v12 hq13 n9 hl16 hl17 k a b hi36 hq37 h45 hq46 hq47 hq48 hq49 hx51 hq52 h53 h54)
            · exact (z_c_laws_FnTrends_58 L nL hbdL hleL h5 v12 hq13 n9 hl16 hl17 k a b hi36 hq37 h45 hq46 hq47 hq48 hq49 hx51 hq52 h53 h54)
        · refine W.skip ?_
          refine W.seq ?_
          refine W.regS (SR.q' (r_mv (v := .slice _ _ _) rfl) <| SR.q' (r_mv (v := .int .i64 _) rfl) <| SR.q' (r_ixR tsl24 (((hm35).lo hk42).rd) rfl rfl (by omega)) <| SR.q' (r_fa fa29_1 rfl) <| SR.q' (r_ld (v := .int .i64 ((gt v12 k).Lent)) sca3 rfl ((((hm35).lo hk42).rd).cell hx51 rfl)) <| SR.q' (r_mv (v := .int .i64 _) rfl) <| SR.q' (r_gt rfl rfl) <| SR.nil ?_)
          refine W.cond_d rfl (fun h59 => ?_) (fun h59 => ?_)
          · refine W.regS (SR.q' (r_mv (v := .int .i64 _) rfl) <| SR.q' (r_add rfl rfl (by omega)) <| SR.q' (r_as (v := .int .i64 _) rfl) <| SR.nil ?_)
            refine W.regS (SR.q' (r_mv (v := .int .i64 _) rfl) <| SR.q' (r_add rfl rfl (by omega)) <| SR.q' (r_as (v := .int .i64 _) rfl) <| SR.nil ?_)
            refine ⟨(k + 1, a, (b + 1)), _, rfl, ⟨rfl, rfl, rfl, rfl, rfl, rfl, (eI (by first | omega | (dsimp only; omega))), (eI (by first | omega | (dsimp only; omega))), trivial⟩, ⟨hB44, (hm34).lo hk42, (hm35).lo hk42, ?_⟩, ?_⟩
            · exact (z_c_laws_FnTrends_60 L nL hbdL hleL h5 v12 hq13 n9 hl16 hl17 k a b hi36 hq37 h45 hq46 hq47 hq48 hq49 hx51 hq52 h53 h59)
            · exact (z_c_laws_FnTrends_61 L nL hbdL hleL h5 v12 hq13 n9 hl16 hl17 k a b hi36 hq37 h45 hq46 hq47 hq48 hq49 hx51 hq52 h53 h59)
          · refine W.skip ?_
            refine W.regS (SR.q' (r_mv (v := .int .i64 _) rfl) <| SR.q' (r_add rfl rfl (by omega)) <| SR.q' (r_as (v := .int .i64 _) rfl) <| SR.nil ?_)
            refine ⟨(k + 1, a, b), _, rfl, ⟨rfl, rfl, rfl, rfl, rfl, rfl, rfl, (eI (by first | omega | (dsimp only; omega))), trivial⟩, ⟨hB44, (hm34).lo hk42, (hm35).lo hk42, ?_⟩, ?_⟩
            · exact (z_c_laws_FnTrends_62 L nL hbdL hleL h5 v12 hq13 n9 hl16 hl17 k a b hi36 hq37 h45 hq46 hq47 hq48 hq49 hx51 hq52 h53 h59)
            · exact (z_c_laws_FnTrends_63 L nL hbdL hleL h5 v12 hq13 n9 hl16 hl17 k a b hi36 hq37 h45 hq46 hq47 hq48 hq49 hx51 hq52 h53 h59)
      · refine W.exit (xin_here ?_)
        refine W.seq ?_
        refine W.seq ?_
        refine W.regJS (fun f' w' => At f' [(0, .slice AL nL cL), (2, .bool false), (3, .slice A8 n9 c10), (97, .bool (decide ((((n9 : Int) + 1) ≤ (2 * (a : Int))) ∨ ((n9 : Int) < (2 * (b : Int))))))] ∧ Lo w40 w') ?_ ?_
        · refine SR.q' (r_mv (v := .int .i64 _) rfl) <| SR.q' (r_mul rfl rfl (by omega)) <| SR.q' (r_mv (v := .slice _ _ _) rfl) <| SR.q' (r_len und24 rfl) <| SR.q' (r_add rfl rfl (by omega)) <| SR.q' (r_ge rfl rfl) <| SR.q' (r_mv (v := .bool _) rfl) <| SR.splitD (fun h64 => ?_) (fun h64 => ?_)
          · refine SR.s' rfl <| SR.s' rfl <| SR.s' rfl <| SR.s' rfl <| SR.s' rfl <| SR.q' (r_pick true rfl (v := .bool true) rfl) <| SR.nil ?_
            exact ⟨_, rfl, ⟨⟨rfl, rfl, rfl, (eDT ((jot h64).1 trivial)), trivial⟩, (Lo.refl _)⟩⟩
          · refine SR.g' rfl (r_mv (v := .int .i64 _) rfl) <| SR.g' rfl (r_mul rfl rfl (by omega)) <| SR.g' rfl (r_mv (v := .slice _ _ _) rfl) <| SR.g' rfl (r_len und24 rfl) <| SR.g' rfl (r_gt rfl rfl) <| SR.q' (r_pick false rfl (v := .bool _) rfl) <| SR.nil ?_
            exact ⟨_, rfl, ⟨⟨rfl, rfl, rfl, (eDD (jof h64)), trivial⟩, (Lo.refl _)⟩⟩
        rintro f65 w66 ⟨hat67, hk68⟩
        rw [← sets_of_at hat67]
        have hz69 := hk68.size
        have hB70 := hB44.lo hk68
        refine W.cond_d rfl (fun h71 => ?_) (fun h71 => ?_)
        · refine W.seq ?_
          have hm72 := ((hm34).lo hk42).lo hk68
          have hm73 := ((hm35).lo hk42).lo hk68
          refine W.regS (SR.q' (r_as (v := .bool false) rfl) <| SR.nil ?_)
          refine W.ret ?_
          refine ret1 rfl (v := .bool _) rfl ?_
          exact ⟨eR (eB (z_c_laws_FnTrends_74 L nL hbdL hleL h5 v12 hq13 n9 hl16 hl17 k a b hi36 hq37 h45 h71)), hB70⟩
        · have hq75 : ¬ (((n9 : Int) + 1) ≤ (2 * (a : Int))) := (not_or.1 h71).1
          have hq76 : ¬ ((n9 : Int) < (2 * (b : Int))) := (not_or.1 h71).2
          refine W.skip ?_
          refine W.seq ?_
          have hm77 := ((hm34).lo hk42).lo hk68
          have hm78 := ((hm35).lo hk42).lo hk68
          refine W.regS (SR.q' (r_mv (v := .slice _ _ _) rfl) <| SR.call ent8 (c_spec_DrawGrowthOf w66 L ((hm77)) (by omega)) rfl ?_)
          rintro e w79 ⟨A81, n82, c83, v85, rfl, hO84, hq86, hk80⟩
          refine ⟨_, rfl, ?_⟩
          have hz87 := hk80.size
          have hB88 := hB70.lo hk80
          have hl89 := hO84.len
          have hl90 := hO84.rd.bound
          refine SR.q' (r_as (v := .slice _ _ _) rfl) <| SR.nil ?_
          refine W.seq ?_
          refine W.regS (SR.q' (r_mv (v := .slice _ _ _) rfl) <| SR.call ent9 (c_impl_GrowthOf w79 v85 (((hO84).rd))) rfl ?_)
          rintro e w91 ⟨rfl, hk92⟩
          refine ⟨_, rfl, ?_⟩
          have hz93 := hk92.size
          have hB94 := hB88.lo hk92
          have hq95 : (-100000 ≤ groN v85 ∧ groN v85 ≤ 100000) ∧ (-100000 ≤ groD v85 ∧ groD v85 ≤ 100000) := gro_rng v85
          refine SR.q' (r_mv (v := .tuple (List.toArray _)) rfl) <| SR.q' (r_ext (v := .int .i64 _) rfl rfl) <| SR.q' (r_ext (v := .int .i64 _) rfl rfl) <| SR.q' (r_ext (v := .bool _) rfl rfl) <| SR.q' (r_as (v := .int .i64 _) rfl) <| SR.q' (r_as (v := .int .i64 _) rfl) <| SR.q' (r_as (v := .bool _) rfl) <| SR.nil ?_
          refine W.seq ?_
          refine W.seq ?_
          have hm96 := ((hm77).lo hk80).lo hk92
          have hm97 := ((hm78).lo hk80).lo hk92
          refine W.regS (SR.q' (r_mv (v := .slice _ _ _) rfl) <| SR.call ent10 (c_spec_GrowthOf w91 v85 ((((hO84).lo hk92).rd))) rfl ?_)
          rintro e w98 ⟨rfl, hk99⟩
          refine ⟨_, rfl, ?_⟩
          have hz100 := hk99.size
          have hB101 := hB94.lo hk99
          have hq102 : (-100000 ≤ groN v85 ∧ groN v85 ≤ 100000) ∧ (-100000 ≤ groD v85 ∧ groD v85 ≤ 100000) := gro_rng v85
          refine SR.q' (r_mv (v := .tuple (List.toArray _)) rfl) <| SR.q' (r_ext (v := .int .i64 _) rfl rfl) <| SR.q' (r_ext (v := .int .i64 _) rfl rfl) <| SR.q' (r_ext (v := .bool _) rfl rfl) <| SR.q' (r_as (v := .int .i64 _) rfl) <| SR.q' (r_as (v := .int .i64 _) rfl) <| SR.q' (r_as (v := .bool _) rfl) <| SR.nil ?_
          refine W.seq ?_
          have hm103 := ((hO84).lo hk92).lo hk99
          refine W.regS (SR.q' (r_mv (v := .int .i64 _) rfl) <| SR.q' (r_mv (v := .int .i64 _) rfl) <| SR.q' (r_ne_s rfl rfl) <| SR.q' (r_mv (v := .bool _) rfl) <| SR.g' rfl (r_mv (v := .int .i64 _) rfl) <| SR.g' rfl (r_mv (v := .int .i64 _) rfl) <| SR.g' rfl (r_ne_s rfl rfl) <| SR.q' (r_pick false rfl (v := .bool _) rfl) <| SR.q' (r_mv (v := .bool _) rfl) <| SR.g' rfl (r_mv (v := .bool _) rfl) <| SR.g' rfl (r_mv (v := .bool _) rfl) <| SR.g' rfl (r_neb_s und4 rfl rfl) <| SR.q' (r_pick false rfl (v := .bool _) rfl) <| SR.nil ?_)
          refine W.cond_f rfl ?_
          refine W.skip ?_
          refine W.seq ?_
          refine W.seq ?_
          refine W.regS (SR.q' (r_mv (v := .slice _ _ _) rfl) <| SR.q' (r_len und24 rfl) <| SR.q' (r_as (v := .int .i64 _) rfl) <| SR.nil ?_)
          refine W.seq ?_
          refine W.regJD mo (by kernel_rfl) (fun f' w' => At f' [(0, .slice AL nL cL), (2, .bool false), (3, .slice A8 n9 c10), (156, .bool (decide ((RowsOK v85 ∧ 2 ≤ v85.length) ∧ (¬ ((IntKind.i64.wrap ((groN v85) * (((gt v85 (n82 - 1)).Month) - ((gt v85 0).Month)))) = (IntKind.i64.wrap ((groD v85) * (((gt v85 (n82 - 1)).Lent) - ((gt v85 0).Lent)))))))))] ∧ Lo w98 w') ?_ ?_
          · refine QR.q' (fun w' hw' => r_mv (v := .bool _) rfl) <| QR.q' (fun w' hw' => r_mv (v := .bool _) rfl) <| QR.splitD (fun h104 => ?_) (fun h104 => ?_)
            · have hq105 := And.left h104
              have hq106 := rows_len hq105
              refine QR.g' rfl (fun w' hw' => r_mv (v := .int .i64 _) rfl) <| QR.g' rfl (fun w' hw' => r_mv (v := .slice _ _ _) rfl) <| QR.g' rfl (fun w' hw' => r_mv (v := .int .i64 _) rfl) <| QR.g' rfl (fun w' hw' => r_sub rfl rfl (by omega)) <| ?_
              have hx108 := ((hm103).rd).elem (i := ((n82 : Int) - 1).toNat) (by omega)
              rw [show ((n82 : Int) - 1).toNat = n82 - 1 from by omega] at hx108
              have hq109 := rows_rng hq105 hx108
              have hx110 : v85[((n82 : Int) - 1).toNat]? = some (gt v85 (n82 - 1)) := (show ((n82 : Int) - 1).toNat = n82 - 1 from by omega) ▸ hx108
              refine QR.g' rfl (fun w' hw' => r_ixR tsl24 (((hm103).lo hw').rd) rfl rfl (by omega)) <| QR.g' rfl (fun w' hw' => r_fa fa29_0 rfl) <| QR.g' rfl (fun w' hw' => r_ld (v := .int .i64 ((gt v85 (n82 - 1)).Month)) sca3 rfl ((((hm103).lo hw').rd).cell hx110 rfl)) <| QR.g' rfl (fun w' hw' => r_mv (v := .slice _ _ _) rfl) <| ?_
              have hx112 := ((hm103).rd).elem (i := 0) (by omega)
              have hq113 := rows_rng hq105 hx112
              refine QR.g' rfl (fun w' hw' => r_ixR tsl24 (((hm103).lo hw').rd) rfl rfl (by omega)) <| QR.g' rfl (fun w' hw' => r_fa fa29_0 rfl) <| QR.g' rfl (fun w' hw' => r_ld (v := .int .i64 ((gt v85 0).Month)) sca3 rfl ((((hm103).lo hw').rd).cell hx112 rfl)) <| QR.g' rfl (fun w' hw' => r_sub rfl rfl (by omega)) <| QR.g' rfl (fun w' hw' => r_mulW rfl rfl) <| QR.g' rfl (fun w' hw' => r_mv (v := .int .i64 _) rfl) <| QR.g' rfl (fun w' hw' => r_mv (v := .slice _ _ _) rfl) <| QR.g' rfl (fun w' hw' => r_mv (v := .int .i64 _) rfl) <| QR.g' rfl (fun w' hw' => r_sub rfl rfl (by omega)) <| QR.g' rfl (fun w' hw' => r_ixR tsl24 (((hm103).lo hw').rd) rfl rfl (by omega)) <| QR.g' rfl (fun w' hw' => r_fa fa29_1 rfl) <| QR.g' rfl (fun w' hw' => r_ld (v := .int .i64 ((gt v85 (n82 - 1)).Lent)) sca3 rfl ((((hm103).lo hw').rd).cell hx110 rfl)) <| QR.g' rfl (fun w' hw' => r_mv (v := .slice _ _ _) rfl) <| QR.g' rfl (fun w' hw' => r_ixR tsl24 (((hm103).lo hw').rd) rfl rfl (by omega)) <| QR.g' rfl (fun w' hw' => r_fa fa29_1 rfl) <| QR.g' rfl (fun w' hw' => r_ld (v := .int .i64 ((gt v85 0).Lent)) sca3 rfl ((((hm103).lo hw').rd).cell hx112 rfl)) <| QR.g' rfl (fun w' hw' => r_sub rfl rfl (by omega)) <| QR.g' rfl (fun w' hw' => r_mulW rfl rfl) <| QR.g' rfl (fun w' hw' => r_ne rfl rfl) <| QR.q' (fun w' hw' => r_pick true rfl (v := .bool _) rfl) <| QR.nil ?_
              intro w114 hk115
              exact ⟨⟨rfl, rfl, rfl, (eND (jat h104)), trivial⟩, hk115⟩
            · refine QR.s' rfl <| QR.s' rfl <| QR.s' rfl <| QR.s' rfl <| QR.s' rfl <| QR.s' rfl <| QR.s' rfl <| QR.s' rfl <| QR.s' rfl <| QR.s' rfl <| QR.s' rfl <| QR.s' rfl <| QR.s' rfl <| QR.s' rfl <| QR.s' rfl <| QR.s' rfl <| QR.s' rfl <| QR.s' rfl <| QR.s' rfl <| QR.s' rfl <| QR.s' rfl <| QR.s' rfl <| QR.s' rfl <| QR.s' rfl <| QR.s' rfl <| QR.s' rfl <| QR.s' rfl <| QR.q' (fun w' hw' => r_pick false rfl (v := .bool false) rfl) <| QR.nil ?_
              intro w116 hk117
              exact ⟨⟨rfl, rfl, rfl, (eDF (jaf h104).2), trivial⟩, hk117⟩
          rintro f118 w119 ⟨hat120, hk121⟩
          rw [← sets_of_at hat120]
          have hz122 := hk121.size
          have hB123 := hB101.lo hk121
          refine W.cond_d rfl (fun h124 => ?_) (fun h124 => ?_)
          · have hq125 : RowsOK v85 ∧ 2 ≤ v85.length := h124.1
            have hq126 : ¬ ((IntKind.i64.wrap ((groN v85) * (((gt v85 (n82 - 1)).Month) - ((gt v85 0).Month)))) = (IntKind.i64.wrap ((groD v85) * (((gt v85 (n82 - 1)).Lent) - ((gt v85 0).Lent))))) := h124.2
            have hq127 := And.left hq125
            have hq128 := rows_len hq127
            refine W.seq ?_
            have hm129 := ((hm96).lo hk99).lo hk121
            have hm130 := ((hm97).lo hk99).lo hk121
            refine W.regS (SR.q' (r_as (v := .bool false) rfl) <| SR.nil ?_)
            refine W.ret ?_
            refine ret1 rfl (v := .bool _) rfl ?_
            exact ⟨eR (eB (z_c_laws_FnTrends_131 L nL hbdL hleL h5 v12 hq13 n9 hl16 hl17 k a b hi36 hq37 h45 h71 hq75 hq76 v85 hq86 n82 hl89 hl90 hq95 hq102 h124 hq125 hq126 hq127 hq128)), hB123⟩
          · refine W.skip ?_
            refine W.seq ?_
            have hm132 := ((hm96).lo hk99).lo hk121
            have hm133 := ((hm97).lo hk99).lo hk121
            refine W.regS (SR.q' (r_mv (v := .slice _ _ _) rfl) <| SR.call ent11 (c_spec_DrawBestRun w119 L ((hm132)) (by omega)) rfl ?_)
            rintro e w134 ⟨A136, n137, c138, v140, rfl, hO139, hq141, hk135⟩
            refine ⟨_, rfl, ?_⟩
            have hz142 := hk135.size
            have hB143 := hB123.lo hk135
            have hl144 := hO139.len
            have hl145 := hO139.rd.bound
            refine SR.q' (r_as (v := .slice _ _ _) rfl) <| SR.nil ?_
            refine W.seq ?_
            refine W.regS (SR.q' (r_mv (v := .slice _ _ _) rfl) <| SR.call ent12 (c_impl_BestRun w134 v140 (((hO139).rd))) rfl ?_)
            rintro e w146 ⟨rfl, hk147⟩
            refine ⟨_, rfl, ?_⟩
            have hz148 := hk147.size
            have hB149 := hB143.lo hk147
            refine SR.q' (r_mv (v := .tuple (List.toArray _)) rfl) <| SR.q' (r_ext (v := .int .i64 _) rfl rfl) <| SR.q' (r_ext (v := .int .i64 _) rfl rfl) <| SR.q' (r_ext (v := .bool _) rfl rfl) <| SR.q' (r_as (v := .int .i64 _) rfl) <| SR.q' (r_as (v := .int .i64 _) rfl) <| SR.q' (r_as (v := .bool _) rfl) <| SR.nil ?_
            refine W.seq ?_
            refine W.seq ?_
            have hm150 := ((hm133).lo hk135).lo hk147
            refine W.regS (SR.q' (r_mv (v := .slice _ _ _) rfl) <| SR.call ent13 (c_spec_BestRun w146 v140 ((((hO139).lo hk147).rd))) rfl ?_)
            rintro e w151 ⟨rfl, hk152⟩
            refine ⟨_, rfl, ?_⟩
            have hz153 := hk152.size
            have hB154 := hB149.lo hk152
            refine SR.q' (r_mv (v := .tuple (List.toArray _)) rfl) <| SR.q' (r_ext (v := .int .i64 _) rfl rfl) <| SR.q' (r_ext (v := .int .i64 _) rfl rfl) <| SR.q' (r_ext (v := .bool _) rfl rfl) <| SR.q' (r_as (v := .int .i64 _) rfl) <| SR.q' (r_as (v := .int .i64 _) rfl) <| SR.q' (r_as (v := .bool _) rfl) <| SR.nil ?_
            refine W.seq ?_
            have hm155 := ((hO139).lo hk147).lo hk152
            refine W.regS (SR.q' (r_mv (v := .int .i64 _) rfl) <| SR.q' (r_mv (v := .int .i64 _) rfl) <| SR.q' (r_ne_s rfl rfl) <| SR.q' (r_mv (v := .bool _) rfl) <| SR.g' rfl (r_mv (v := .int .i64 _) rfl) <| SR.g' rfl (r_mv (v := .int .i64 _) rfl) <| SR.g' rfl (r_ne_s rfl rfl) <| SR.q' (r_pick false rfl (v := .bool _) rfl) <| SR.q' (r_mv (v := .bool _) rfl) <| SR.g' rfl (r_mv (v := .bool _) rfl) <| SR.g' rfl (r_mv (v := .bool _) rfl) <| SR.g' rfl (r_neb_s und4 rfl rfl) <| SR.q' (r_pick false rfl (v := .bool _) rfl) <| SR.nil ?_)
            refine W.cond_f rfl ?_
            refine W.skip ?_
            refine W.seq ?_
            refine W.regS (SR.q' (r_as (v := .int .i64 0) rfl) <| SR.nil ?_)
            refine W.seq ?_
            refine W.seq ?_
            refine W.regS (SR.q' (r_as (v := .int .i64 0) rfl) <| SR.nil ?_)
            refine W.block ?_
            refine W.loop (σ := Nat × Int) (fun g => [(3, .slice A8 n9 c10), (19, .slice A136 n137 c138), (20, .int .i64 (bestF v140)), (21, .int .i64 (bestL v140)), (22, .bool (decide (RowsOK v140 ∧ 0 < v140.length))), (26, .int .i64 g.2), (27, .int .i64 (g.1 : Int))]) (fun g w' => (Lo w w') ∧ (SlO w' w1.heap.size encLibRow 5 29 A8 n9 c10 v12) ∧ (SlO w' w119.heap.size encLibRow 5 29 A136 n137 c138 v140) ∧ (g.1 ≤ v140.length ∧ lastR v140 (bestF v140) (bestL v140) g.1 = g.2)) (fun g => v140.length - g.1) (0, (0 : Int)) ?_ ?_ ?_
            · exact ⟨rfl, rfl, rfl, rfl, rfl, (eI (by first | omega | (dsimp only; omega))), (eI (by first | omega | (dsimp only; omega))), trivial⟩
            · exact ⟨hB154, (hm150).lo hk152, hm155, (z_c_laws_FnTrends_156 L nL hbdL hleL h5 v12 hq13 n9 hl16 hl17 k a b hi36 hq37 h45 h71 hq75 hq76 v85 hq86 n82 hl89 hl90 hq95 hq102 h124 v140 hq141 n137 hl144 hl145)⟩
            · rintro ⟨j, l⟩ f157 w158 hP160
              obtain ⟨hB159, hm161, hm162, hi163⟩ : (Lo w w158) ∧ (SlO w158 w1.heap.size encLibRow 5 29 A8 n9 c10 v12) ∧ (SlO w158 w119.heap.size encLibRow 5 29 A136 n137 c138 v140) ∧ (j ≤ v140.length ∧ lastR v140 (bestF v140) (bestL v140) j = l) := hP160
              refine (?_ : W _ _ _ _ _ (act _ (sets f157 [(3, .slice A8 n9 c10), (19, .slice A136 n137 c138), (20, .int .i64 (bestF v140)), (21, .int .i64 (bestL v140)), (22, .bool (decide (RowsOK v140 ∧ 0 < v140.length))), (26, .int .i64 l), (27, .int .i64 (j : Int))])) _)
              have hzw158 := hB159.size
              refine W.seq ?_
              refine W.seq ?_
              refine W.regJS (fun f' w' => At f' [(3, .slice A8 n9 c10), (19, .slice A136 n137 c138), (20, .int .i64 (bestF v140)), (21, .int .i64 (bestL v140)), (22, .bool (decide (RowsOK v140 ∧ 0 < v140.length))), (26, .int .i64 l), (27, .int .i64 (j : Int)), (190, .bool (decide (((j : Int) < (n137 : Int)) ∧ (RowsOK v140 ∧ 0 < v140.length))))] ∧ Lo w158 w') ?_ ?_
              · refine SR.q' (r_mv (v := .int .i64 _) rfl) <| SR.q' (r_mv (v := .slice _ _ _) rfl) <| SR.q' (r_len und24 rfl) <| SR.q' (r_lt rfl rfl) <| SR.q' (r_mv (v := .bool _) rfl) <| SR.splitD (fun h164 => ?_) (fun h164 => ?_)
                · refine SR.g' rfl (r_mv (v := .bool _) rfl) <| SR.q' (r_pick true rfl (v := .bool _) rfl) <| SR.nil ?_
                  exact ⟨_, rfl, ⟨⟨rfl, rfl, rfl, rfl, rfl, rfl, rfl, (eDD (jat h164)), trivial⟩, (Lo.refl _)⟩⟩
                · refine SR.s' rfl <| SR.q' (r_pick false rfl (v := .bool false) rfl) <| SR.nil ?_
                  exact ⟨_, rfl, ⟨⟨rfl, rfl, rfl, rfl, rfl, rfl, rfl, (eDF (jaf h164).2), trivial⟩, (Lo.refl _)⟩⟩
              rintro f165 w166 ⟨hat167, hk168⟩
              rw [← sets_of_at hat167]
              have hz169 := hk168.size
              have hB170 := hB159.lo hk168
              refine W.cond_d rfl (fun h171 => ?_) (fun h171 => ?_)
              · have hq172 : (j : Int) < (n137 : Int) := h171.1
                have hq173 : RowsOK v140 ∧ 0 < v140.length := h171.2
                have hq174 := And.left hq173
                have hq175 := rows_len hq174
                refine W.skip ?_
                refine W.seq ?_
                refine W.block ?_
                refine W.seq ?_
                refine W.seq ?_
                refine W.regJS (fun f' w' => At f' [(3, .slice A8 n9 c10), (19, .slice A136 n137 c138), (20, .int .i64 (bestF v140)), (21, .int .i64 (bestL v140)), (22, .bool (decide (RowsOK v140 ∧ 0 < v140.length))), (26, .int .i64 l), (27, .int .i64 (j : Int)), (208, .bool (decide ((((gt v140 j).Month) < (bestF v140)) ∨ ((bestL v140) < ((gt v140 j).Month)))))] ∧ Lo w166 w' ∧ (v140[j]? = some (gt v140 j)) ∧ (((1 : Int) ≤ (gt v140 j).Month ∧ (gt v140 j).Month ≤ 1200) ∧ ((0 : Int) ≤ (gt v140 j).Lent ∧ (gt v140 j).Lent ≤ 9999) ∧ ((0 : Int) ≤ (gt v140 j).Copied ∧ (gt v140 j).Copied ≤ 9999) ∧ ((0 : Int) ≤ (gt v140 j).Given ∧ (gt v140 j).Given ≤ 999) ∧ ((0 : Int) ≤ (gt v140 j).Fines ∧ (gt v140 j).Fines ≤ 99999))) ?_ ?_
                · refine SR.q' (r_mv (v := .slice _ _ _) rfl) <| SR.q' (r_mv (v := .int .i64 _) rfl) <| ?_
                  have hx177 := (((hm162).lo hk168).rd).elem (i := j) (by omega)
                  have hq178 := rows_rng hq174 hx177
                  refine SR.q' (r_ixR tsl24 (((hm162).lo hk168).rd) rfl rfl (by omega)) <| SR.q' (r_fa fa29_0 rfl) <| SR.q' (r_ld (v := .int .i64 ((gt v140 j).Month)) sca3 rfl ((((hm162).lo hk168).rd).cell hx177 rfl)) <| SR.q' (r_mv (v := .int .i64 _) rfl) <| SR.q' (r_lt rfl rfl) <| SR.q' (r_mv (v := .bool _) rfl) <| SR.splitD (fun h179 => ?_) (fun h179 => ?_)
                  · refine SR.s' rfl <| SR.s' rfl <| SR.s' rfl <| SR.s' rfl <| SR.s' rfl <| SR.s' rfl <| SR.s' rfl <| SR.q' (r_pick true rfl (v := .bool true) rfl) <| SR.nil ?_
                    exact ⟨_, rfl, ⟨⟨rfl, rfl, rfl, rfl, rfl, rfl, rfl, (eDT ((jot h179).1 trivial)), trivial⟩, (Lo.refl _), hx177, hq178⟩⟩
                  · refine SR.g' rfl (r_mv (v := .slice _ _ _) rfl) <| SR.g' rfl (r_mv (v := .int .i64 _) rfl) <| SR.g' rfl (r_ixR tsl24 (((hm162).lo hk168).rd) rfl rfl (by omega)) <| SR.g' rfl (r_fa fa29_0 rfl) <| SR.g' rfl (r_ld (v := .int .i64 ((gt v140 j).Month)) sca3 rfl ((((hm162).lo hk168).rd).cell hx177 rfl)) <| SR.g' rfl (r_mv (v := .int .i64 _) rfl) <| SR.g' rfl (r_gt rfl rfl) <| SR.q' (r_pick false rfl (v := .bool _) rfl) <| SR.nil ?_
                    exact ⟨_, rfl, ⟨⟨rfl, rfl, rfl, rfl, rfl, rfl, rfl, (eDD (jof h179)), trivial⟩, (Lo.refl _), hx177, hq178⟩⟩
                rintro f180 w181 ⟨hat182, hk183, hq184, hq185⟩
                rw [← sets_of_at hat182]
                have hz186 := hk183.size
                have hB187 := hB170.lo hk183
                refine W.cond_d rfl (fun h188 => ?_) (fun h188 => ?_)
                · refine W.exit (xin_here ?_)
                  have hm189 := ((hm161).lo hk168).lo hk183
                  have hm190 := ((hm162).lo hk168).lo hk183
                  refine W.regS (SR.q' (r_mv (v := .int .i64 _) rfl) <| SR.q' (r_add rfl rfl (by omega)) <| SR.q' (r_as (v := .int .i64 _) rfl) <| SR.nil ?_)
                  refine ⟨(j + 1, l), _, rfl, ⟨rfl, rfl, rfl, rfl, rfl, rfl, (eI (by first | omega | (dsimp only; omega))), trivial⟩, ⟨hB187, hm189, hm190, ?_⟩, ?_⟩
                  · exact (z_c_laws_FnTrends_191 L nL hbdL hleL h5 v12 hq13 n9 hl16 hl17 k a b hi36 hq37 h45 h71 hq75 hq76 v85 hq86 n82 hl89 hl90 hq95 hq102 h124 v140 hq141 n137 hl144 hl145 j l hi163 h171 hq172 hq173 hq174 hq175 hq184 hq185 h188)
                  · exact (z_c_laws_FnTrends_192 L nL hbdL hleL h5 v12 hq13 n9 hl16 hl17 k a b hi36 hq37 h45 h71 hq75 hq76 v85 hq86 n82 hl89 hl90 hq95 hq102 h124 v140 hq141 n137 hl144 hl145 j l hi163 h171 hq172 hq173 hq174 hq175 hq184 hq185 h188)
                · have hq193 : ¬ (((gt v140 j).Month) < (bestF v140)) := (not_or.1 h188).1
                  have hq194 : ¬ ((bestL v140) < ((gt v140 j).Month)) := (not_or.1 h188).2
                  refine W.skip ?_
                  refine W.seq ?_
                  refine W.seq ?_
                  have hm195 := ((hm161).lo hk168).lo hk183
                  have hm196 := ((hm162).lo hk168).lo hk183
                  refine W.regS (SR.q' (r_mv (v := .slice _ _ _) rfl) <| SR.q' (r_mv (v := .int .i64 _) rfl) <| ?_)
                  have hx198 := ((hm196).rd).elem (i := j) (by omega)
                  have hq199 := rows_rng hq174 hx198
                  refine SR.q' (r_ixR tsl24 ((hm196).rd) rfl rfl (by omega)) <| SR.q' (r_fa fa29_1 rfl) <| SR.q' (r_ld (v := .int .i64 ((gt v140 j).Lent)) sca3 rfl (((hm196).rd).cell hx198 rfl)) <| SR.q' (r_mv (v := .int .i64 _) rfl) <| SR.q' (r_lt rfl rfl) <| SR.nil ?_
                  refine W.cond_d rfl (fun h200 => ?_) (fun h200 => ?_)
                  · refine W.seq ?_
                    refine W.regS (SR.q' (r_as (v := .bool false) rfl) <| SR.nil ?_)
                    refine W.ret ?_
                    refine ret1 rfl (v := .bool _) rfl ?_
                    exact ⟨eR (eB (z_c_laws_FnTrends_201 L nL hbdL hleL h5 v12 hq13 n9 hl16 hl17 k a b hi36 hq37 h45 h71 hq75 hq76 v85 hq86 n82 hl89 hl90 hq95 hq102 h124 v140 hq141 n137 hl144 hl145 j l hi163 h171 hq172 hq173 hq174 hq175 hq184 hq185 h188 hq193 hq194 hx198 hq199 h200)), hB187⟩
                  · refine W.skip ?_
                    refine W.regS (SR.q' (r_mv (v := .slice _ _ _) rfl) <| SR.q' (r_mv (v := .int .i64 _) rfl) <| SR.q' (r_ixR tsl24 ((hm196).rd) rfl rfl (by omega)) <| SR.q' (r_fa fa29_1 rfl) <| SR.q' (r_ld (v := .int .i64 ((gt v140 j).Lent)) sca3 rfl (((hm196).rd).cell hx198 rfl)) <| SR.q' (r_as (v := .int .i64 _) rfl) <| SR.nil ?_)
                    refine W.regS (SR.q' (r_mv (v := .int .i64 _) rfl) <| SR.q' (r_add rfl rfl (by omega)) <| SR.q' (r_as (v := .int .i64 _) rfl) <| SR.nil ?_)
                    refine ⟨(j + 1, (gt v140 j).Lent), _, rfl, ⟨rfl, rfl, rfl, rfl, rfl, rfl, (eI (by first | omega | (dsimp only; omega))), trivial⟩, ⟨hB187, hm195, hm196, ?_⟩, ?_⟩
                    · exact (z_c_laws_FnTrends_202 L nL hbdL hleL h5 v12 hq13 n9 hl16 hl17 k a b hi36 hq37 h45 h71 hq75 hq76 v85 hq86 n82 hl89 hl90 hq95 hq102 h124 v140 hq141 n137 hl144 hl145 j l hi163 h171 hq172 hq173 hq174 hq175 hq184 hq185 h188 hq193 hq194 hx198 hq199 h200)
                    · exact (z_c_laws_FnTrends_203 L nL hbdL hleL h5 v12 hq13 n9 hl16 hl17 k a b hi36 hq37 h45 h71 hq75 hq76 v85 hq86 n82 hl89 hl90 hq95 hq102 h124 v140 hq141 n137 hl144 hl145 j l hi163 h171 hq172 hq173 hq174 hq175 hq184 hq185 h188 hq193 hq194 hx198 hq199 h200)
              · refine W.exit (xin_here ?_)
                refine W.seq ?_
                refine W.regS (SR.q' (r_mv (v := .slice _ _ _) rfl) <| SR.call ent14 (c_impl_MissingMonths w166 v140 ((((hm162).lo hk168).rd))) rfl ?_)
                rintro e w204 ⟨rfl, hk205⟩
                refine ⟨_, rfl, ?_⟩
                have hz206 := hk205.size
                have hB207 := hB170.lo hk205
                refine SR.q' (r_mv (v := .tuple (List.toArray _)) rfl) <| SR.q' (r_ext (v := .int .i64 _) rfl rfl) <| SR.q' (r_ext (v := .bool _) rfl rfl) <| SR.q' (r_as (v := .int .i64 _) rfl) <| SR.q' (r_as (v := .bool _) rfl) <| SR.nil ?_
                refine W.seq ?_
                have hm208 := ((hm161).lo hk168).lo hk205
                have hm209 := ((hm162).lo hk168).lo hk205
                refine W.regS (SR.q' (r_mv (v := .slice _ _ _) rfl) <| SR.call ent15 (c_spec_MissingMonths w204 v140 (((hm209).rd))) rfl ?_)
                rintro e w210 ⟨rfl, hk211⟩
                refine ⟨_, rfl, ?_⟩
                have hz212 := hk211.size
                have hB213 := hB207.lo hk211
                refine SR.q' (r_mv (v := .tuple (List.toArray _)) rfl) <| SR.q' (r_ext (v := .int .i64 _) rfl rfl) <| SR.q' (r_ext (v := .bool _) rfl rfl) <| SR.q' (r_as (v := .int .i64 _) rfl) <| SR.q' (r_as (v := .bool _) rfl) <| SR.nil ?_
                refine W.seq ?_
                refine W.regS (SR.q' (r_mv (v := .slice _ _ _) rfl) <| SR.call ent16 (c_impl_LibTotals w210 v12 ((((hm208).lo hk211).rd))) rfl ?_)
                rintro e w214 ⟨A216, n217, c218, rfl, hO219, hk215⟩
                refine ⟨_, rfl, ?_⟩
                have hz220 := hk215.size
                have hB221 := hB213.lo hk215
                have hl222 := hO219.len
                have hl223 := hO219.rd.bound
                have hq224 := totL_len v12
                refine SR.q' (r_mv (v := .tuple (List.toArray _)) rfl) <| SR.q' (r_ext (v := .slice _ _ _) rfl rfl) <| SR.q' (r_ext (v := .bool _) rfl rfl) <| SR.q' (r_as (v := .slice _ _ _) rfl) <| SR.q' (r_as (v := .bool _) rfl) <| SR.nil ?_
                refine W.seq ?_
                have hm225 := ((hm208).lo hk211).lo hk215
                refine W.regS (SR.q' (r_mv (v := .slice _ _ _) rfl) <| SR.call ent17 (c_spec_LibTotals w214 v12 (((hm225).rd))) rfl ?_)
                rintro e w226 ⟨A228, n229, c230, rfl, hO231, hk227⟩
                refine ⟨_, rfl, ?_⟩
                have hz232 := hk227.size
                have hB233 := hB221.lo hk227
                have hl234 := hO231.len
                have hl235 := hO231.rd.bound
                have hq236 := totL_len v12
                refine SR.q' (r_mv (v := .tuple (List.toArray _)) rfl) <| SR.q' (r_ext (v := .slice _ _ _) rfl rfl) <| SR.q' (r_ext (v := .bool _) rfl rfl) <| SR.q' (r_as (v := .slice _ _ _) rfl) <| SR.q' (r_as (v := .bool _) rfl) <| SR.nil ?_
                refine W.seq ?_
                refine W.regS (SR.q' (r_mv (v := .int .i64 _) rfl) <| SR.q' (r_mv (v := .int .i64 _) rfl) <| SR.q' (r_eq_s rfl rfl) <| SR.q' (r_mv (v := .bool _) rfl) <| SR.g' rfl (r_mv (v := .bool _) rfl) <| SR.g' rfl (r_mv (v := .bool _) rfl) <| SR.g' rfl (r_eqb_s und4 rfl rfl) <| SR.q' (r_pick true rfl (v := .bool _) rfl) <| SR.q' (r_mv (v := .bool _) rfl) <| SR.g' rfl (r_mv (v := .bool _) rfl) <| SR.g' rfl (r_mv (v := .bool _) rfl) <| SR.g' rfl (r_eqb_s und4 rfl rfl) <| SR.q' (r_pick true rfl (v := .bool _) rfl) <| SR.q' (r_mv (v := .bool _) rfl) <| SR.g' rfl (r_mv (v := .slice _ _ _) rfl) <| SR.g' rfl (r_mv (v := .slice _ _ _) rfl) <| SR.gcall rfl ent18 (c_laws_rInts w226 (totL v12) ((((hO219).lo hk227).rd)) (totL v12) (((hO231).rd))) rfl ?_)
                rintro e w237 ⟨rfl, hk238⟩
                refine ⟨_, rfl, ?_⟩
                have hz239 := hk238.size
                have hB240 := hB233.lo hk238
                refine SR.q' (r_pick true rfl (v := .bool _) rfl) <| SR.q' (r_as (v := .bool _) rfl) <| SR.nil ?_
                refine W.ret ?_
                refine ret1 rfl (v := .bool _) rfl ?_
                exact ⟨eR (eB (z_c_laws_FnTrends_241 L nL hbdL hleL h5 v12 hq13 n9 hl16 hl17 k a b hi36 hq37 h45 h71 hq75 hq76 v85 hq86 n82 hl89 hl90 hq95 hq102 h124 v140 hq141 n137 hl144 hl145 j l hi163 h171 n217 hl222 hl223 hq224 n229 hl234 hl235 hq236)), hB240⟩
end Go.Proofs.Ytmigipacjadpeaa
