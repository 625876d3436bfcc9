/- Walks, printed by a program of this claim's author. -/
import Derived.Test.YtkbmbbdhojfnpaaChecked
import Derived.Test.YtkbmbbdhojfnpaaLa
import Derived.Test.YtkbmbbdhojfnpaaLc
import Derived.Test.YtkbmbbdhojfnpaaG31n
namespace Go.Proofs.Ytkbmbbdhojfnpaa
open Go Go.RowKit Fw
set_option maxRecDepth 10000
set_option linter.unusedVariables false
theorem ent14 : Ent Try.prog 14 := ent_of Try.func14 (by decide +kernel) rfl
theorem ent16 : Ent Try.prog 16 := ent_of Try.func16 (by decide +kernel) rfl
theorem ent17 : Ent Try.prog 17 := ent_of Try.func17 (by decide +kernel) rfl
theorem ent18 : Ent Try.prog 18 := ent_of Try.func18 (by decide +kernel) rfl
theorem ent28 : Ent Try.prog 28 := ent_of Try.func28 (by decide +kernel) rfl
theorem ent31 : Ent Try.prog 31 := ent_of Try.func31 (by decide +kernel) rfl
theorem ent32 : Ent Try.prog 32 := ent_of Try.func32 (by decide +kernel) rfl
theorem ent33 : Ent Try.prog 33 := ent_of Try.func33 (by decide +kernel) rfl
theorem ent44 : Ent Try.prog 44 := ent_of Try.func44 (by decide +kernel) rfl
theorem ent45 : Ent Try.prog 45 := ent_of Try.func45 (by decide +kernel) rfl

theorem z_c_spec_MergeRows_25 (a : List LibRow) (na : Nat) (hbda : (na : Int) ≤ 9223372036854775807) (hlea : na = a.length) (b : List LibRow) (nb : Nat) (hbdb : (nb : Int) ≤ 9223372036854775807) (hleb : nb = b.length) (h17 : (¬ (RowsOK a)) ∨ (¬ (RowsOK b))) : ([] : List LibRow) = (mrg a b).getD [] := by
  first | (rw [show mrg a b = none from by first | exact mrg_or ‹_› | exact mrg_noM (mg_end (And.right (And.right ‹_ ∧ _ ∧ _ ++ merge _ _ = _›)) (by omega) (by omega)) ‹_›]; rfl) | (rw [mrg_yes ‹RowsOK a› ‹RowsOK b› (mg_end (And.right (And.right ‹_ ∧ _ ∧ _ ++ merge _ _ = _›)) (by omega) (by omega)) ‹_›]; rfl)
theorem z_c_spec_MergeRows_26 (a : List LibRow) (na : Nat) (hbda : (na : Int) ≤ 9223372036854775807) (hlea : na = a.length) (b : List LibRow) (nb : Nat) (hbdb : (nb : Int) ≤ 9223372036854775807) (hleb : nb = b.length) (h17 : (¬ (RowsOK a)) ∨ (¬ (RowsOK b))) : false = (mrg a b).isSome := by
  first | (rw [show mrg a b = none from by first | exact mrg_or ‹_› | exact mrg_noM (mg_end (And.right (And.right ‹_ ∧ _ ∧ _ ++ merge _ _ = _›)) (by omega) (by omega)) ‹_›]; rfl) | (rw [mrg_yes ‹RowsOK a› ‹RowsOK b› (mg_end (And.right (And.right ‹_ ∧ _ ∧ _ ++ merge _ _ = _›)) (by omega) (by omega)) ‹_›]; rfl)
theorem z_c_spec_MergeRows_39 (a : List LibRow) (na : Nat) (hbda : (na : Int) ≤ 9223372036854775807) (hlea : na = a.length) (b : List LibRow) (nb : Nat) (hbdb : (nb : Int) ≤ 9223372036854775807) (hleb : nb = b.length) (h17 : ¬ ((¬ (RowsOK a)) ∨ (¬ (RowsOK b)))) (hq27 : RowsOK a) (hq28 : RowsOK b) (hq29 : a.length ≤ 12) (hq30 : b.length ≤ 12) : 0 ≤ na ∧ 0 ≤ nb ∧ ([] : List LibRow) ++ merge (a.drop 0) (b.drop 0) = merge a b := by
  simp
theorem z_c_spec_MergeRows_100 (a : List LibRow) (na : Nat) (hbda : (na : Int) ≤ 9223372036854775807) (hlea : na = a.length) (b : List LibRow) (nb : Nat) (hbdb : (nb : Int) ≤ 9223372036854775807) (hleb : nb = b.length) (h17 : ¬ ((¬ (RowsOK a)) ∨ (¬ (RowsOK b)))) (hq27 : RowsOK a) (hq28 : RowsOK b) (hq29 : a.length ≤ 12) (hq30 : b.length ≤ 12) (i : Nat) (k : Nat) (o : List LibRow) (n38 : Nat) (c38 : Nat) (hi47 : i ≤ na ∧ k ≤ nb ∧ o ++ merge (a.drop i) (b.drop k) = merge a b) (hl48 : n38 = (o).length) (hq50 : o.length ≤ a.length + b.length) (h58 : ((i : Int) < (na : Int)) ∨ ((k : Int) < (nb : Int))) (h79 : ((k : Int) = (nb : Int)) ∨ (((i : Int) < (na : Int)) ∧ (((gt a i).Month) < ((gt b k).Month)))) (hx81 : a[i]? = some (gt a i)) (hq82 : ((1 : Int) ≤ (gt a i).Month ∧ (gt a i).Month ≤ 1200) ∧ ((0 : Int) ≤ (gt a i).Lent ∧ (gt a i).Lent ≤ 9999) ∧ ((0 : Int) ≤ (gt a i).Copied ∧ (gt a i).Copied ≤ 9999) ∧ ((0 : Int) ≤ (gt a i).Given ∧ (gt a i).Given ≤ 999) ∧ ((0 : Int) ≤ (gt a i).Fines ∧ (gt a i).Fines ≤ 99999)) : (i + 1) ≤ na ∧ k ≤ nb ∧ (o ++ ([(gt a i)] : List LibRow)) ++ merge (a.drop (i + 1)) (b.drop k) = merge a b := by
  subst hlea hleb
  refine ⟨by omega, by omega, ?_⟩
  first | exact mg_A (And.right (And.right ‹_ ∧ _ ∧ _ ++ merge _ _ = _›)) (by omega) ‹_› (by omega) | exact mg_B (And.right (And.right ‹_ ∧ _ ∧ _ ++ merge _ _ = _›)) (by omega) ‹_› ‹_› (by omega) | exact mg_AB (And.right (And.right ‹_ ∧ _ ∧ _ ++ merge _ _ = _›)) (by omega) (by omega) ‹_› ‹_›
theorem z_c_spec_MergeRows_101 (a : List LibRow) (na : Nat) (hbda : (na : Int) ≤ 9223372036854775807) (hlea : na = a.length) (b : List LibRow) (nb : Nat) (hbdb : (nb : Int) ≤ 9223372036854775807) (hleb : nb = b.length) (h17 : ¬ ((¬ (RowsOK a)) ∨ (¬ (RowsOK b)))) (hq27 : RowsOK a) (hq28 : RowsOK b) (hq29 : a.length ≤ 12) (hq30 : b.length ≤ 12) (i : Nat) (k : Nat) (o : List LibRow) (n38 : Nat) (c38 : Nat) (hi47 : i ≤ na ∧ k ≤ nb ∧ o ++ merge (a.drop i) (b.drop k) = merge a b) (hl48 : n38 = (o).length) (hq50 : o.length ≤ a.length + b.length) (h58 : ((i : Int) < (na : Int)) ∨ ((k : Int) < (nb : Int))) (h79 : ((k : Int) = (nb : Int)) ∨ (((i : Int) < (na : Int)) ∧ (((gt a i).Month) < ((gt b k).Month)))) (hx81 : a[i]? = some (gt a i)) (hq82 : ((1 : Int) ≤ (gt a i).Month ∧ (gt a i).Month ≤ 1200) ∧ ((0 : Int) ≤ (gt a i).Lent ∧ (gt a i).Lent ≤ 9999) ∧ ((0 : Int) ≤ (gt a i).Copied ∧ (gt a i).Copied ≤ 9999) ∧ ((0 : Int) ≤ (gt a i).Given ∧ (gt a i).Given ≤ 999) ∧ ((0 : Int) ≤ (gt a i).Fines ∧ (gt a i).Fines ≤ 99999)) : (na - (i + 1)) + (nb - k) < (na - i) + (nb - k) := by
  omega
theorem z_c_spec_MergeRows_142 (a : List LibRow) (na : Nat) (hbda : (na : Int) ≤ 9223372036854775807) (hlea : na = a.length) (b : List LibRow) (nb : Nat) (hbdb : (nb : Int) ≤ 9223372036854775807) (hleb : nb = b.length) (h17 : ¬ ((¬ (RowsOK a)) ∨ (¬ (RowsOK b)))) (hq27 : RowsOK a) (hq28 : RowsOK b) (hq29 : a.length ≤ 12) (hq30 : b.length ≤ 12) (i : Nat) (k : Nat) (o : List LibRow) (n38 : Nat) (c38 : Nat) (hi47 : i ≤ na ∧ k ≤ nb ∧ o ++ merge (a.drop i) (b.drop k) = merge a b) (hl48 : n38 = (o).length) (hq50 : o.length ≤ a.length + b.length) (h58 : ((i : Int) < (na : Int)) ∨ ((k : Int) < (nb : Int))) (h79 : ¬ (((k : Int) = (nb : Int)) ∨ (((i : Int) < (na : Int)) ∧ (((gt a i).Month) < ((gt b k).Month))))) (hq102 : ¬ ((k : Int) = (nb : Int))) (hq103 : ¬ (((i : Int) < (na : Int)) ∧ (((gt a i).Month) < ((gt b k).Month)))) (h121 : ((i : Int) = (na : Int)) ∨ (((gt b k).Month) < ((gt a i).Month))) (hx123 : b[k]? = some (gt b k)) (hq124 : ((1 : Int) ≤ (gt b k).Month ∧ (gt b k).Month ≤ 1200) ∧ ((0 : Int) ≤ (gt b k).Lent ∧ (gt b k).Lent ≤ 9999) ∧ ((0 : Int) ≤ (gt b k).Copied ∧ (gt b k).Copied ≤ 9999) ∧ ((0 : Int) ≤ (gt b k).Given ∧ (gt b k).Given ≤ 999) ∧ ((0 : Int) ≤ (gt b k).Fines ∧ (gt b k).Fines ≤ 99999)) : i ≤ na ∧ (k + 1) ≤ nb ∧ (o ++ ([(gt b k)] : List LibRow)) ++ merge (a.drop i) (b.drop (k + 1)) = merge a b := by
  subst hlea hleb
  refine ⟨by omega, by omega, ?_⟩
  first | exact mg_A (And.right (And.right ‹_ ∧ _ ∧ _ ++ merge _ _ = _›)) (by omega) ‹_› (by omega) | exact mg_B (And.right (And.right ‹_ ∧ _ ∧ _ ++ merge _ _ = _›)) (by omega) ‹_› ‹_› (by omega) | exact mg_AB (And.right (And.right ‹_ ∧ _ ∧ _ ++ merge _ _ = _›)) (by omega) (by omega) ‹_› ‹_›
theorem z_c_spec_MergeRows_143 (a : List LibRow) (na : Nat) (hbda : (na : Int) ≤ 9223372036854775807) (hlea : na = a.length) (b : List LibRow) (nb : Nat) (hbdb : (nb : Int) ≤ 9223372036854775807) (hleb : nb = b.length) (h17 : ¬ ((¬ (RowsOK a)) ∨ (¬ (RowsOK b)))) (hq27 : RowsOK a) (hq28 : RowsOK b) (hq29 : a.length ≤ 12) (hq30 : b.length ≤ 12) (i : Nat) (k : Nat) (o : List LibRow) (n38 : Nat) (c38 : Nat) (hi47 : i ≤ na ∧ k ≤ nb ∧ o ++ merge (a.drop i) (b.drop k) = merge a b) (hl48 : n38 = (o).length) (hq50 : o.length ≤ a.length + b.length) (h58 : ((i : Int) < (na : Int)) ∨ ((k : Int) < (nb : Int))) (h79 : ¬ (((k : Int) = (nb : Int)) ∨ (((i : Int) < (na : Int)) ∧ (((gt a i).Month) < ((gt b k).Month))))) (hq102 : ¬ ((k : Int) = (nb : Int))) (hq103 : ¬ (((i : Int) < (na : Int)) ∧ (((gt a i).Month) < ((gt b k).Month)))) (h121 : ((i : Int) = (na : Int)) ∨ (((gt b k).Month) < ((gt a i).Month))) (hx123 : b[k]? = some (gt b k)) (hq124 : ((1 : Int) ≤ (gt b k).Month ∧ (gt b k).Month ≤ 1200) ∧ ((0 : Int) ≤ (gt b k).Lent ∧ (gt b k).Lent ≤ 9999) ∧ ((0 : Int) ≤ (gt b k).Copied ∧ (gt b k).Copied ≤ 9999) ∧ ((0 : Int) ≤ (gt b k).Given ∧ (gt b k).Given ≤ 999) ∧ ((0 : Int) ≤ (gt b k).Fines ∧ (gt b k).Fines ≤ 99999)) : (na - i) + (nb - (k + 1)) < (na - i) + (nb - k) := by
  omega
theorem z_c_spec_MergeRows_304 (a : List LibRow) (na : Nat) (hbda : (na : Int) ≤ 9223372036854775807) (hlea : na = a.length) (b : List LibRow) (nb : Nat) (hbdb : (nb : Int) ≤ 9223372036854775807) (hleb : nb = b.length) (h17 : ¬ ((¬ (RowsOK a)) ∨ (¬ (RowsOK b)))) (hq27 : RowsOK a) (hq28 : RowsOK b) (hq29 : a.length ≤ 12) (hq30 : b.length ≤ 12) (i : Nat) (k : Nat) (o : List LibRow) (n38 : Nat) (c38 : Nat) (hi47 : i ≤ na ∧ k ≤ nb ∧ o ++ merge (a.drop i) (b.drop k) = merge a b) (hl48 : n38 = (o).length) (hq50 : o.length ≤ a.length + b.length) (h58 : ((i : Int) < (na : Int)) ∨ ((k : Int) < (nb : Int))) (h79 : ¬ (((k : Int) = (nb : Int)) ∨ (((i : Int) < (na : Int)) ∧ (((gt a i).Month) < ((gt b k).Month))))) (hq102 : ¬ ((k : Int) = (nb : Int))) (hq103 : ¬ (((i : Int) < (na : Int)) ∧ (((gt a i).Month) < ((gt b k).Month)))) (h121 : ¬ (((i : Int) = (na : Int)) ∨ (((gt b k).Month) < ((gt a i).Month)))) (hq144 : ¬ ((i : Int) = (na : Int))) (hq145 : ¬ (((gt b k).Month) < ((gt a i).Month))) (hx147 : a[i]? = some (gt a i)) (hq148 : ((1 : Int) ≤ (gt a i).Month ∧ (gt a i).Month ≤ 1200) ∧ ((0 : Int) ≤ (gt a i).Lent ∧ (gt a i).Lent ≤ 9999) ∧ ((0 : Int) ≤ (gt a i).Copied ∧ (gt a i).Copied ≤ 9999) ∧ ((0 : Int) ≤ (gt a i).Given ∧ (gt a i).Given ≤ 999) ∧ ((0 : Int) ≤ (gt a i).Fines ∧ (gt a i).Fines ≤ 99999)) (hx183 : b[k]? = some (gt b k)) (hq184 : ((1 : Int) ≤ (gt b k).Month ∧ (gt b k).Month ≤ 1200) ∧ ((0 : Int) ≤ (gt b k).Lent ∧ (gt b k).Lent ≤ 9999) ∧ ((0 : Int) ≤ (gt b k).Copied ∧ (gt b k).Copied ≤ 9999) ∧ ((0 : Int) ≤ (gt b k).Given ∧ (gt b k).Given ≤ 999) ∧ ((0 : Int) ≤ (gt b k).Fines ∧ (gt b k).Fines ≤ 99999)) : (i + 1) ≤ na ∧ (k + 1) ≤ nb ∧ (o ++ ([(⟨(gt a i).Month, ((gt a i).Lent) + ((gt b k).Lent), ((gt a i).Copied) + ((gt b k).Copied), ((gt a i).Given) + ((gt b k).Given), ((gt a i).Fines) + ((gt b k).Fines)⟩ : LibRow)] : List LibRow)) ++ merge (a.drop (i + 1)) (b.drop (k + 1)) = merge a b := by
  subst hlea hleb
  refine ⟨by omega, by omega, ?_⟩
  first | exact mg_A (And.right (And.right ‹_ ∧ _ ∧ _ ++ merge _ _ = _›)) (by omega) ‹_› (by omega) | exact mg_B (And.right (And.right ‹_ ∧ _ ∧ _ ++ merge _ _ = _›)) (by omega) ‹_› ‹_› (by omega) | exact mg_AB (And.right (And.right ‹_ ∧ _ ∧ _ ++ merge _ _ = _›)) (by omega) (by omega) ‹_› ‹_›
theorem z_c_spec_MergeRows_305 (a : List LibRow) (na : Nat) (hbda : (na : Int) ≤ 9223372036854775807) (hlea : na = a.length) (b : List LibRow) (nb : Nat) (hbdb : (nb : Int) ≤ 9223372036854775807) (hleb : nb = b.length) (h17 : ¬ ((¬ (RowsOK a)) ∨ (¬ (RowsOK b)))) (hq27 : RowsOK a) (hq28 : RowsOK b) (hq29 : a.length ≤ 12) (hq30 : b.length ≤ 12) (i : Nat) (k : Nat) (o : List LibRow) (n38 : Nat) (c38 : Nat) (hi47 : i ≤ na ∧ k ≤ nb ∧ o ++ merge (a.drop i) (b.drop k) = merge a b) (hl48 : n38 = (o).length) (hq50 : o.length ≤ a.length + b.length) (h58 : ((i : Int) < (na : Int)) ∨ ((k : Int) < (nb : Int))) (h79 : ¬ (((k : Int) = (nb : Int)) ∨ (((i : Int) < (na : Int)) ∧ (((gt a i).Month) < ((gt b k).Month))))) (hq102 : ¬ ((k : Int) = (nb : Int))) (hq103 : ¬ (((i : Int) < (na : Int)) ∧ (((gt a i).Month) < ((gt b k).Month)))) (h121 : ¬ (((i : Int) = (na : Int)) ∨ (((gt b k).Month) < ((gt a i).Month)))) (hq144 : ¬ ((i : Int) = (na : Int))) (hq145 : ¬ (((gt b k).Month) < ((gt a i).Month))) (hx147 : a[i]? = some (gt a i)) (hq148 : ((1 : Int) ≤ (gt a i).Month ∧ (gt a i).Month ≤ 1200) ∧ ((0 : Int) ≤ (gt a i).Lent ∧ (gt a i).Lent ≤ 9999) ∧ ((0 : Int) ≤ (gt a i).Copied ∧ (gt a i).Copied ≤ 9999) ∧ ((0 : Int) ≤ (gt a i).Given ∧ (gt a i).Given ≤ 999) ∧ ((0 : Int) ≤ (gt a i).Fines ∧ (gt a i).Fines ≤ 99999)) (hx183 : b[k]? = some (gt b k)) (hq184 : ((1 : Int) ≤ (gt b k).Month ∧ (gt b k).Month ≤ 1200) ∧ ((0 : Int) ≤ (gt b k).Lent ∧ (gt b k).Lent ≤ 9999) ∧ ((0 : Int) ≤ (gt b k).Copied ∧ (gt b k).Copied ≤ 9999) ∧ ((0 : Int) ≤ (gt b k).Given ∧ (gt b k).Given ≤ 999) ∧ ((0 : Int) ≤ (gt b k).Fines ∧ (gt b k).Fines ≤ 99999)) : (na - (i + 1)) + (nb - (k + 1)) < (na - i) + (nb - k) := by
  omega
theorem z_c_spec_MergeRows_321 (a : List LibRow) (na : Nat) (hbda : (na : Int) ≤ 9223372036854775807) (hlea : na = a.length) (b : List LibRow) (nb : Nat) (hbdb : (nb : Int) ≤ 9223372036854775807) (hleb : nb = b.length) (h17 : ¬ ((¬ (RowsOK a)) ∨ (¬ (RowsOK b)))) (hq27 : RowsOK a) (hq28 : RowsOK b) (hq29 : a.length ≤ 12) (hq30 : b.length ≤ 12) (i : Nat) (k : Nat) (o : List LibRow) (n38 : Nat) (c38 : Nat) (hi47 : i ≤ na ∧ k ≤ nb ∧ o ++ merge (a.drop i) (b.drop k) = merge a b) (hl48 : n38 = (o).length) (hq50 : o.length ≤ a.length + b.length) (h58 : ¬ (((i : Int) < (na : Int)) ∨ ((k : Int) < (nb : Int)))) (hq306 : ¬ ((i : Int) < (na : Int))) (hq307 : ¬ ((k : Int) < (nb : Int))) (h312 : ¬ (RowsOK o)) : ([] : List LibRow) = (mrg a b).getD [] := by
  first | (rw [show mrg a b = none from by first | exact mrg_or ‹_› | exact mrg_noM (mg_end (And.right (And.right ‹_ ∧ _ ∧ _ ++ merge _ _ = _›)) (by omega) (by omega)) ‹_›]; rfl) | (rw [mrg_yes ‹RowsOK a› ‹RowsOK b› (mg_end (And.right (And.right ‹_ ∧ _ ∧ _ ++ merge _ _ = _›)) (by omega) (by omega)) ‹_›]; rfl)
theorem z_c_spec_MergeRows_322 (a : List LibRow) (na : Nat) (hbda : (na : Int) ≤ 9223372036854775807) (hlea : na = a.length) (b : List LibRow) (nb : Nat) (hbdb : (nb : Int) ≤ 9223372036854775807) (hleb : nb = b.length) (h17 : ¬ ((¬ (RowsOK a)) ∨ (¬ (RowsOK b)))) (hq27 : RowsOK a) (hq28 : RowsOK b) (hq29 : a.length ≤ 12) (hq30 : b.length ≤ 12) (i : Nat) (k : Nat) (o : List LibRow) (n38 : Nat) (c38 : Nat) (hi47 : i ≤ na ∧ k ≤ nb ∧ o ++ merge (a.drop i) (b.drop k) = merge a b) (hl48 : n38 = (o).length) (hq50 : o.length ≤ a.length + b.length) (h58 : ¬ (((i : Int) < (na : Int)) ∨ ((k : Int) < (nb : Int)))) (hq306 : ¬ ((i : Int) < (na : Int))) (hq307 : ¬ ((k : Int) < (nb : Int))) (h312 : ¬ (RowsOK o)) : false = (mrg a b).isSome := by
  first | (rw [show mrg a b = none from by first | exact mrg_or ‹_› | exact mrg_noM (mg_end (And.right (And.right ‹_ ∧ _ ∧ _ ++ merge _ _ = _›)) (by omega) (by omega)) ‹_›]; rfl) | (rw [mrg_yes ‹RowsOK a› ‹RowsOK b› (mg_end (And.right (And.right ‹_ ∧ _ ∧ _ ++ merge _ _ = _›)) (by omega) (by omega)) ‹_›]; rfl)
theorem z_c_spec_MergeRows_324 (a : List LibRow) (na : Nat) (hbda : (na : Int) ≤ 9223372036854775807) (hlea : na = a.length) (b : List LibRow) (nb : Nat) (hbdb : (nb : Int) ≤ 9223372036854775807) (hleb : nb = b.length) (h17 : ¬ ((¬ (RowsOK a)) ∨ (¬ (RowsOK b)))) (hq27 : RowsOK a) (hq28 : RowsOK b) (hq29 : a.length ≤ 12) (hq30 : b.length ≤ 12) (i : Nat) (k : Nat) (o : List LibRow) (n38 : Nat) (c38 : Nat) (hi47 : i ≤ na ∧ k ≤ nb ∧ o ++ merge (a.drop i) (b.drop k) = merge a b) (hl48 : n38 = (o).length) (hq50 : o.length ≤ a.length + b.length) (h58 : ¬ (((i : Int) < (na : Int)) ∨ ((k : Int) < (nb : Int)))) (hq306 : ¬ ((i : Int) < (na : Int))) (hq307 : ¬ ((k : Int) < (nb : Int))) (h312 : RowsOK o) (hq323 : o.length ≤ 12) : o = (mrg a b).getD [] := by
  first | (rw [show mrg a b = none from by first | exact mrg_or ‹_› | exact mrg_noM (mg_end (And.right (And.right ‹_ ∧ _ ∧ _ ++ merge _ _ = _›)) (by omega) (by omega)) ‹_›]; rfl) | (rw [mrg_yes ‹RowsOK a› ‹RowsOK b› (mg_end (And.right (And.right ‹_ ∧ _ ∧ _ ++ merge _ _ = _›)) (by omega) (by omega)) ‹_›]; rfl)
theorem z_c_spec_MergeRows_325 (a : List LibRow) (na : Nat) (hbda : (na : Int) ≤ 9223372036854775807) (hlea : na = a.length) (b : List LibRow) (nb : Nat) (hbdb : (nb : Int) ≤ 9223372036854775807) (hleb : nb = b.length) (h17 : ¬ ((¬ (RowsOK a)) ∨ (¬ (RowsOK b)))) (hq27 : RowsOK a) (hq28 : RowsOK b) (hq29 : a.length ≤ 12) (hq30 : b.length ≤ 12) (i : Nat) (k : Nat) (o : List LibRow) (n38 : Nat) (c38 : Nat) (hi47 : i ≤ na ∧ k ≤ nb ∧ o ++ merge (a.drop i) (b.drop k) = merge a b) (hl48 : n38 = (o).length) (hq50 : o.length ≤ a.length + b.length) (h58 : ¬ (((i : Int) < (na : Int)) ∨ ((k : Int) < (nb : Int)))) (hq306 : ¬ ((i : Int) < (na : Int))) (hq307 : ¬ ((k : Int) < (nb : Int))) (h312 : RowsOK o) (hq323 : o.length ≤ 12) : true = (mrg a b).isSome := by
  first | (rw [show mrg a b = none from by first | exact mrg_or ‹_› | exact mrg_noM (mg_end (And.right (And.right ‹_ ∧ _ ∧ _ ++ merge _ _ = _›)) (by omega) (by omega)) ‹_›]; rfl) | (rw [mrg_yes ‹RowsOK a› ‹RowsOK b› (mg_end (And.right (And.right ‹_ ∧ _ ∧ _ ++ merge _ _ = _›)) (by omega) (by omega)) ‹_›]; rfl)
theorem c_spec_MergeRows (w : World) {Aa : Option Addr} {na ca Ba : Nat}  (a : List LibRow) (ha : SlR w Ba encLibRow 5 Aa na ca a) {Ab : Option Addr} {nb cb Bb : Nat}  (b : List LibRow) (hb : SlR w Bb encLibRow 5 Ab nb cb b) : Calls Try.prog 31 #[.slice Aa na ca, .slice Ab nb cb] w fun e w' => ∃ (A1' : Option Addr) (n1' c1' : Nat), e = .returned (.tuple (List.toArray [.slice A1' n1' c1', .bool ((mrg a b).isSome)])) ∧ SlO w' w.heap.size encLibRow 5 25 A1' n1' c1' ((mrg a b).getD []) ∧ Lo w w' := by
  refine calls_W 141 Try.func31 rfl rfl rfl ?_
  have hbda := ha.bound
  have hlea := ha.len
  have hBba := ha.bd
  have hbdb := hb.bound
  have hleb := hb.len
  have hBbb := hb.bd
  refine W.seq ?_
  refine W.regS (SR.q' (r_as (v := .slice none 0 0) rfl) <| SR.q' (r_as (v := .bool false) rfl) <| SR.nil ?_)
  refine W.seq ?_
  refine W.seq ?_
  refine W.regJS (fun f' w' => At f' [(0, .slice Aa na ca), (1, .slice Ab nb cb), (4, .slice none 0 0), (5, .bool false), (17, .bool (decide ((¬ (RowsOK a)) ∨ (¬ (RowsOK b)))))] ∧ Lo w w') ?_ ?_
  · refine SR.q' (r_mv (v := .slice _ _ _) rfl) <| SR.call ent38 (c_spec_l31Good w a ((ha))) rfl ?_
    rintro e w1 ⟨rfl, hk2⟩
    refine ⟨_, rfl, ?_⟩
    have hz3 := hk2.size
    have hB4 := (Lo.refl w).lo hk2
    refine SR.q' (r_not rfl) <| SR.q' (r_mv (v := .bool _) rfl) <| SR.splitN (fun h5 => ?_) (fun h5 => ?_)
    · refine SR.s' rfl <| SR.s' rfl <| SR.s' rfl <| SR.q' (r_pick true rfl (v := .bool true) rfl) <| SR.nil ?_
      exact ⟨_, rfl, ⟨⟨rfl, rfl, rfl, rfl, (eDT ((jmf h5).1 trivial)), trivial⟩, (hk2)⟩⟩
    · have hq6 := rows_len h5
      refine SR.g' rfl (r_mv (v := .slice _ _ _) rfl) <| SR.gcall rfl ent38 (c_spec_l31Good w1 b (((hb).lo hk2))) rfl ?_
      rintro e w7 ⟨rfl, hk8⟩
      refine ⟨_, rfl, ?_⟩
      have hz9 := hk8.size
      have hB10 := hB4.lo hk8
      refine SR.g' rfl (r_not rfl) <| SR.q' (r_pick false rfl (v := .bool _) rfl) <| SR.nil ?_
      exact ⟨_, rfl, ⟨⟨rfl, rfl, rfl, rfl, (eND (jmt h5)), trivial⟩, ((hk2).trans hk8)⟩⟩
  rintro f11 w12 ⟨hat13, hk14⟩
  rw [← sets_of_at hat13]
  have hz15 := hk14.size
  have hB16 := (Lo.refl w).lo hk14
  refine W.cond_d rfl (fun h17 => ?_) (fun h17 => ?_)
  · refine W.seq ?_
    refine W.regS (SR.lit (vs := []) (L := ([] : List LibRow)) (enc := encLibRow) tel31 (fun _ => rfl) rfl rfl rfl (by decide) ?_)
    intro g18 w19 hg20 hk21 hO22
    have hz23 := hk21.size
    have hB24 := hB16.lo hk21
    refine SR.q' (r_as (v := .slice _ _ _) rfl) <| SR.q' (r_as (v := .bool false) rfl) <| SR.nil ?_
    refine W.ret ?_
    refine ret2 rfl (v := .slice _ _ _) (v' := .bool _) rfl rfl ?_
    exact ⟨(some (⟨g18, 0, none⟩ : Addr)), 0, 0, eR (eT2 rfl (eB (z_c_spec_MergeRows_26 a na hbda hlea b nb hbdb hleb h17))), (SlO.eqv ((hO22).down (by omega)) (z_c_spec_MergeRows_25 a na hbda hlea b nb hbdb hleb h17)), hB24⟩
  · have hq27 : RowsOK a := (Classical.not_not.1 (not_or.1 h17).1)
    have hq28 : RowsOK b := (Classical.not_not.1 (not_or.1 h17).2)
    have hq29 := rows_len hq27
    have hq30 := rows_len hq28
    refine W.skip ?_
    refine W.seq ?_
    refine W.regS (SR.lit (vs := []) (L := ([] : List LibRow)) (enc := encLibRow) tel31 (fun _ => rfl) rfl rfl rfl (by decide) ?_)
    intro g31 w32 hg33 hk34 hO35
    have hz36 := hk34.size
    have hB37 := hB16.lo hk34
    refine SR.q' (r_as (v := .slice _ _ _) rfl) <| SR.nil ?_
    refine W.seq ?_
    refine W.regS (SR.q' (r_as (v := .int .i64 0) rfl) <| SR.q' (r_as (v := .int .i64 0) rfl) <| SR.nil ?_)
    refine W.seq ?_
    refine W.block ?_
    refine W.loop (σ := Nat × Nat × (List LibRow) × (Option Addr) × Nat × Nat) (fun g => [(0, .slice Aa na ca), (1, .slice Ab nb cb), (4, .slice none 0 0), (5, .bool false), (6, .slice g.2.2.2.1 g.2.2.2.2.1 g.2.2.2.2.2), (7, .int .i64 (g.1 : Int)), (8, .int .i64 (g.2.1 : Int))]) (fun g w' => (Lo w w') ∧ (SlR w' Ba encLibRow 5 Aa na ca a) ∧ (SlR w' Bb encLibRow 5 Ab nb cb b) ∧ (SlO w' w.heap.size encLibRow 5 25 g.2.2.2.1 g.2.2.2.2.1 g.2.2.2.2.2 g.2.2.1) ∧ (g.1 ≤ na ∧ g.2.1 ≤ nb ∧ g.2.2.1 ++ merge (a.drop g.1) (b.drop g.2.1) = merge a b)) (fun g => (na - g.1) + (nb - g.2.1)) (0, 0, ([] : List LibRow), (some (⟨g31, 0, none⟩ : Addr)), 0, 0) ?_ ?_ ?_
    · exact ⟨rfl, rfl, rfl, rfl, rfl, rfl, rfl, trivial⟩
    · exact ⟨hB37, ((ha).lo hk14).lo hk34, ((hb).lo hk14).lo hk34, ((hO35).down (by omega)), (z_c_spec_MergeRows_39 a na hbda hlea b nb hbdb hleb h17 hq27 hq28 hq29 hq30)⟩
    · rintro ⟨i, k, o, A38, n38, c38⟩ f40 w41 hP43
      obtain ⟨hB42, hm44, hm45, hO46, hi47⟩ : (Lo w w41) ∧ (SlR w41 Ba encLibRow 5 Aa na ca a) ∧ (SlR w41 Bb encLibRow 5 Ab nb cb b) ∧ (SlO w41 w.heap.size encLibRow 5 25 A38 n38 c38 o) ∧ (i ≤ na ∧ k ≤ nb ∧ o ++ merge (a.drop i) (b.drop k) = merge a b) := hP43
      refine (?_ : W _ _ _ _ _ (act _ (sets f40 [(0, .slice Aa na ca), (1, .slice Ab nb cb), (4, .slice none 0 0), (5, .bool false), (6, .slice A38 n38 c38), (7, .int .i64 (i : Int)), (8, .int .i64 (k : Int))])) _)
      have hzw41 := hB42.size
      have hl48 := hO46.len
      have hl49 := hO46.rd.bound
      have hq50 : o.length ≤ a.length + b.length := mg_len hi47.2.2
      refine W.seq ?_
      refine W.seq ?_
      refine W.regJS (fun f' w' => At f' [(0, .slice Aa na ca), (1, .slice Ab nb cb), (4, .slice none 0 0), (5, .bool false), (6, .slice A38 n38 c38), (7, .int .i64 (i : Int)), (8, .int .i64 (k : Int)), (29, .bool (decide (((i : Int) < (na : Int)) ∨ ((k : Int) < (nb : Int)))))] ∧ Lo w41 w') ?_ ?_
      · refine SR.q' (r_mv (v := .int .i64 _) rfl) <| SR.q' (r_mv (v := .slice _ _ _) rfl) <| SR.q' (r_len und31 rfl) <| SR.q' (r_lt rfl rfl) <| SR.q' (r_mv (v := .bool _) rfl) <| SR.splitD (fun h51 => ?_) (fun h51 => ?_)
        · refine SR.s' rfl <| SR.s' rfl <| SR.s' rfl <| SR.s' rfl <| SR.q' (r_pick true rfl (v := .bool true) rfl) <| SR.nil ?_
          exact ⟨_, rfl, ⟨⟨rfl, rfl, rfl, rfl, rfl, rfl, rfl, (eDT ((jot h51).1 trivial)), trivial⟩, (Lo.refl _)⟩⟩
        · refine SR.g' rfl (r_mv (v := .int .i64 _) rfl) <| SR.g' rfl (r_mv (v := .slice _ _ _) rfl) <| SR.g' rfl (r_len und31 rfl) <| SR.g' rfl (r_lt rfl rfl) <| SR.q' (r_pick false rfl (v := .bool _) rfl) <| SR.nil ?_
          exact ⟨_, rfl, ⟨⟨rfl, rfl, rfl, rfl, rfl, rfl, rfl, (eDD (jof h51)), trivial⟩, (Lo.refl _)⟩⟩
      rintro f52 w53 ⟨hat54, hk55⟩
      rw [← sets_of_at hat54]
      have hz56 := hk55.size
      have hB57 := hB42.lo hk55
      refine W.cond_d rfl (fun h58 => ?_) (fun h58 => ?_)
      · refine W.skip ?_
        refine W.block ?_
        refine W.seq ?_
        refine W.regJD mo (by kernel_rfl) (fun f' w' => At f' [(0, .slice Aa na ca), (1, .slice Ab nb cb), (4, .slice none 0 0), (5, .bool false), (6, .slice A38 n38 c38), (7, .int .i64 (i : Int)), (8, .int .i64 (k : Int)), (52, .bool (decide (((k : Int) = (nb : Int)) ∨ (((i : Int) < (na : Int)) ∧ (((gt a i).Month) < ((gt b k).Month))))))] ∧ Lo w53 w') ?_ ?_
        · refine QR.q' (fun w' hw' => r_mv (v := .int .i64 _) rfl) <| QR.q' (fun w' hw' => r_mv (v := .slice _ _ _) rfl) <| QR.q' (fun w' hw' => r_len und31 rfl) <| QR.q' (fun w' hw' => r_eq rfl rfl) <| QR.q' (fun w' hw' => r_mv (v := .bool _) rfl) <| QR.splitD (fun h59 => ?_) (fun h59 => ?_)
          · refine QR.s' rfl <| QR.s' rfl <| QR.s' rfl <| QR.s' rfl <| QR.s' rfl <| QR.u' rfl <| QR.u' rfl <| QR.u' rfl <| QR.u' rfl <| QR.u' rfl <| QR.u' rfl <| QR.u' rfl <| QR.u' rfl <| QR.u' rfl <| QR.u' rfl <| QR.u' rfl <| QR.s' rfl <| QR.q' (fun w' hw' => r_pick true rfl (v := .bool true) rfl) <| QR.nil ?_
            intro w60 hk61
            exact ⟨⟨rfl, rfl, rfl, rfl, rfl, rfl, rfl, (eDT ((jot h59).1 trivial)), trivial⟩, hk61⟩
          · refine QR.g' rfl (fun w' hw' => r_mv (v := .int .i64 _) rfl) <| QR.g' rfl (fun w' hw' => r_mv (v := .slice _ _ _) rfl) <| QR.g' rfl (fun w' hw' => r_len und31 rfl) <| QR.g' rfl (fun w' hw' => r_lt rfl rfl) <| QR.g' rfl (fun w' hw' => r_mv (v := .bool _) rfl) <| QR.splitD (fun h62 => ?_) (fun h62 => ?_)
            · refine QR.g' rfl (fun w' hw' => r_mv (v := .slice _ _ _) rfl) <| QR.g' rfl (fun w' hw' => r_mv (v := .int .i64 _) rfl) <| ?_
              have hx64 := ((hm44).lo hk55).elem (i := i) (by omega)
              have hq65 := rows_rng hq27 hx64
              refine QR.g' rfl (fun w' hw' => r_ixR tsl31 ((((hm44).lo hk55).lo hw')) rfl rfl (by omega)) <| QR.g' rfl (fun w' hw' => r_fa fa25_0 rfl) <| QR.g' rfl (fun w' hw' => r_ld (v := .int .i64 ((gt a i).Month)) sca3 rfl (((((hm44).lo hk55).lo hw')).cell hx64 rfl)) <| QR.g' rfl (fun w' hw' => r_mv (v := .slice _ _ _) rfl) <| QR.g' rfl (fun w' hw' => r_mv (v := .int .i64 _) rfl) <| ?_
              have hx67 := ((hm45).lo hk55).elem (i := k) (by omega)
              have hq68 := rows_rng hq28 hx67
              refine QR.g' rfl (fun w' hw' => r_ixR tsl31 ((((hm45).lo hk55).lo hw')) rfl rfl (by omega)) <| QR.g' rfl (fun w' hw' => r_fa fa25_0 rfl) <| QR.g' rfl (fun w' hw' => r_ld (v := .int .i64 ((gt b k).Month)) sca3 rfl (((((hm45).lo hk55).lo hw')).cell hx67 rfl)) <| QR.g' rfl (fun w' hw' => r_lt rfl rfl) <| QR.g' rfl (fun w' hw' => r_pick true rfl (v := .bool _) rfl) <| QR.q' (fun w' hw' => r_pick false rfl (v := .bool _) rfl) <| QR.nil ?_
              intro w69 hk70
              exact ⟨⟨rfl, rfl, rfl, rfl, rfl, rfl, rfl, (eDD ((jat h62).trans (jof h59))), trivial⟩, hk70⟩
            · refine QR.s' rfl <| QR.s' rfl <| QR.s' rfl <| QR.s' rfl <| QR.s' rfl <| QR.s' rfl <| QR.s' rfl <| QR.s' rfl <| QR.s' rfl <| QR.s' rfl <| QR.s' rfl <| QR.g' rfl (fun w' hw' => r_pick false rfl (v := .bool false) rfl) <| QR.q' (fun w' hw' => r_pick false rfl (v := .bool _) rfl) <| QR.nil ?_
              intro w71 hk72
              exact ⟨⟨rfl, rfl, rfl, rfl, rfl, rfl, rfl, (eDF ((jaf h62).trans (jof h59)).2), trivial⟩, hk72⟩
        rintro f73 w74 ⟨hat75, hk76⟩
        rw [← sets_of_at hat75]
        have hz77 := hk76.size
        have hB78 := hB57.lo hk76
        refine W.cond_d rfl (fun h79 => ?_) (fun h79 => ?_)
        · refine W.seq ?_
          refine W.regS (SR.q' (r_mv (v := .slice _ _ _) rfl) <| SR.q' (r_mv (v := .slice _ _ _) rfl) <| SR.q' (r_mv (v := .int .i64 _) rfl) <| ?_)
          have hx81 := (((hm44).lo hk55).lo hk76).elem (i := i) (by omega)
          have hq82 := rows_rng hq27 hx81
          refine SR.q' (r_ixR tsl31 (((hm44).lo hk55).lo hk76) rfl rfl (by omega)) <| SR.q' (r_lda (l := encLibRow (gt a i)) agg25 rfl (fun _ _ hu => (((hm44).lo hk55).lo hk76).cell hx81 hu) ((((hm44).lo hk55).lo hk76).esz _)) <| SR.lit (vs := [.agg (List.toArray (encLibRow (gt a i)))]) (L := ([(gt a i)] : List LibRow)) (enc := encLibRow) tel31 (fun _ => rfl) rfl rfl rfl (by decide) ?_
          intro g83 w84 hg85 hk86 hO87
          have hz88 := hk86.size
          have hB89 := hB78.lo hk86
          have hd90 : ¬ A38 = some ⟨g83, 0, none⟩ := fun e' => by have := (((hO46).lo hk55).lo hk76).base_le e'; omega
          refine SR.app tel31 rfl rfl ((((hO46).lo hk55).lo hk76).lo hk86) ((hO87).rd) (fun _ => rfl) (by omega) (by omega) ?_
          intro A91 c92 w93 hk94 hO95 hN96
          have hz97 := hk94.size
          have hB98 := hB89.step hk94 (fun i_ hi_ e' => by have := (((((hO46).lo hk55).lo hk76).lo hk86)).base_le e'; first | omega | (exfalso; omega) | exact e' | exact .inl e' | exact .inr e')
          refine SR.q' (r_as (v := .slice _ _ _) rfl) <| SR.nil ?_
          refine W.regS (SR.q' (r_mv (v := .int .i64 _) rfl) <| SR.q' (r_add rfl rfl (by omega)) <| SR.q' (r_as (v := .int .i64 _) rfl) <| SR.nil ?_)
          refine ⟨((i + 1), k, o ++ ([(gt a i)] : List LibRow), A91, n38 + 1, c92), _, rfl, ⟨rfl, rfl, rfl, rfl, rfl, rfl, rfl, trivial⟩, ⟨hB98, ((((hm44).lo hk55).lo hk76).lo hk86).kp hk94 (fun b_ hb e' => by have := (((((hO46).lo hk55).lo hk76).lo hk86)).base_le e'; omega), ((((hm45).lo hk55).lo hk76).lo hk86).kp hk94 (fun b_ hb e' => by have := (((((hO46).lo hk55).lo hk76).lo hk86)).base_le e'; omega), (hO95), ?_⟩, ?_⟩
          · exact (z_c_spec_MergeRows_100 a na hbda hlea b nb hbdb hleb h17 hq27 hq28 hq29 hq30 i k o n38 c38 hi47 hl48 hq50 h58 h79 hx81 hq82)
          · exact (z_c_spec_MergeRows_101 a na hbda hlea b nb hbdb hleb h17 hq27 hq28 hq29 hq30 i k o n38 c38 hi47 hl48 hq50 h58 h79 hx81 hq82)
        · have hq102 : ¬ ((k : Int) = (nb : Int)) := (not_or.1 h79).1
          have hq103 : ¬ (((i : Int) < (na : Int)) ∧ (((gt a i).Month) < ((gt b k).Month))) := (not_or.1 h79).2
          refine W.seq ?_
          refine W.regJD mo (by kernel_rfl) (fun f' w' => At f' [(0, .slice Aa na ca), (1, .slice Ab nb cb), (4, .slice none 0 0), (5, .bool false), (6, .slice A38 n38 c38), (7, .int .i64 (i : Int)), (8, .int .i64 (k : Int)), (78, .bool (decide (((i : Int) = (na : Int)) ∨ (((gt b k).Month) < ((gt a i).Month)))))] ∧ Lo w74 w') ?_ ?_
          · refine QR.q' (fun w' hw' => r_mv (v := .int .i64 _) rfl) <| QR.q' (fun w' hw' => r_mv (v := .slice _ _ _) rfl) <| QR.q' (fun w' hw' => r_len und31 rfl) <| QR.q' (fun w' hw' => r_eq rfl rfl) <| QR.q' (fun w' hw' => r_mv (v := .bool _) rfl) <| QR.splitD (fun h104 => ?_) (fun h104 => ?_)
            · refine QR.s' rfl <| QR.s' rfl <| QR.s' rfl <| QR.s' rfl <| QR.s' rfl <| QR.s' rfl <| QR.s' rfl <| QR.s' rfl <| QR.s' rfl <| QR.s' rfl <| QR.s' rfl <| QR.q' (fun w' hw' => r_pick true rfl (v := .bool true) rfl) <| QR.nil ?_
              intro w105 hk106
              exact ⟨⟨rfl, rfl, rfl, rfl, rfl, rfl, rfl, (eDT ((jot h104).1 trivial)), trivial⟩, hk106⟩
            · refine QR.g' rfl (fun w' hw' => r_mv (v := .slice _ _ _) rfl) <| QR.g' rfl (fun w' hw' => r_mv (v := .int .i64 _) rfl) <| ?_
              have hx108 := (((hm45).lo hk55).lo hk76).elem (i := k) (by omega)
              have hq109 := rows_rng hq28 hx108
              refine QR.g' rfl (fun w' hw' => r_ixR tsl31 (((((hm45).lo hk55).lo hk76).lo hw')) rfl rfl (by omega)) <| QR.g' rfl (fun w' hw' => r_fa fa25_0 rfl) <| QR.g' rfl (fun w' hw' => r_ld (v := .int .i64 ((gt b k).Month)) sca3 rfl ((((((hm45).lo hk55).lo hk76).lo hw')).cell hx108 rfl)) <| QR.g' rfl (fun w' hw' => r_mv (v := .slice _ _ _) rfl) <| QR.g' rfl (fun w' hw' => r_mv (v := .int .i64 _) rfl) <| ?_
              have hx111 := (((hm44).lo hk55).lo hk76).elem (i := i) (by omega)
              have hq112 := rows_rng hq27 hx111
              refine QR.g' rfl (fun w' hw' => r_ixR tsl31 (((((hm44).lo hk55).lo hk76).lo hw')) rfl rfl (by omega)) <| QR.g' rfl (fun w' hw' => r_fa fa25_0 rfl) <| QR.g' rfl (fun w' hw' => r_ld (v := .int .i64 ((gt a i).Month)) sca3 rfl ((((((hm44).lo hk55).lo hk76).lo hw')).cell hx111 rfl)) <| QR.g' rfl (fun w' hw' => r_lt rfl rfl) <| QR.q' (fun w' hw' => r_pick false rfl (v := .bool _) rfl) <| QR.nil ?_
              intro w113 hk114
              exact ⟨⟨rfl, rfl, rfl, rfl, rfl, rfl, rfl, (eDD (jof h104)), trivial⟩, hk114⟩
          rintro f115 w116 ⟨hat117, hk118⟩
          rw [← sets_of_at hat117]
          have hz119 := hk118.size
          have hB120 := hB78.lo hk118
          refine W.cond_d rfl (fun h121 => ?_) (fun h121 => ?_)
          · refine W.seq ?_
            refine W.regS (SR.q' (r_mv (v := .slice _ _ _) rfl) <| SR.q' (r_mv (v := .slice _ _ _) rfl) <| SR.q' (r_mv (v := .int .i64 _) rfl) <| ?_)
            have hx123 := ((((hm45).lo hk55).lo hk76).lo hk118).elem (i := k) (by omega)
            have hq124 := rows_rng hq28 hx123
            refine SR.q' (r_ixR tsl31 ((((hm45).lo hk55).lo hk76).lo hk118) rfl rfl (by omega)) <| SR.q' (r_lda (l := encLibRow (gt b k)) agg25 rfl (fun _ _ hu => ((((hm45).lo hk55).lo hk76).lo hk118).cell hx123 hu) (((((hm45).lo hk55).lo hk76).lo hk118).esz _)) <| SR.lit (vs := [.agg (List.toArray (encLibRow (gt b k)))]) (L := ([(gt b k)] : List LibRow)) (enc := encLibRow) tel31 (fun _ => rfl) rfl rfl rfl (by decide) ?_
            intro g125 w126 hg127 hk128 hO129
            have hz130 := hk128.size
            have hB131 := hB120.lo hk128
            have hd132 : ¬ A38 = some ⟨g125, 0, none⟩ := fun e' => by have := ((((hO46).lo hk55).lo hk76).lo hk118).base_le e'; omega
            refine SR.app tel31 rfl rfl (((((hO46).lo hk55).lo hk76).lo hk118).lo hk128) ((hO129).rd) (fun _ => rfl) (by omega) (by omega) ?_
            intro A133 c134 w135 hk136 hO137 hN138
            have hz139 := hk136.size
            have hB140 := hB131.step hk136 (fun i_ hi_ e' => by have := ((((((hO46).lo hk55).lo hk76).lo hk118).lo hk128)).base_le e'; first | omega | (exfalso; omega) | exact e' | exact .inl e' | exact .inr e')
            refine SR.q' (r_as (v := .slice _ _ _) rfl) <| SR.nil ?_
            refine W.regS (SR.q' (r_mv (v := .int .i64 _) rfl) <| SR.q' (r_add rfl rfl (by omega)) <| SR.q' (r_as (v := .int .i64 _) rfl) <| SR.nil ?_)
            refine ⟨(i, (k + 1), o ++ ([(gt b k)] : List LibRow), A133, n38 + 1, c134), _, rfl, ⟨rfl, rfl, rfl, rfl, rfl, rfl, rfl, trivial⟩, ⟨hB140, (((((hm44).lo hk55).lo hk76).lo hk118).lo hk128).kp hk136 (fun b_ hb e' => by have := ((((((hO46).lo hk55).lo hk76).lo hk118).lo hk128)).base_le e'; omega), (((((hm45).lo hk55).lo hk76).lo hk118).lo hk128).kp hk136 (fun b_ hb e' => by have := ((((((hO46).lo hk55).lo hk76).lo hk118).lo hk128)).base_le e'; omega), (hO137), ?_⟩, ?_⟩
            · exact (z_c_spec_MergeRows_142 a na hbda hlea b nb hbdb hleb h17 hq27 hq28 hq29 hq30 i k o n38 c38 hi47 hl48 hq50 h58 h79 hq102 hq103 h121 hx123 hq124)
            · exact (z_c_spec_MergeRows_143 a na hbda hlea b nb hbdb hleb h17 hq27 hq28 hq29 hq30 i k o n38 c38 hi47 hl48 hq50 h58 h79 hq102 hq103 h121 hx123 hq124)
          · have hq144 : ¬ ((i : Int) = (na : Int)) := (not_or.1 h121).1
            have hq145 : ¬ (((gt b k).Month) < ((gt a i).Month)) := (not_or.1 h121).2
            refine W.seq ?_
            refine W.regS (SR.q' (r_mv (v := .slice _ _ _) rfl) <| SR.q' (r_mv (v := .int .i64 _) rfl) <| ?_)
            have hx147 := ((((hm44).lo hk55).lo hk76).lo hk118).elem (i := i) (by omega)
            have hq148 := rows_rng hq27 hx147
            refine SR.q' (r_ixR tsl31 ((((hm44).lo hk55).lo hk76).lo hk118) rfl rfl (by omega)) <| SR.q' (r_lda (l := encLibRow (gt a i)) agg25 rfl (fun _ _ hu => ((((hm44).lo hk55).lo hk76).lo hk118).cell hx147 hu) (((((hm44).lo hk55).lo hk76).lo hk118).esz _)) <| SR.alloc (l := [.int .i64 0, .int .i64 0, .int .i64 0, .int .i64 0, .int .i64 0]) tz25 rfl ?_
            intro g149 w150 hg151 hk152 hs153 hb154
            have hz155 := hk152.size
            have hB156 := hB120.lo hk152
            have hd157 : ¬ A38 = some ⟨g149, 0, none⟩ := fun e' => by have := ((((hO46).lo hk55).lo hk76).lo hk118).base_le e'; omega
            refine SR.store (o := 0) (vs := [.int .i64 ((gt a i).Month), .int .i64 ((gt a i).Lent), .int .i64 ((gt a i).Copied), .int .i64 ((gt a i).Given), .int .i64 ((gt a i).Fines)]) agg25.2 rfl rfl rfl rfl (hb154) (Nat.le_of_ble_eq_true rfl) rfl ?_
            intro w158 hk159 hs160 hb161
            have hz162 := hk159.size
            have hB163 := hB156.new hk159 (by omega)
            refine SR.nil ?_
            refine W.seq ?_
            refine W.regA (Kp (fun b_ => b_ = g149) w158) (fun f' w' => At f' [(0, .slice Aa na ca), (1, .slice Ab nb cb), (4, .slice none 0 0), (5, .bool false), (6, .slice A38 n38 c38), (7, .int .i64 (i : Int)), (8, .int .i64 (k : Int)), (9, .pointer (some ((⟨g149, 0, none⟩ : Addr))))] ∧ (Kp (fun b_ => b_ = g149) w158 w') ∧ (Blk w' g149 25 [.int .i64 ((gt a i).Month), .int .i64 (((gt a i).Lent) + ((gt b k).Lent)), .int .i64 ((gt a i).Copied), .int .i64 ((gt a i).Given), .int .i64 ((gt a i).Fines)]) ∧ (b[k]? = some (gt b k)) ∧ (((1 : Int) ≤ (gt b k).Month ∧ (gt b k).Month ≤ 1200) ∧ ((0 : Int) ≤ (gt b k).Lent ∧ (gt b k).Lent ≤ 9999) ∧ ((0 : Int) ≤ (gt b k).Copied ∧ (gt b k).Copied ≤ 9999) ∧ ((0 : Int) ≤ (gt b k).Given ∧ (gt b k).Given ≤ 999) ∧ ((0 : Int) ≤ (gt b k).Fines ∧ (gt b k).Fines ≤ 99999))) mo ?_ ?_
            · intro w178 hk179
              have hz180 := hk179.size
              have hB181 := hB163.lo hk179
              refine AH.take 0 rfl (by kernel_rfl) trivial ((Kp.refl w158 : Kp (fun b_ => b_ = g149) w158 w158).lo hk179) (fun w' hw' => r_fa fa25_1 rfl) <| AH.take 2 rfl (by kernel_rfl) trivial ((Kp.refl w158 : Kp (fun b_ => b_ = g149) w158 w158).lo hk179) (fun w' hw' => r_mv (v := .slice _ _ _) rfl) <| AH.take 3 rfl (by kernel_rfl) trivial ((Kp.refl w158 : Kp (fun b_ => b_ = g149) w158 w158).lo hk179) (fun w' hw' => r_mv (v := .int .i64 _) rfl) <| ?_
              have hx183 := (((((((hm45).lo hk55).lo hk76).lo hk118).lo hk152).kp hk159 (fun b_ hb e' => by have e'' : b_ = g149 := e'; omega)).lo hk179).elem (i := k) (by omega)
              have hq184 := rows_rng hq28 hx183
              refine AH.take 4 rfl (by kernel_rfl) trivial ((Kp.refl w158 : Kp (fun b_ => b_ = g149) w158 w158).lo hk179) (fun w' hw' => r_ixR tsl31 ((((((((hm45).lo hk55).lo hk76).lo hk118).lo hk152).kp hk159 (fun b_ hb e' => by have e'' : b_ = g149 := e'; omega)).kp hw' (fun b_ hb e' => by have e'' : b_ = g149 := e'; omega))) rfl rfl (by omega)) <| AH.take 5 rfl (by kernel_rfl) trivial ((Kp.refl w158 : Kp (fun b_ => b_ = g149) w158 w158).lo hk179) (fun w' hw' => r_fa fa25_1 rfl) <| AH.take 6 rfl (by kernel_rfl) trivial ((Kp.refl w158 : Kp (fun b_ => b_ = g149) w158 w158).lo hk179) (fun w' hw' => r_ld (v := .int .i64 ((gt b k).Lent)) sca3 rfl (((((((((hm45).lo hk55).lo hk76).lo hk118).lo hk152).kp hk159 (fun b_ hb e' => by have e'' : b_ = g149 := e'; omega)).kp hw' (fun b_ hb e' => by have e'' : b_ = g149 := e'; omega))).cell hx183 rfl)) <| AH.br [1] (by kernel_rfl) rfl ⟨Br.mk' rfl trivial ?_, trivial⟩
              refine SR.q' (r_ld (v := .int .i64 ((gt a i).Lent)) sca3 rfl (((hb161).lo hk179).cell rfl)) ?_
              refine SR.nil ⟨(Kp.refl w158 : Kp (fun b_ => b_ = g149) w158 w158).lo hk179, _, rfl, ?_⟩
              refine AH.take 7 rfl (by kernel_rfl) trivial ((Kp.refl w158 : Kp (fun b_ => b_ = g149) w158 w158).lo hk179) (fun w' hw' => r_add rfl rfl (by omega)) <| AH.take 8 rfl (by kernel_rfl) trivial ((Kp.refl w158 : Kp (fun b_ => b_ = g149) w158 w158).lo hk179) (fun w' hw' => r_fa fa25_1 rfl) <| AH.br [9] (by kernel_rfl) rfl ⟨Br.mk' rfl trivial ?_, trivial⟩
              refine SR.store (o := 1) (vs := [.int .i64 (((gt a i).Lent) + ((gt b k).Lent))]) sca3.2 rfl rfl rfl rfl ((hb161).lo hk179) (Nat.le_of_ble_eq_true rfl) rfl ?_
              intro w185 hk186 hs187 hb188
              have hz189 := hk186.size
              have hB190 := hB181.new hk186 (by omega)
              have hS191 := ((Kp.refl w158 : Kp (fun b_ => b_ = g149) w158 w158).lo hk179).step hk186 (fun _ _ e => e)
              refine SR.nil ⟨hS191, _, rfl, ?_⟩
              refine AH.done (by kernel_rfl) ?_
              exact ⟨⟨rfl, rfl, rfl, rfl, rfl, rfl, rfl, rfl, trivial⟩, hS191, (hb188), hx183, hq184⟩
            rintro f193 w194 ⟨hat196, hR195, hm192, hx183, hq184⟩
            rw [← sets_of_at hat196]
            have hz197 := hR195.size
            have hB198 := hB163.new hR195 (by omega)
            refine W.seq ?_
            refine W.regA (Kp (fun b_ => b_ = g149) w194) (fun f' w' => At f' [(0, .slice Aa na ca), (1, .slice Ab nb cb), (4, .slice none 0 0), (5, .bool false), (6, .slice A38 n38 c38), (7, .int .i64 (i : Int)), (8, .int .i64 (k : Int)), (9, .pointer (some ((⟨g149, 0, none⟩ : Addr))))] ∧ (Kp (fun b_ => b_ = g149) w194 w') ∧ (Blk w' g149 25 [.int .i64 ((gt a i).Month), .int .i64 (((gt a i).Lent) + ((gt b k).Lent)), .int .i64 (((gt a i).Copied) + ((gt b k).Copied)), .int .i64 ((gt a i).Given), .int .i64 ((gt a i).Fines)])) mo ?_ ?_
            · intro w210 hk211
              have hz212 := hk211.size
              have hB213 := hB198.lo hk211
              refine AH.take 0 rfl (by kernel_rfl) trivial ((Kp.refl w194 : Kp (fun b_ => b_ = g149) w194 w194).lo hk211) (fun w' hw' => r_fa fa25_2 rfl) <| AH.take 2 rfl (by kernel_rfl) trivial ((Kp.refl w194 : Kp (fun b_ => b_ = g149) w194 w194).lo hk211) (fun w' hw' => r_mv (v := .slice _ _ _) rfl) <| AH.take 3 rfl (by kernel_rfl) trivial ((Kp.refl w194 : Kp (fun b_ => b_ = g149) w194 w194).lo hk211) (fun w' hw' => r_mv (v := .int .i64 _) rfl) <| AH.take 4 rfl (by kernel_rfl) trivial ((Kp.refl w194 : Kp (fun b_ => b_ = g149) w194 w194).lo hk211) (fun w' hw' => r_ixR tsl31 (((((((((hm45).lo hk55).lo hk76).lo hk118).lo hk152).kp hk159 (fun b_ hb e' => by have e'' : b_ = g149 := e'; omega)).kp hR195 (fun b_ hb e' => by have e'' : b_ = g149 := e'; omega)).kp hw' (fun b_ hb e' => by have e'' : b_ = g149 := e'; omega))) rfl rfl (by omega)) <| AH.take 5 rfl (by kernel_rfl) trivial ((Kp.refl w194 : Kp (fun b_ => b_ = g149) w194 w194).lo hk211) (fun w' hw' => r_fa fa25_2 rfl) <| AH.take 6 rfl (by kernel_rfl) trivial ((Kp.refl w194 : Kp (fun b_ => b_ = g149) w194 w194).lo hk211) (fun w' hw' => r_ld (v := .int .i64 ((gt b k).Copied)) sca3 rfl ((((((((((hm45).lo hk55).lo hk76).lo hk118).lo hk152).kp hk159 (fun b_ hb e' => by have e'' : b_ = g149 := e'; omega)).kp hR195 (fun b_ hb e' => by have e'' : b_ = g149 := e'; omega)).kp hw' (fun b_ hb e' => by have e'' : b_ = g149 := e'; omega))).cell hx183 rfl)) <| AH.br [1] (by kernel_rfl) rfl ⟨Br.mk' rfl trivial ?_, trivial⟩
              refine SR.q' (r_ld (v := .int .i64 ((gt a i).Copied)) sca3 rfl (((hm192).lo hk211).cell rfl)) ?_
              refine SR.nil ⟨(Kp.refl w194 : Kp (fun b_ => b_ = g149) w194 w194).lo hk211, _, rfl, ?_⟩
              refine AH.take 7 rfl (by kernel_rfl) trivial ((Kp.refl w194 : Kp (fun b_ => b_ = g149) w194 w194).lo hk211) (fun w' hw' => r_add rfl rfl (by omega)) <| AH.take 8 rfl (by kernel_rfl) trivial ((Kp.refl w194 : Kp (fun b_ => b_ = g149) w194 w194).lo hk211) (fun w' hw' => r_fa fa25_2 rfl) <| AH.br [9] (by kernel_rfl) rfl ⟨Br.mk' rfl trivial ?_, trivial⟩
              refine SR.store (o := 2) (vs := [.int .i64 (((gt a i).Copied) + ((gt b k).Copied))]) sca3.2 rfl rfl rfl rfl ((hm192).lo hk211) (Nat.le_of_ble_eq_true rfl) rfl ?_
              intro w214 hk215 hs216 hb217
              have hz218 := hk215.size
              have hB219 := hB213.new hk215 (by omega)
              have hS220 := ((Kp.refl w194 : Kp (fun b_ => b_ = g149) w194 w194).lo hk211).step hk215 (fun _ _ e => e)
              refine SR.nil ⟨hS220, _, rfl, ?_⟩
              refine AH.done (by kernel_rfl) ?_
              exact ⟨⟨rfl, rfl, rfl, rfl, rfl, rfl, rfl, rfl, trivial⟩, hS220, (hb217)⟩
            rintro f222 w223 ⟨hat225, hR224, hm221⟩
            rw [← sets_of_at hat225]
            have hz226 := hR224.size
            have hB227 := hB198.new hR224 (by omega)
            refine W.seq ?_
            refine W.regA (Kp (fun b_ => b_ = g149) w223) (fun f' w' => At f' [(0, .slice Aa na ca), (1, .slice Ab nb cb), (4, .slice none 0 0), (5, .bool false), (6, .slice A38 n38 c38), (7, .int .i64 (i : Int)), (8, .int .i64 (k : Int)), (9, .pointer (some ((⟨g149, 0, none⟩ : Addr))))] ∧ (Kp (fun b_ => b_ = g149) w223 w') ∧ (Blk w' g149 25 [.int .i64 ((gt a i).Month), .int .i64 (((gt a i).Lent) + ((gt b k).Lent)), .int .i64 (((gt a i).Copied) + ((gt b k).Copied)), .int .i64 (((gt a i).Given) + ((gt b k).Given)), .int .i64 ((gt a i).Fines)])) mo ?_ ?_
            · intro w239 hk240
              have hz241 := hk240.size
              have hB242 := hB227.lo hk240
              refine AH.take 0 rfl (by kernel_rfl) trivial ((Kp.refl w223 : Kp (fun b_ => b_ = g149) w223 w223).lo hk240) (fun w' hw' => r_fa fa25_3 rfl) <| AH.take 2 rfl (by kernel_rfl) trivial ((Kp.refl w223 : Kp (fun b_ => b_ = g149) w223 w223).lo hk240) (fun w' hw' => r_mv (v := .slice _ _ _) rfl) <| AH.take 3 rfl (by kernel_rfl) trivial ((Kp.refl w223 : Kp (fun b_ => b_ = g149) w223 w223).lo hk240) (fun w' hw' => r_mv (v := .int .i64 _) rfl) <| AH.take 4 rfl (by kernel_rfl) trivial ((Kp.refl w223 : Kp (fun b_ => b_ = g149) w223 w223).lo hk240) (fun w' hw' => r_ixR tsl31 ((((((((((hm45).lo hk55).lo hk76).lo hk118).lo hk152).kp hk159 (fun b_ hb e' => by have e'' : b_ = g149 := e'; omega)).kp hR195 (fun b_ hb e' => by have e'' : b_ = g149 := e'; omega)).kp hR224 (fun b_ hb e' => by have e'' : b_ = g149 := e'; omega)).kp hw' (fun b_ hb e' => by have e'' : b_ = g149 := e'; omega))) rfl rfl (by omega)) <| AH.take 5 rfl (by kernel_rfl) trivial ((Kp.refl w223 : Kp (fun b_ => b_ = g149) w223 w223).lo hk240) (fun w' hw' => r_fa fa25_3 rfl) <| AH.take 6 rfl (by kernel_rfl) trivial ((Kp.refl w223 : Kp (fun b_ => b_ = g149) w223 w223).lo hk240) (fun w' hw' => r_ld (v := .int .i64 ((gt b k).Given)) sca3 rfl (((((((((((hm45).lo hk55).lo hk76).lo hk118).lo hk152).kp hk159 (fun b_ hb e' => by have e'' : b_ = g149 := e'; omega)).kp hR195 (fun b_ hb e' => by have e'' : b_ = g149 := e'; omega)).kp hR224 (fun b_ hb e' => by have e'' : b_ = g149 := e'; omega)).kp hw' (fun b_ hb e' => by have e'' : b_ = g149 := e'; omega))).cell hx183 rfl)) <| AH.br [1] (by kernel_rfl) rfl ⟨Br.mk' rfl trivial ?_, trivial⟩
              refine SR.q' (r_ld (v := .int .i64 ((gt a i).Given)) sca3 rfl (((hm221).lo hk240).cell rfl)) ?_
              refine SR.nil ⟨(Kp.refl w223 : Kp (fun b_ => b_ = g149) w223 w223).lo hk240, _, rfl, ?_⟩
              refine AH.take 7 rfl (by kernel_rfl) trivial ((Kp.refl w223 : Kp (fun b_ => b_ = g149) w223 w223).lo hk240) (fun w' hw' => r_add rfl rfl (by omega)) <| AH.take 8 rfl (by kernel_rfl) trivial ((Kp.refl w223 : Kp (fun b_ => b_ = g149) w223 w223).lo hk240) (fun w' hw' => r_fa fa25_3 rfl) <| AH.br [9] (by kernel_rfl) rfl ⟨Br.mk' rfl trivial ?_, trivial⟩
              refine SR.store (o := 3) (vs := [.int .i64 (((gt a i).Given) + ((gt b k).Given))]) sca3.2 rfl rfl rfl rfl ((hm221).lo hk240) (Nat.le_of_ble_eq_true rfl) rfl ?_
              intro w243 hk244 hs245 hb246
              have hz247 := hk244.size
              have hB248 := hB242.new hk244 (by omega)
              have hS249 := ((Kp.refl w223 : Kp (fun b_ => b_ = g149) w223 w223).lo hk240).step hk244 (fun _ _ e => e)
              refine SR.nil ⟨hS249, _, rfl, ?_⟩
              refine AH.done (by kernel_rfl) ?_
              exact ⟨⟨rfl, rfl, rfl, rfl, rfl, rfl, rfl, rfl, trivial⟩, hS249, (hb246)⟩
            rintro f251 w252 ⟨hat254, hR253, hm250⟩
            rw [← sets_of_at hat254]
            have hz255 := hR253.size
            have hB256 := hB227.new hR253 (by omega)
            refine W.seq ?_
            refine W.regA (Kp (fun b_ => b_ = g149) w252) (fun f' w' => At f' [(0, .slice Aa na ca), (1, .slice Ab nb cb), (4, .slice none 0 0), (5, .bool false), (6, .slice A38 n38 c38), (7, .int .i64 (i : Int)), (8, .int .i64 (k : Int)), (9, .pointer (some ((⟨g149, 0, none⟩ : Addr))))] ∧ (Kp (fun b_ => b_ = g149) w252 w') ∧ (Blk w' g149 25 [.int .i64 ((gt a i).Month), .int .i64 (((gt a i).Lent) + ((gt b k).Lent)), .int .i64 (((gt a i).Copied) + ((gt b k).Copied)), .int .i64 (((gt a i).Given) + ((gt b k).Given)), .int .i64 (((gt a i).Fines) + ((gt b k).Fines))])) mo ?_ ?_
            · intro w268 hk269
              have hz270 := hk269.size
              have hB271 := hB256.lo hk269
              refine AH.take 0 rfl (by kernel_rfl) trivial ((Kp.refl w252 : Kp (fun b_ => b_ = g149) w252 w252).lo hk269) (fun w' hw' => r_fa fa25_4 rfl) <| AH.take 2 rfl (by kernel_rfl) trivial ((Kp.refl w252 : Kp (fun b_ => b_ = g149) w252 w252).lo hk269) (fun w' hw' => r_mv (v := .slice _ _ _) rfl) <| AH.take 3 rfl (by kernel_rfl) trivial ((Kp.refl w252 : Kp (fun b_ => b_ = g149) w252 w252).lo hk269) (fun w' hw' => r_mv (v := .int .i64 _) rfl) <| AH.take 4 rfl (by kernel_rfl) trivial ((Kp.refl w252 : Kp (fun b_ => b_ = g149) w252 w252).lo hk269) (fun w' hw' => r_ixR tsl31 (((((((((((hm45).lo hk55).lo hk76).lo hk118).lo hk152).kp hk159 (fun b_ hb e' => by have e'' : b_ = g149 := e'; omega)).kp hR195 (fun b_ hb e' => by have e'' : b_ = g149 := e'; omega)).kp hR224 (fun b_ hb e' => by have e'' : b_ = g149 := e'; omega)).kp hR253 (fun b_ hb e' => by have e'' : b_ = g149 := e'; omega)).kp hw' (fun b_ hb e' => by have e'' : b_ = g149 := e'; omega))) rfl rfl (by omega)) <| AH.take 5 rfl (by kernel_rfl) trivial ((Kp.refl w252 : Kp (fun b_ => b_ = g149) w252 w252).lo hk269) (fun w' hw' => r_fa fa25_4 rfl) <| AH.take 6 rfl (by kernel_rfl) trivial ((Kp.refl w252 : Kp (fun b_ => b_ = g149) w252 w252).lo hk269) (fun w' hw' => r_ld (v := .int .i64 ((gt b k).Fines)) sca3 rfl ((((((((((((hm45).lo hk55).lo hk76).lo hk118).lo hk152).kp hk159 (fun b_ hb e' => by have e'' : b_ = g149 := e'; omega)).kp hR195 (fun b_ hb e' => by have e'' : b_ = g149 := e'; omega)).kp hR224 (fun b_ hb e' => by have e'' : b_ = g149 := e'; omega)).kp hR253 (fun b_ hb e' => by have e'' : b_ = g149 := e'; omega)).kp hw' (fun b_ hb e' => by have e'' : b_ = g149 := e'; omega))).cell hx183 rfl)) <| AH.br [1] (by kernel_rfl) rfl ⟨Br.mk' rfl trivial ?_, trivial⟩
              refine SR.q' (r_ld (v := .int .i64 ((gt a i).Fines)) sca3 rfl (((hm250).lo hk269).cell rfl)) ?_
              refine SR.nil ⟨(Kp.refl w252 : Kp (fun b_ => b_ = g149) w252 w252).lo hk269, _, rfl, ?_⟩
              refine AH.take 7 rfl (by kernel_rfl) trivial ((Kp.refl w252 : Kp (fun b_ => b_ = g149) w252 w252).lo hk269) (fun w' hw' => r_add rfl rfl (by omega)) <| AH.take 8 rfl (by kernel_rfl) trivial ((Kp.refl w252 : Kp (fun b_ => b_ = g149) w252 w252).lo hk269) (fun w' hw' => r_fa fa25_4 rfl) <| AH.br [9] (by kernel_rfl) rfl ⟨Br.mk' rfl trivial ?_, trivial⟩
              refine SR.store (o := 4) (vs := [.int .i64 (((gt a i).Fines) + ((gt b k).Fines))]) sca3.2 rfl rfl rfl rfl ((hm250).lo hk269) (Nat.le_of_ble_eq_true rfl) rfl ?_
              intro w272 hk273 hs274 hb275
              have hz276 := hk273.size
              have hB277 := hB271.new hk273 (by omega)
              have hS278 := ((Kp.refl w252 : Kp (fun b_ => b_ = g149) w252 w252).lo hk269).step hk273 (fun _ _ e => e)
              refine SR.nil ⟨hS278, _, rfl, ?_⟩
              refine AH.done (by kernel_rfl) ?_
              exact ⟨⟨rfl, rfl, rfl, rfl, rfl, rfl, rfl, rfl, trivial⟩, hS278, (hb275)⟩
            rintro f280 w281 ⟨hat283, hR282, hm279⟩
            rw [← sets_of_at hat283]
            have hz284 := hR282.size
            have hB285 := hB256.new hR282 (by omega)
            refine W.seq ?_
            refine W.regS (SR.q' (r_mv (v := .slice _ _ _) rfl) <| SR.q' (r_lda (l := [.int .i64 ((gt a i).Month), .int .i64 (((gt a i).Lent) + ((gt b k).Lent)), .int .i64 (((gt a i).Copied) + ((gt b k).Copied)), .int .i64 (((gt a i).Given) + ((gt b k).Given)), .int .i64 (((gt a i).Fines) + ((gt b k).Fines))]) agg25 rfl (fun _ _ hu => (hm279).cell hu) rfl) <| SR.lit (vs := [.agg (List.toArray [.int .i64 ((gt a i).Month), .int .i64 (((gt a i).Lent) + ((gt b k).Lent)), .int .i64 (((gt a i).Copied) + ((gt b k).Copied)), .int .i64 (((gt a i).Given) + ((gt b k).Given)), .int .i64 (((gt a i).Fines) + ((gt b k).Fines))])]) (L := ([(⟨(gt a i).Month, ((gt a i).Lent) + ((gt b k).Lent), ((gt a i).Copied) + ((gt b k).Copied), ((gt a i).Given) + ((gt b k).Given), ((gt a i).Fines) + ((gt b k).Fines)⟩ : LibRow)] : List LibRow)) (enc := encLibRow) tel31 (fun _ => rfl) rfl rfl rfl (by decide) ?_)
            intro g286 w287 hg288 hk289 hO290
            have hz291 := hk289.size
            have hB292 := hB285.lo hk289
            have hd293 : ¬ A38 = some ⟨g286, 0, none⟩ := fun e' => by have := ((((((((((hO46).lo hk55).lo hk76).lo hk118).lo hk152).kp hk159 (fun b_ hb e' => hd157 (by have e'' : b_ = g149 := e'; rw [← e'']; exact hb))).kp hR195 (fun b_ hb e' => hd157 (by have e'' : b_ = g149 := e'; rw [← e'']; exact hb))).kp hR224 (fun b_ hb e' => hd157 (by have e'' : b_ = g149 := e'; rw [← e'']; exact hb))).kp hR253 (fun b_ hb e' => hd157 (by have e'' : b_ = g149 := e'; rw [← e'']; exact hb))).kp hR282 (fun b_ hb e' => hd157 (by have e'' : b_ = g149 := e'; rw [← e'']; exact hb))).base_le e'; omega
            refine SR.app tel31 rfl rfl (((((((((((hO46).lo hk55).lo hk76).lo hk118).lo hk152).kp hk159 (fun b_ hb e' => hd157 (by have e'' : b_ = g149 := e'; rw [← e'']; exact hb))).kp hR195 (fun b_ hb e' => hd157 (by have e'' : b_ = g149 := e'; rw [← e'']; exact hb))).kp hR224 (fun b_ hb e' => hd157 (by have e'' : b_ = g149 := e'; rw [← e'']; exact hb))).kp hR253 (fun b_ hb e' => hd157 (by have e'' : b_ = g149 := e'; rw [← e'']; exact hb))).kp hR282 (fun b_ hb e' => hd157 (by have e'' : b_ = g149 := e'; rw [← e'']; exact hb))).lo hk289) ((hO290).rd) (fun _ => rfl) (by omega) (by omega) ?_
            intro A294 c295 w296 hk297 hO298 hN299
            have hz300 := hk297.size
            have hB301 := hB292.step hk297 (fun i_ hi_ e' => by have := ((((((((((((hO46).lo hk55).lo hk76).lo hk118).lo hk152).kp hk159 (fun b_ hb e' => hd157 (by have e'' : b_ = g149 := e'; rw [← e'']; exact hb))).kp hR195 (fun b_ hb e' => hd157 (by have e'' : b_ = g149 := e'; rw [← e'']; exact hb))).kp hR224 (fun b_ hb e' => hd157 (by have e'' : b_ = g149 := e'; rw [← e'']; exact hb))).kp hR253 (fun b_ hb e' => hd157 (by have e'' : b_ = g149 := e'; rw [← e'']; exact hb))).kp hR282 (fun b_ hb e' => hd157 (by have e'' : b_ = g149 := e'; rw [← e'']; exact hb))).lo hk289)).base_le e'; first | omega | (exfalso; omega) | exact e' | exact .inl e' | exact .inr e')
            have hd302 : ¬ A294 = some ⟨g149, 0, none⟩ := fun e' => (hN299 g149 e').elim (fun h => hd157 (h.trans e')) (fun h => by have := ((hm279).lo hk289).lt; omega)
            refine SR.q' (r_as (v := .slice _ _ _) rfl) <| SR.nil ?_
            refine W.seq ?_
            refine W.regS (SR.q' (r_mv (v := .int .i64 _) rfl) <| SR.q' (r_add rfl rfl (by omega)) <| SR.q' (r_as (v := .int .i64 _) rfl) <| SR.nil ?_)
            refine W.regS (SR.q' (r_mv (v := .int .i64 _) rfl) <| SR.q' (r_add rfl rfl (by omega)) <| SR.q' (r_as (v := .int .i64 _) rfl) <| SR.nil ?_)
            refine ⟨((i + 1), (k + 1), o ++ ([(⟨(gt a i).Month, ((gt a i).Lent) + ((gt b k).Lent), ((gt a i).Copied) + ((gt b k).Copied), ((gt a i).Given) + ((gt b k).Given), ((gt a i).Fines) + ((gt b k).Fines)⟩ : LibRow)] : List LibRow), A294, n38 + 1, c295), _, rfl, ⟨rfl, rfl, rfl, rfl, rfl, rfl, rfl, trivial⟩, ⟨hB301, (((((((((((hm44).lo hk55).lo hk76).lo hk118).lo hk152).kp hk159 (fun b_ hb e' => by have e'' : b_ = g149 := e'; omega)).kp hR195 (fun b_ hb e' => by have e'' : b_ = g149 := e'; omega)).kp hR224 (fun b_ hb e' => by have e'' : b_ = g149 := e'; omega)).kp hR253 (fun b_ hb e' => by have e'' : b_ = g149 := e'; omega)).kp hR282 (fun b_ hb e' => by have e'' : b_ = g149 := e'; omega)).lo hk289).kp hk297 (fun b_ hb e' => by have := ((((((((((((hO46).lo hk55).lo hk76).lo hk118).lo hk152).kp hk159 (fun b_ hb e' => hd157 (by have e'' : b_ = g149 := e'; rw [← e'']; exact hb))).kp hR195 (fun b_ hb e' => hd157 (by have e'' : b_ = g149 := e'; rw [← e'']; exact hb))).kp hR224 (fun b_ hb e' => hd157 (by have e'' : b_ = g149 := e'; rw [← e'']; exact hb))).kp hR253 (fun b_ hb e' => hd157 (by have e'' : b_ = g149 := e'; rw [← e'']; exact hb))).kp hR282 (fun b_ hb e' => hd157 (by have e'' : b_ = g149 := e'; rw [← e'']; exact hb))).lo hk289)).base_le e'; omega), (((((((((((hm45).lo hk55).lo hk76).lo hk118).lo hk152).kp hk159 (fun b_ hb e' => by have e'' : b_ = g149 := e'; omega)).kp hR195 (fun b_ hb e' => by have e'' : b_ = g149 := e'; omega)).kp hR224 (fun b_ hb e' => by have e'' : b_ = g149 := e'; omega)).kp hR253 (fun b_ hb e' => by have e'' : b_ = g149 := e'; omega)).kp hR282 (fun b_ hb e' => by have e'' : b_ = g149 := e'; omega)).lo hk289).kp hk297 (fun b_ hb e' => by have := ((((((((((((hO46).lo hk55).lo hk76).lo hk118).lo hk152).kp hk159 (fun b_ hb e' => hd157 (by have e'' : b_ = g149 := e'; rw [← e'']; exact hb))).kp hR195 (fun b_ hb e' => hd157 (by have e'' : b_ = g149 := e'; rw [← e'']; exact hb))).kp hR224 (fun b_ hb e' => hd157 (by have e'' : b_ = g149 := e'; rw [← e'']; exact hb))).kp hR253 (fun b_ hb e' => hd157 (by have e'' : b_ = g149 := e'; rw [← e'']; exact hb))).kp hR282 (fun b_ hb e' => hd157 (by have e'' : b_ = g149 := e'; rw [← e'']; exact hb))).lo hk289)).base_le e'; omega), (hO298), ?_⟩, ?_⟩
            · exact (z_c_spec_MergeRows_304 a na hbda hlea b nb hbdb hleb h17 hq27 hq28 hq29 hq30 i k o n38 c38 hi47 hl48 hq50 h58 h79 hq102 hq103 h121 hq144 hq145 hx147 hq148 hx183 hq184)
            · exact (z_c_spec_MergeRows_305 a na hbda hlea b nb hbdb hleb h17 hq27 hq28 hq29 hq30 i k o n38 c38 hi47 hl48 hq50 h58 h79 hq102 hq103 h121 hq144 hq145 hx147 hq148 hx183 hq184)
      · have hq306 : ¬ ((i : Int) < (na : Int)) := (not_or.1 h58).1
        have hq307 : ¬ ((k : Int) < (nb : Int)) := (not_or.1 h58).2
        refine W.exit (xin_here ?_)
        refine W.seq ?_
        refine W.seq ?_
        refine W.regS (SR.q' (r_mv (v := .slice _ _ _) rfl) <| SR.call ent38 (c_spec_l31Good w53 o ((((hO46).lo hk55).rd))) rfl ?_)
        rintro e w308 ⟨rfl, hk309⟩
        refine ⟨_, rfl, ?_⟩
        have hz310 := hk309.size
        have hB311 := hB57.lo hk309
        refine SR.q' (r_not rfl) <| SR.nil ?_
        refine W.cond_n rfl (fun h312 => ?_) (fun h312 => ?_)
        · refine W.seq ?_
          refine W.regS (SR.lit (vs := []) (L := ([] : List LibRow)) (enc := encLibRow) tel31 (fun _ => rfl) rfl rfl rfl (by decide) ?_)
          intro g313 w314 hg315 hk316 hO317
          have hz318 := hk316.size
          have hB319 := hB311.lo hk316
          have hd320 : ¬ A38 = some ⟨g313, 0, none⟩ := fun e' => by have := (((hO46).lo hk55).lo hk309).base_le e'; omega
          refine SR.q' (r_as (v := .slice _ _ _) rfl) <| SR.q' (r_as (v := .bool false) rfl) <| SR.nil ?_
          refine W.ret ?_
          refine ret2 rfl (v := .slice _ _ _) (v' := .bool _) rfl rfl ?_
          exact ⟨(some (⟨g313, 0, none⟩ : Addr)), 0, 0, eR (eT2 rfl (eB (z_c_spec_MergeRows_322 a na hbda hlea b nb hbdb hleb h17 hq27 hq28 hq29 hq30 i k o n38 c38 hi47 hl48 hq50 h58 hq306 hq307 h312))), (SlO.eqv ((hO317).down (by omega)) (z_c_spec_MergeRows_321 a na hbda hlea b nb hbdb hleb h17 hq27 hq28 hq29 hq30 i k o n38 c38 hi47 hl48 hq50 h58 hq306 hq307 h312)), hB319⟩
        · have hq323 := rows_len h312
          refine W.skip ?_
          refine W.seq ?_
          refine W.regS (SR.q' (r_mv (v := .slice _ _ _) rfl) <| SR.q' (r_as (v := .slice _ _ _) rfl) <| SR.q' (r_as (v := .bool true) rfl) <| SR.nil ?_)
          refine W.ret ?_
          refine ret2 rfl (v := .slice _ _ _) (v' := .bool _) rfl rfl ?_
          exact ⟨A38, n38, c38, eR (eT2 rfl (eB (z_c_spec_MergeRows_325 a na hbda hlea b nb hbdb hleb h17 hq27 hq28 hq29 hq30 i k o n38 c38 hi47 hl48 hq50 h58 hq306 hq307 h312 hq323))), (SlO.eqv ((((hO46).lo hk55).lo hk309).down (by omega)) (z_c_spec_MergeRows_324 a na hbda hlea b nb hbdb hleb h17 hq27 hq28 hq29 hq30 i k o n38 c38 hi47 hl48 hq50 h58 hq306 hq307 h312 hq323)), hB311⟩

theorem z_c_impl_MergeRows_18 (a : List LibRow) (na : Nat) (hbda : (na : Int) ≤ 9223372036854775807) (hlea : na = a.length) (b : List LibRow) (nb : Nat) (hbdb : (nb : Int) ≤ 9223372036854775807) (hleb : nb = b.length) (h17 : (¬ (RowsOK a)) ∨ (¬ (RowsOK b))) : ([] : List LibRow) = (mrg a b).getD [] := by
  first | (rw [show mrg a b = none from by first | exact mrg_or ‹_› | exact mrg_noM (mrg_fold (j := j) ‹RowsOK a› ‹RowsOK b› (by omega)) ‹_›]; rfl) | (rw [mrg_yes ‹RowsOK a› ‹RowsOK b› (mrg_fold (j := j) ‹RowsOK a› ‹RowsOK b› (by omega)) ‹_›]; rfl)
theorem z_c_impl_MergeRows_19 (a : List LibRow) (na : Nat) (hbda : (na : Int) ≤ 9223372036854775807) (hlea : na = a.length) (b : List LibRow) (nb : Nat) (hbdb : (nb : Int) ≤ 9223372036854775807) (hleb : nb = b.length) (h17 : (¬ (RowsOK a)) ∨ (¬ (RowsOK b))) : false = (mrg a b).isSome := by
  first | (rw [show mrg a b = none from by first | exact mrg_or ‹_› | exact mrg_noM (mrg_fold (j := j) ‹RowsOK a› ‹RowsOK b› (by omega)) ‹_›]; rfl) | (rw [mrg_yes ‹RowsOK a› ‹RowsOK b› (mrg_fold (j := j) ‹RowsOK a› ‹RowsOK b› (by omega)) ‹_›]; rfl)
theorem z_c_impl_MergeRows_35 (a : List LibRow) (na : Nat) (hbda : (na : Int) ≤ 9223372036854775807) (hlea : na = a.length) (b : List LibRow) (nb : Nat) (hbdb : (nb : Int) ≤ 9223372036854775807) (hleb : nb = b.length) (h17 : ¬ ((¬ (RowsOK a)) ∨ (¬ (RowsOK b)))) (hq20 : RowsOK a) (hq21 : RowsOK b) (hq22 : a.length ≤ 12) (hq23 : b.length ≤ 12) (n27 : Nat) (hl32 : n27 = (a).length) (hl33 : (n27 : Int) ≤ 9223372036854775807) : 0 ≤ nb := by
  omega
theorem z_c_impl_MergeRows_36 (a : List LibRow) (na : Nat) (hbda : (na : Int) ≤ 9223372036854775807) (hlea : na = a.length) (b : List LibRow) (nb : Nat) (hbdb : (nb : Int) ≤ 9223372036854775807) (hleb : nb = b.length) (h17 : ¬ ((¬ (RowsOK a)) ∨ (¬ (RowsOK b)))) (hq20 : RowsOK a) (hq21 : RowsOK b) (hq22 : a.length ≤ 12) (hq23 : b.length ≤ 12) (n27 : Nat) (hl32 : n27 = (a).length) (hl33 : (n27 : Int) ≤ 9223372036854775807) : a = (b.take 0).foldl ins a := by
  rfl
theorem z_c_impl_MergeRows_66 (a : List LibRow) (na : Nat) (hbda : (na : Int) ≤ 9223372036854775807) (hlea : na = a.length) (b : List LibRow) (nb : Nat) (hbdb : (nb : Int) ≤ 9223372036854775807) (hleb : nb = b.length) (h17 : ¬ ((¬ (RowsOK a)) ∨ (¬ (RowsOK b)))) (hq20 : RowsOK a) (hq21 : RowsOK b) (hq22 : a.length ≤ 12) (hq23 : b.length ≤ 12) (n27 : Nat) (hl32 : n27 = (a).length) (hl33 : (n27 : Int) ≤ 9223372036854775807) (j : Nat) (n34 : Nat) (c34 : Nat) (hi43 : j ≤ nb) (hl44 : n34 = ((b.take j).foldl ins a).length) (hq46 : ((b.take j).foldl ins a).length ≤ a.length + b.length) (h47 : (j : Int) < (nb : Int)) (hx49 : b[j]? = some (gt b j)) (hq50 : ((1 : Int) ≤ (gt b j).Month ∧ (gt b j).Month ≤ 1200) ∧ ((0 : Int) ≤ (gt b j).Lent ∧ (gt b j).Lent ≤ 9999) ∧ ((0 : Int) ≤ (gt b j).Copied ∧ (gt b j).Copied ≤ 9999) ∧ ((0 : Int) ≤ (gt b j).Given ∧ (gt b j).Given ≤ 999) ∧ ((0 : Int) ≤ (gt b j).Fines ∧ (gt b j).Fines ≤ 99999)) : 0 ≤ ((b.take j).foldl ins a).length ∧ LtTo ((b.take j).foldl ins a) (gt b j).Month 0 := by
  exact ⟨Nat.zero_le _, LtTo.zero⟩
theorem z_c_impl_MergeRows_92 (a : List LibRow) (na : Nat) (hbda : (na : Int) ≤ 9223372036854775807) (hlea : na = a.length) (b : List LibRow) (nb : Nat) (hbdb : (nb : Int) ≤ 9223372036854775807) (hleb : nb = b.length) (h17 : ¬ ((¬ (RowsOK a)) ∨ (¬ (RowsOK b)))) (hq20 : RowsOK a) (hq21 : RowsOK b) (hq22 : a.length ≤ 12) (hq23 : b.length ≤ 12) (n27 : Nat) (hl32 : n27 = (a).length) (hl33 : (n27 : Int) ≤ 9223372036854775807) (j : Nat) (n34 : Nat) (c34 : Nat) (hi43 : j ≤ nb) (hl44 : n34 = ((b.take j).foldl ins a).length) (hq46 : ((b.take j).foldl ins a).length ≤ a.length + b.length) (h47 : (j : Int) < (nb : Int)) (hx49 : b[j]? = some (gt b j)) (hq50 : ((1 : Int) ≤ (gt b j).Month ∧ (gt b j).Month ≤ 1200) ∧ ((0 : Int) ≤ (gt b j).Lent ∧ (gt b j).Lent ≤ 9999) ∧ ((0 : Int) ≤ (gt b j).Copied ∧ (gt b j).Copied ≤ 9999) ∧ ((0 : Int) ≤ (gt b j).Given ∧ (gt b j).Given ≤ 999) ∧ ((0 : Int) ≤ (gt b j).Fines ∧ (gt b j).Fines ≤ 99999)) (k : Nat) (hi74 : k ≤ ((b.take j).foldl ins a).length ∧ LtTo ((b.take j).foldl ins a) (gt b j).Month k) (h89 : ((k : Int) < (n34 : Int)) ∧ (((gt ((b.take j).foldl ins a) k).Month) < ((gt b j).Month))) (hq90 : (k : Int) < (n34 : Int)) (hq91 : ((gt ((b.take j).foldl ins a) k).Month) < ((gt b j).Month)) : k + 1 ≤ ((b.take j).foldl ins a).length ∧ LtTo ((b.take j).foldl ins a) (gt b j).Month (k + 1) := by
  exact ⟨by omega, LtTo.next (And.right ‹_ ∧ LtTo _ _ _›) (gt_get (by omega)) (And.right ‹_ ∧ _ < _›)⟩
theorem z_c_impl_MergeRows_93 (a : List LibRow) (na : Nat) (hbda : (na : Int) ≤ 9223372036854775807) (hlea : na = a.length) (b : List LibRow) (nb : Nat) (hbdb : (nb : Int) ≤ 9223372036854775807) (hleb : nb = b.length) (h17 : ¬ ((¬ (RowsOK a)) ∨ (¬ (RowsOK b)))) (hq20 : RowsOK a) (hq21 : RowsOK b) (hq22 : a.length ≤ 12) (hq23 : b.length ≤ 12) (n27 : Nat) (hl32 : n27 = (a).length) (hl33 : (n27 : Int) ≤ 9223372036854775807) (j : Nat) (n34 : Nat) (c34 : Nat) (hi43 : j ≤ nb) (hl44 : n34 = ((b.take j).foldl ins a).length) (hq46 : ((b.take j).foldl ins a).length ≤ a.length + b.length) (h47 : (j : Int) < (nb : Int)) (hx49 : b[j]? = some (gt b j)) (hq50 : ((1 : Int) ≤ (gt b j).Month ∧ (gt b j).Month ≤ 1200) ∧ ((0 : Int) ≤ (gt b j).Lent ∧ (gt b j).Lent ≤ 9999) ∧ ((0 : Int) ≤ (gt b j).Copied ∧ (gt b j).Copied ≤ 9999) ∧ ((0 : Int) ≤ (gt b j).Given ∧ (gt b j).Given ≤ 999) ∧ ((0 : Int) ≤ (gt b j).Fines ∧ (gt b j).Fines ≤ 99999)) (k : Nat) (hi74 : k ≤ ((b.take j).foldl ins a).length ∧ LtTo ((b.take j).foldl ins a) (gt b j).Month k) (h89 : ((k : Int) < (n34 : Int)) ∧ (((gt ((b.take j).foldl ins a) k).Month) < ((gt b j).Month))) (hq90 : (k : Int) < (n34 : Int)) (hq91 : ((gt ((b.take j).foldl ins a) k).Month) < ((gt b j).Month)) : ((b.take j).foldl ins a).length - (k + 1) < ((b.take j).foldl ins a).length - k := by
  omega
theorem z_c_impl_MergeRows_130 (a : List LibRow) (na : Nat) (hbda : (na : Int) ≤ 9223372036854775807) (hlea : na = a.length) (b : List LibRow) (nb : Nat) (hbdb : (nb : Int) ≤ 9223372036854775807) (hleb : nb = b.length) (h17 : ¬ ((¬ (RowsOK a)) ∨ (¬ (RowsOK b)))) (hq20 : RowsOK a) (hq21 : RowsOK b) (hq22 : a.length ≤ 12) (hq23 : b.length ≤ 12) (n27 : Nat) (hl32 : n27 = (a).length) (hl33 : (n27 : Int) ≤ 9223372036854775807) (j : Nat) (n34 : Nat) (c34 : Nat) (hi43 : j ≤ nb) (hl44 : n34 = ((b.take j).foldl ins a).length) (hq46 : ((b.take j).foldl ins a).length ≤ a.length + b.length) (h47 : (j : Int) < (nb : Int)) (hx49 : b[j]? = some (gt b j)) (hq50 : ((1 : Int) ≤ (gt b j).Month ∧ (gt b j).Month ≤ 1200) ∧ ((0 : Int) ≤ (gt b j).Lent ∧ (gt b j).Lent ≤ 9999) ∧ ((0 : Int) ≤ (gt b j).Copied ∧ (gt b j).Copied ≤ 9999) ∧ ((0 : Int) ≤ (gt b j).Given ∧ (gt b j).Given ≤ 999) ∧ ((0 : Int) ≤ (gt b j).Fines ∧ (gt b j).Fines ≤ 99999)) (k : Nat) (hi74 : k ≤ ((b.take j).foldl ins a).length ∧ LtTo ((b.take j).foldl ins a) (gt b j).Month k) (h89 : ¬ (((k : Int) < (n34 : Int)) ∧ (((gt ((b.take j).foldl ins a) k).Month) < ((gt b j).Month)))) (h108 : ((k : Int) = (n34 : Int)) ∨ (¬ (((gt ((b.take j).foldl ins a) k).Month) = ((gt b j).Month)))) (n120 : Nat) (hl128 : n120 = (((b.take j).foldl ins a).take (k : Int).toNat ++ ([(gt b j)] : List LibRow) ++ ((b.take j).foldl ins a).drop (k : Int).toNat).length) (hl129 : (n120 : Int) ≤ 9223372036854775807) : ((b.take j).foldl ins a).take (k : Int).toNat ++ ([(gt b j)] : List LibRow) ++ ((b.take j).foldl ins a).drop (k : Int).toNat = (b.take (j + 1)).foldl ins a := by
  try simp only [Int.toNat_natCast, List.set_set]
  rw [fold_next ‹b[j]? = some _›]
  first | exact ins_A (And.right ‹_ ∧ LtTo _ _ _›) rfl (by omega) (by rw [← ‹_ = (_ : List LibRow).length›]; assumption) (by rw [← ‹_ = (_ : List LibRow).length›]; assumption) | exact ins_B (And.right ‹_ ∧ LtTo _ _ _›) (by omega) (by rw [← ‹_ = (_ : List LibRow).length›]; assumption) (by rw [← ‹_ = (_ : List LibRow).length›]; assumption)
theorem z_c_impl_MergeRows_131 (a : List LibRow) (na : Nat) (hbda : (na : Int) ≤ 9223372036854775807) (hlea : na = a.length) (b : List LibRow) (nb : Nat) (hbdb : (nb : Int) ≤ 9223372036854775807) (hleb : nb = b.length) (h17 : ¬ ((¬ (RowsOK a)) ∨ (¬ (RowsOK b)))) (hq20 : RowsOK a) (hq21 : RowsOK b) (hq22 : a.length ≤ 12) (hq23 : b.length ≤ 12) (n27 : Nat) (hl32 : n27 = (a).length) (hl33 : (n27 : Int) ≤ 9223372036854775807) (j : Nat) (n34 : Nat) (c34 : Nat) (hi43 : j ≤ nb) (hl44 : n34 = ((b.take j).foldl ins a).length) (hq46 : ((b.take j).foldl ins a).length ≤ a.length + b.length) (h47 : (j : Int) < (nb : Int)) (hx49 : b[j]? = some (gt b j)) (hq50 : ((1 : Int) ≤ (gt b j).Month ∧ (gt b j).Month ≤ 1200) ∧ ((0 : Int) ≤ (gt b j).Lent ∧ (gt b j).Lent ≤ 9999) ∧ ((0 : Int) ≤ (gt b j).Copied ∧ (gt b j).Copied ≤ 9999) ∧ ((0 : Int) ≤ (gt b j).Given ∧ (gt b j).Given ≤ 999) ∧ ((0 : Int) ≤ (gt b j).Fines ∧ (gt b j).Fines ≤ 99999)) (k : Nat) (hi74 : k ≤ ((b.take j).foldl ins a).length ∧ LtTo ((b.take j).foldl ins a) (gt b j).Month k) (h89 : ¬ (((k : Int) < (n34 : Int)) ∧ (((gt ((b.take j).foldl ins a) k).Month) < ((gt b j).Month)))) (h108 : ((k : Int) = (n34 : Int)) ∨ (¬ (((gt ((b.take j).foldl ins a) k).Month) = ((gt b j).Month)))) (n120 : Nat) (hl128 : n120 = (((b.take j).foldl ins a).take (k : Int).toNat ++ ([(gt b j)] : List LibRow) ++ ((b.take j).foldl ins a).drop (k : Int).toNat).length) (hl129 : (n120 : Int) ≤ 9223372036854775807) : j + 1 ≤ nb := by
  omega
theorem z_c_impl_MergeRows_132 (a : List LibRow) (na : Nat) (hbda : (na : Int) ≤ 9223372036854775807) (hlea : na = a.length) (b : List LibRow) (nb : Nat) (hbdb : (nb : Int) ≤ 9223372036854775807) (hleb : nb = b.length) (h17 : ¬ ((¬ (RowsOK a)) ∨ (¬ (RowsOK b)))) (hq20 : RowsOK a) (hq21 : RowsOK b) (hq22 : a.length ≤ 12) (hq23 : b.length ≤ 12) (n27 : Nat) (hl32 : n27 = (a).length) (hl33 : (n27 : Int) ≤ 9223372036854775807) (j : Nat) (n34 : Nat) (c34 : Nat) (hi43 : j ≤ nb) (hl44 : n34 = ((b.take j).foldl ins a).length) (hq46 : ((b.take j).foldl ins a).length ≤ a.length + b.length) (h47 : (j : Int) < (nb : Int)) (hx49 : b[j]? = some (gt b j)) (hq50 : ((1 : Int) ≤ (gt b j).Month ∧ (gt b j).Month ≤ 1200) ∧ ((0 : Int) ≤ (gt b j).Lent ∧ (gt b j).Lent ≤ 9999) ∧ ((0 : Int) ≤ (gt b j).Copied ∧ (gt b j).Copied ≤ 9999) ∧ ((0 : Int) ≤ (gt b j).Given ∧ (gt b j).Given ≤ 999) ∧ ((0 : Int) ≤ (gt b j).Fines ∧ (gt b j).Fines ≤ 99999)) (k : Nat) (hi74 : k ≤ ((b.take j).foldl ins a).length ∧ LtTo ((b.take j).foldl ins a) (gt b j).Month k) (h89 : ¬ (((k : Int) < (n34 : Int)) ∧ (((gt ((b.take j).foldl ins a) k).Month) < ((gt b j).Month)))) (h108 : ((k : Int) = (n34 : Int)) ∨ (¬ (((gt ((b.take j).foldl ins a) k).Month) = ((gt b j).Month)))) (n120 : Nat) (hl128 : n120 = (((b.take j).foldl ins a).take (k : Int).toNat ++ ([(gt b j)] : List LibRow) ++ ((b.take j).foldl ins a).drop (k : Int).toNat).length) (hl129 : (n120 : Int) ≤ 9223372036854775807) : nb - (j + 1) < nb - j := by
  omega
theorem z_c_impl_MergeRows_261 (a : List LibRow) (na : Nat) (hbda : (na : Int) ≤ 9223372036854775807) (hlea : na = a.length) (b : List LibRow) (nb : Nat) (hbdb : (nb : Int) ≤ 9223372036854775807) (hleb : nb = b.length) (h17 : ¬ ((¬ (RowsOK a)) ∨ (¬ (RowsOK b)))) (hq20 : RowsOK a) (hq21 : RowsOK b) (hq22 : a.length ≤ 12) (hq23 : b.length ≤ 12) (n27 : Nat) (hl32 : n27 = (a).length) (hl33 : (n27 : Int) ≤ 9223372036854775807) (j : Nat) (n34 : Nat) (c34 : Nat) (hi43 : j ≤ nb) (hl44 : n34 = ((b.take j).foldl ins a).length) (hq46 : ((b.take j).foldl ins a).length ≤ a.length + b.length) (h47 : (j : Int) < (nb : Int)) (hx49 : b[j]? = some (gt b j)) (hq50 : ((1 : Int) ≤ (gt b j).Month ∧ (gt b j).Month ≤ 1200) ∧ ((0 : Int) ≤ (gt b j).Lent ∧ (gt b j).Lent ≤ 9999) ∧ ((0 : Int) ≤ (gt b j).Copied ∧ (gt b j).Copied ≤ 9999) ∧ ((0 : Int) ≤ (gt b j).Given ∧ (gt b j).Given ≤ 999) ∧ ((0 : Int) ≤ (gt b j).Fines ∧ (gt b j).Fines ≤ 99999)) (k : Nat) (hi74 : k ≤ ((b.take j).foldl ins a).length ∧ LtTo ((b.take j).foldl ins a) (gt b j).Month k) (h89 : ¬ (((k : Int) < (n34 : Int)) ∧ (((gt ((b.take j).foldl ins a) k).Month) < ((gt b j).Month)))) (h108 : ¬ (((k : Int) = (n34 : Int)) ∨ (¬ (((gt ((b.take j).foldl ins a) k).Month) = ((gt b j).Month))))) (hq133 : ¬ ((k : Int) = (n34 : Int))) (hq134 : ((gt ((b.take j).foldl ins a) k).Month) = ((gt b j).Month)) (hx154 : ((b.take j).foldl ins a)[k]? = some (gt ((b.take j).foldl ins a) k)) (hq155 : ((0 : Int) ≤ (gt ((b.take j).foldl ins a) k).Lent ∧ (gt ((b.take j).foldl ins a) k).Lent ≤ 1299987) ∧ ((0 : Int) ≤ (gt ((b.take j).foldl ins a) k).Copied ∧ (gt ((b.take j).foldl ins a) k).Copied ≤ 1299987) ∧ ((0 : Int) ≤ (gt ((b.take j).foldl ins a) k).Given ∧ (gt ((b.take j).foldl ins a) k).Given ≤ 1299987) ∧ ((0 : Int) ≤ (gt ((b.take j).foldl ins a) k).Fines ∧ (gt ((b.take j).foldl ins a) k).Fines ≤ 1299987)) (hx163 : (((b.take j).foldl ins a).set ((k : Int).toNat) ({ (gt ((b.take j).foldl ins a) k) with Lent := ((gt ((b.take j).foldl ins a) k).Lent) + ((gt b j).Lent) }))[(k : Int).toNat]? = some ({ (gt ((b.take j).foldl ins a) k) with Lent := ((gt ((b.take j).foldl ins a) k).Lent) + ((gt b j).Lent) })) (hx193 : ((((b.take j).foldl ins a).set ((k : Int).toNat) ({ (gt ((b.take j).foldl ins a) k) with Lent := ((gt ((b.take j).foldl ins a) k).Lent) + ((gt b j).Lent) })).set ((k : Int).toNat) ({ ({ (gt ((b.take j).foldl ins a) k) with Lent := ((gt ((b.take j).foldl ins a) k).Lent) + ((gt b j).Lent) }) with Copied := ((gt ((b.take j).foldl ins a) k).Copied) + ((gt b j).Copied) }))[(k : Int).toNat]? = some ({ ({ (gt ((b.take j).foldl ins a) k) with Lent := ((gt ((b.take j).foldl ins a) k).Lent) + ((gt b j).Lent) }) with Copied := ((gt ((b.take j).foldl ins a) k).Copied) + ((gt b j).Copied) })) (hx223 : (((((b.take j).foldl ins a).set ((k : Int).toNat) ({ (gt ((b.take j).foldl ins a) k) with Lent := ((gt ((b.take j).foldl ins a) k).Lent) + ((gt b j).Lent) })).set ((k : Int).toNat) ({ ({ (gt ((b.take j).foldl ins a) k) with Lent := ((gt ((b.take j).foldl ins a) k).Lent) + ((gt b j).Lent) }) with Copied := ((gt ((b.take j).foldl ins a) k).Copied) + ((gt b j).Copied) })).set ((k : Int).toNat) ({ ({ ({ (gt ((b.take j).foldl ins a) k) with Lent := ((gt ((b.take j).foldl ins a) k).Lent) + ((gt b j).Lent) }) with Copied := ((gt ((b.take j).foldl ins a) k).Copied) + ((gt b j).Copied) }) with Given := ((gt ((b.take j).foldl ins a) k).Given) + ((gt b j).Given) }))[(k : Int).toNat]? = some ({ ({ ({ (gt ((b.take j).foldl ins a) k) with Lent := ((gt ((b.take j).foldl ins a) k).Lent) + ((gt b j).Lent) }) with Copied := ((gt ((b.take j).foldl ins a) k).Copied) + ((gt b j).Copied) }) with Given := ((gt ((b.take j).foldl ins a) k).Given) + ((gt b j).Given) })) (hx253 : ((((((b.take j).foldl ins a).set ((k : Int).toNat) ({ (gt ((b.take j).foldl ins a) k) with Lent := ((gt ((b.take j).foldl ins a) k).Lent) + ((gt b j).Lent) })).set ((k : Int).toNat) ({ ({ (gt ((b.take j).foldl ins a) k) with Lent := ((gt ((b.take j).foldl ins a) k).Lent) + ((gt b j).Lent) }) with Copied := ((gt ((b.take j).foldl ins a) k).Copied) + ((gt b j).Copied) })).set ((k : Int).toNat) ({ ({ ({ (gt ((b.take j).foldl ins a) k) with Lent := ((gt ((b.take j).foldl ins a) k).Lent) + ((gt b j).Lent) }) with Copied := ((gt ((b.take j).foldl ins a) k).Copied) + ((gt b j).Copied) }) with Given := ((gt ((b.take j).foldl ins a) k).Given) + ((gt b j).Given) })).set ((k : Int).toNat) ({ ({ ({ ({ (gt ((b.take j).foldl ins a) k) with Lent := ((gt ((b.take j).foldl ins a) k).Lent) + ((gt b j).Lent) }) with Copied := ((gt ((b.take j).foldl ins a) k).Copied) + ((gt b j).Copied) }) with Given := ((gt ((b.take j).foldl ins a) k).Given) + ((gt b j).Given) }) with Fines := ((gt ((b.take j).foldl ins a) k).Fines) + ((gt b j).Fines) }))[(k : Int).toNat]? = some ({ ({ ({ ({ (gt ((b.take j).foldl ins a) k) with Lent := ((gt ((b.take j).foldl ins a) k).Lent) + ((gt b j).Lent) }) with Copied := ((gt ((b.take j).foldl ins a) k).Copied) + ((gt b j).Copied) }) with Given := ((gt ((b.take j).foldl ins a) k).Given) + ((gt b j).Given) }) with Fines := ((gt ((b.take j).foldl ins a) k).Fines) + ((gt b j).Fines) })) : (((((b.take j).foldl ins a).set ((k : Int).toNat) ({ (gt ((b.take j).foldl ins a) k) with Lent := ((gt ((b.take j).foldl ins a) k).Lent) + ((gt b j).Lent) })).set ((k : Int).toNat) ({ ({ (gt ((b.take j).foldl ins a) k) with Lent := ((gt ((b.take j).foldl ins a) k).Lent) + ((gt b j).Lent) }) with Copied := ((gt ((b.take j).foldl ins a) k).Copied) + ((gt b j).Copied) })).set ((k : Int).toNat) ({ ({ ({ (gt ((b.take j).foldl ins a) k) with Lent := ((gt ((b.take j).foldl ins a) k).Lent) + ((gt b j).Lent) }) with Copied := ((gt ((b.take j).foldl ins a) k).Copied) + ((gt b j).Copied) }) with Given := ((gt ((b.take j).foldl ins a) k).Given) + ((gt b j).Given) })).set ((k : Int).toNat) ({ ({ ({ ({ (gt ((b.take j).foldl ins a) k) with Lent := ((gt ((b.take j).foldl ins a) k).Lent) + ((gt b j).Lent) }) with Copied := ((gt ((b.take j).foldl ins a) k).Copied) + ((gt b j).Copied) }) with Given := ((gt ((b.take j).foldl ins a) k).Given) + ((gt b j).Given) }) with Fines := ((gt ((b.take j).foldl ins a) k).Fines) + ((gt b j).Fines) }) = (b.take (j + 1)).foldl ins a := by
  try simp only [Int.toNat_natCast, List.set_set]
  rw [fold_next ‹b[j]? = some _›]
  first | exact ins_A (And.right ‹_ ∧ LtTo _ _ _›) rfl (by omega) (by rw [← ‹_ = (_ : List LibRow).length›]; assumption) (by rw [← ‹_ = (_ : List LibRow).length›]; assumption) | exact ins_B (And.right ‹_ ∧ LtTo _ _ _›) (by omega) (by rw [← ‹_ = (_ : List LibRow).length›]; assumption) (by rw [← ‹_ = (_ : List LibRow).length›]; assumption)
theorem z_c_impl_MergeRows_262 (a : List LibRow) (na : Nat) (hbda : (na : Int) ≤ 9223372036854775807) (hlea : na = a.length) (b : List LibRow) (nb : Nat) (hbdb : (nb : Int) ≤ 9223372036854775807) (hleb : nb = b.length) (h17 : ¬ ((¬ (RowsOK a)) ∨ (¬ (RowsOK b)))) (hq20 : RowsOK a) (hq21 : RowsOK b) (hq22 : a.length ≤ 12) (hq23 : b.length ≤ 12) (n27 : Nat) (hl32 : n27 = (a).length) (hl33 : (n27 : Int) ≤ 9223372036854775807) (j : Nat) (n34 : Nat) (c34 : Nat) (hi43 : j ≤ nb) (hl44 : n34 = ((b.take j).foldl ins a).length) (hq46 : ((b.take j).foldl ins a).length ≤ a.length + b.length) (h47 : (j : Int) < (nb : Int)) (hx49 : b[j]? = some (gt b j)) (hq50 : ((1 : Int) ≤ (gt b j).Month ∧ (gt b j).Month ≤ 1200) ∧ ((0 : Int) ≤ (gt b j).Lent ∧ (gt b j).Lent ≤ 9999) ∧ ((0 : Int) ≤ (gt b j).Copied ∧ (gt b j).Copied ≤ 9999) ∧ ((0 : Int) ≤ (gt b j).Given ∧ (gt b j).Given ≤ 999) ∧ ((0 : Int) ≤ (gt b j).Fines ∧ (gt b j).Fines ≤ 99999)) (k : Nat) (hi74 : k ≤ ((b.take j).foldl ins a).length ∧ LtTo ((b.take j).foldl ins a) (gt b j).Month k) (h89 : ¬ (((k : Int) < (n34 : Int)) ∧ (((gt ((b.take j).foldl ins a) k).Month) < ((gt b j).Month)))) (h108 : ¬ (((k : Int) = (n34 : Int)) ∨ (¬ (((gt ((b.take j).foldl ins a) k).Month) = ((gt b j).Month))))) (hq133 : ¬ ((k : Int) = (n34 : Int))) (hq134 : ((gt ((b.take j).foldl ins a) k).Month) = ((gt b j).Month)) (hx154 : ((b.take j).foldl ins a)[k]? = some (gt ((b.take j).foldl ins a) k)) (hq155 : ((0 : Int) ≤ (gt ((b.take j).foldl ins a) k).Lent ∧ (gt ((b.take j).foldl ins a) k).Lent ≤ 1299987) ∧ ((0 : Int) ≤ (gt ((b.take j).foldl ins a) k).Copied ∧ (gt ((b.take j).foldl ins a) k).Copied ≤ 1299987) ∧ ((0 : Int) ≤ (gt ((b.take j).foldl ins a) k).Given ∧ (gt ((b.take j).foldl ins a) k).Given ≤ 1299987) ∧ ((0 : Int) ≤ (gt ((b.take j).foldl ins a) k).Fines ∧ (gt ((b.take j).foldl ins a) k).Fines ≤ 1299987)) (hx163 : (((b.take j).foldl ins a).set ((k : Int).toNat) ({ (gt ((b.take j).foldl ins a) k) with Lent := ((gt ((b.take j).foldl ins a) k).Lent) + ((gt b j).Lent) }))[(k : Int).toNat]? = some ({ (gt ((b.take j).foldl ins a) k) with Lent := ((gt ((b.take j).foldl ins a) k).Lent) + ((gt b j).Lent) })) (hx193 : ((((b.take j).foldl ins a).set ((k : Int).toNat) ({ (gt ((b.take j).foldl ins a) k) with Lent := ((gt ((b.take j).foldl ins a) k).Lent) + ((gt b j).Lent) })).set ((k : Int).toNat) ({ ({ (gt ((b.take j).foldl ins a) k) with Lent := ((gt ((b.take j).foldl ins a) k).Lent) + ((gt b j).Lent) }) with Copied := ((gt ((b.take j).foldl ins a) k).Copied) + ((gt b j).Copied) }))[(k : Int).toNat]? = some ({ ({ (gt ((b.take j).foldl ins a) k) with Lent := ((gt ((b.take j).foldl ins a) k).Lent) + ((gt b j).Lent) }) with Copied := ((gt ((b.take j).foldl ins a) k).Copied) + ((gt b j).Copied) })) (hx223 : (((((b.take j).foldl ins a).set ((k : Int).toNat) ({ (gt ((b.take j).foldl ins a) k) with Lent := ((gt ((b.take j).foldl ins a) k).Lent) + ((gt b j).Lent) })).set ((k : Int).toNat) ({ ({ (gt ((b.take j).foldl ins a) k) with Lent := ((gt ((b.take j).foldl ins a) k).Lent) + ((gt b j).Lent) }) with Copied := ((gt ((b.take j).foldl ins a) k).Copied) + ((gt b j).Copied) })).set ((k : Int).toNat) ({ ({ ({ (gt ((b.take j).foldl ins a) k) with Lent := ((gt ((b.take j).foldl ins a) k).Lent) + ((gt b j).Lent) }) with Copied := ((gt ((b.take j).foldl ins a) k).Copied) + ((gt b j).Copied) }) with Given := ((gt ((b.take j).foldl ins a) k).Given) + ((gt b j).Given) }))[(k : Int).toNat]? = some ({ ({ ({ (gt ((b.take j).foldl ins a) k) with Lent := ((gt ((b.take j).foldl ins a) k).Lent) + ((gt b j).Lent) }) with Copied := ((gt ((b.take j).foldl ins a) k).Copied) + ((gt b j).Copied) }) with Given := ((gt ((b.take j).foldl ins a) k).Given) + ((gt b j).Given) })) (hx253 : ((((((b.take j).foldl ins a).set ((k : Int).toNat) ({ (gt ((b.take j).foldl ins a) k) with Lent := ((gt ((b.take j).foldl ins a) k).Lent) + ((gt b j).Lent) })).set ((k : Int).toNat) ({ ({ (gt ((b.take j).foldl ins a) k) with Lent := ((gt ((b.take j).foldl ins a) k).Lent) + ((gt b j).Lent) }) with Copied := ((gt ((b.take j).foldl ins a) k).Copied) + ((gt b j).Copied) })).set ((k : Int).toNat) ({ ({ ({ (gt ((b.take j).foldl ins a) k) with Lent := ((gt ((b.take j).foldl ins a) k).Lent) + ((gt b j).Lent) }) with Copied := ((gt ((b.take j).foldl ins a) k).Copied) + ((gt b j).Copied) }) with Given := ((gt ((b.take j).foldl ins a) k).Given) + ((gt b j).Given) })).set ((k : Int).toNat) ({ ({ ({ ({ (gt ((b.take j).foldl ins a) k) with Lent := ((gt ((b.take j).foldl ins a) k).Lent) + ((gt b j).Lent) }) with Copied := ((gt ((b.take j).foldl ins a) k).Copied) + ((gt b j).Copied) }) with Given := ((gt ((b.take j).foldl ins a) k).Given) + ((gt b j).Given) }) with Fines := ((gt ((b.take j).foldl ins a) k).Fines) + ((gt b j).Fines) }))[(k : Int).toNat]? = some ({ ({ ({ ({ (gt ((b.take j).foldl ins a) k) with Lent := ((gt ((b.take j).foldl ins a) k).Lent) + ((gt b j).Lent) }) with Copied := ((gt ((b.take j).foldl ins a) k).Copied) + ((gt b j).Copied) }) with Given := ((gt ((b.take j).foldl ins a) k).Given) + ((gt b j).Given) }) with Fines := ((gt ((b.take j).foldl ins a) k).Fines) + ((gt b j).Fines) })) : j + 1 ≤ nb := by
  omega
theorem z_c_impl_MergeRows_263 (a : List LibRow) (na : Nat) (hbda : (na : Int) ≤ 9223372036854775807) (hlea : na = a.length) (b : List LibRow) (nb : Nat) (hbdb : (nb : Int) ≤ 9223372036854775807) (hleb : nb = b.length) (h17 : ¬ ((¬ (RowsOK a)) ∨ (¬ (RowsOK b)))) (hq20 : RowsOK a) (hq21 : RowsOK b) (hq22 : a.length ≤ 12) (hq23 : b.length ≤ 12) (n27 : Nat) (hl32 : n27 = (a).length) (hl33 : (n27 : Int) ≤ 9223372036854775807) (j : Nat) (n34 : Nat) (c34 : Nat) (hi43 : j ≤ nb) (hl44 : n34 = ((b.take j).foldl ins a).length) (hq46 : ((b.take j).foldl ins a).length ≤ a.length + b.length) (h47 : (j : Int) < (nb : Int)) (hx49 : b[j]? = some (gt b j)) (hq50 : ((1 : Int) ≤ (gt b j).Month ∧ (gt b j).Month ≤ 1200) ∧ ((0 : Int) ≤ (gt b j).Lent ∧ (gt b j).Lent ≤ 9999) ∧ ((0 : Int) ≤ (gt b j).Copied ∧ (gt b j).Copied ≤ 9999) ∧ ((0 : Int) ≤ (gt b j).Given ∧ (gt b j).Given ≤ 999) ∧ ((0 : Int) ≤ (gt b j).Fines ∧ (gt b j).Fines ≤ 99999)) (k : Nat) (hi74 : k ≤ ((b.take j).foldl ins a).length ∧ LtTo ((b.take j).foldl ins a) (gt b j).Month k) (h89 : ¬ (((k : Int) < (n34 : Int)) ∧ (((gt ((b.take j).foldl ins a) k).Month) < ((gt b j).Month)))) (h108 : ¬ (((k : Int) = (n34 : Int)) ∨ (¬ (((gt ((b.take j).foldl ins a) k).Month) = ((gt b j).Month))))) (hq133 : ¬ ((k : Int) = (n34 : Int))) (hq134 : ((gt ((b.take j).foldl ins a) k).Month) = ((gt b j).Month)) (hx154 : ((b.take j).foldl ins a)[k]? = some (gt ((b.take j).foldl ins a) k)) (hq155 : ((0 : Int) ≤ (gt ((b.take j).foldl ins a) k).Lent ∧ (gt ((b.take j).foldl ins a) k).Lent ≤ 1299987) ∧ ((0 : Int) ≤ (gt ((b.take j).foldl ins a) k).Copied ∧ (gt ((b.take j).foldl ins a) k).Copied ≤ 1299987) ∧ ((0 : Int) ≤ (gt ((b.take j).foldl ins a) k).Given ∧ (gt ((b.take j).foldl ins a) k).Given ≤ 1299987) ∧ ((0 : Int) ≤ (gt ((b.take j).foldl ins a) k).Fines ∧ (gt ((b.take j).foldl ins a) k).Fines ≤ 1299987)) (hx163 : (((b.take j).foldl ins a).set ((k : Int).toNat) ({ (gt ((b.take j).foldl ins a) k) with Lent := ((gt ((b.take j).foldl ins a) k).Lent) + ((gt b j).Lent) }))[(k : Int).toNat]? = some ({ (gt ((b.take j).foldl ins a) k) with Lent := ((gt ((b.take j).foldl ins a) k).Lent) + ((gt b j).Lent) })) (hx193 : ((((b.take j).foldl ins a).set ((k : Int).toNat) ({ (gt ((b.take j).foldl ins a) k) with Lent := ((gt ((b.take j).foldl ins a) k).Lent) + ((gt b j).Lent) })).set ((k : Int).toNat) ({ ({ (gt ((b.take j).foldl ins a) k) with Lent := ((gt ((b.take j).foldl ins a) k).Lent) + ((gt b j).Lent) }) with Copied := ((gt ((b.take j).foldl ins a) k).Copied) + ((gt b j).Copied) }))[(k : Int).toNat]? = some ({ ({ (gt ((b.take j).foldl ins a) k) with Lent := ((gt ((b.take j).foldl ins a) k).Lent) + ((gt b j).Lent) }) with Copied := ((gt ((b.take j).foldl ins a) k).Copied) + ((gt b j).Copied) })) (hx223 : (((((b.take j).foldl ins a).set ((k : Int).toNat) ({ (gt ((b.take j).foldl ins a) k) with Lent := ((gt ((b.take j).foldl ins a) k).Lent) + ((gt b j).Lent) })).set ((k : Int).toNat) ({ ({ (gt ((b.take j).foldl ins a) k) with Lent := ((gt ((b.take j).foldl ins a) k).Lent) + ((gt b j).Lent) }) with Copied := ((gt ((b.take j).foldl ins a) k).Copied) + ((gt b j).Copied) })).set ((k : Int).toNat) ({ ({ ({ (gt ((b.take j).foldl ins a) k) with Lent := ((gt ((b.take j).foldl ins a) k).Lent) + ((gt b j).Lent) }) with Copied := ((gt ((b.take j).foldl ins a) k).Copied) + ((gt b j).Copied) }) with Given := ((gt ((b.take j).foldl ins a) k).Given) + ((gt b j).Given) }))[(k : Int).toNat]? = some ({ ({ ({ (gt ((b.take j).foldl ins a) k) with Lent := ((gt ((b.take j).foldl ins a) k).Lent) + ((gt b j).Lent) }) with Copied := ((gt ((b.take j).foldl ins a) k).Copied) + ((gt b j).Copied) }) with Given := ((gt ((b.take j).foldl ins a) k).Given) + ((gt b j).Given) })) (hx253 : ((((((b.take j).foldl ins a).set ((k : Int).toNat) ({ (gt ((b.take j).foldl ins a) k) with Lent := ((gt ((b.take j).foldl ins a) k).Lent) + ((gt b j).Lent) })).set ((k : Int).toNat) ({ ({ (gt ((b.take j).foldl ins a) k) with Lent := ((gt ((b.take j).foldl ins a) k).Lent) + ((gt b j).Lent) }) with Copied := ((gt ((b.take j).foldl ins a) k).Copied) + ((gt b j).Copied) })).set ((k : Int).toNat) ({ ({ ({ (gt ((b.take j).foldl ins a) k) with Lent := ((gt ((b.take j).foldl ins a) k).Lent) + ((gt b j).Lent) }) with Copied := ((gt ((b.take j).foldl ins a) k).Copied) + ((gt b j).Copied) }) with Given := ((gt ((b.take j).foldl ins a) k).Given) + ((gt b j).Given) })).set ((k : Int).toNat) ({ ({ ({ ({ (gt ((b.take j).foldl ins a) k) with Lent := ((gt ((b.take j).foldl ins a) k).Lent) + ((gt b j).Lent) }) with Copied := ((gt ((b.take j).foldl ins a) k).Copied) + ((gt b j).Copied) }) with Given := ((gt ((b.take j).foldl ins a) k).Given) + ((gt b j).Given) }) with Fines := ((gt ((b.take j).foldl ins a) k).Fines) + ((gt b j).Fines) }))[(k : Int).toNat]? = some ({ ({ ({ ({ (gt ((b.take j).foldl ins a) k) with Lent := ((gt ((b.take j).foldl ins a) k).Lent) + ((gt b j).Lent) }) with Copied := ((gt ((b.take j).foldl ins a) k).Copied) + ((gt b j).Copied) }) with Given := ((gt ((b.take j).foldl ins a) k).Given) + ((gt b j).Given) }) with Fines := ((gt ((b.take j).foldl ins a) k).Fines) + ((gt b j).Fines) })) : nb - (j + 1) < nb - j := by
  omega
theorem z_c_impl_MergeRows_269 (a : List LibRow) (na : Nat) (hbda : (na : Int) ≤ 9223372036854775807) (hlea : na = a.length) (b : List LibRow) (nb : Nat) (hbdb : (nb : Int) ≤ 9223372036854775807) (hleb : nb = b.length) (h17 : ¬ ((¬ (RowsOK a)) ∨ (¬ (RowsOK b)))) (hq20 : RowsOK a) (hq21 : RowsOK b) (hq22 : a.length ≤ 12) (hq23 : b.length ≤ 12) (n27 : Nat) (hl32 : n27 = (a).length) (hl33 : (n27 : Int) ≤ 9223372036854775807) (j : Nat) (n34 : Nat) (c34 : Nat) (hi43 : j ≤ nb) (hl44 : n34 = ((b.take j).foldl ins a).length) (hq46 : ((b.take j).foldl ins a).length ≤ a.length + b.length) (h47 : ¬ ((j : Int) < (nb : Int))) (h268 : ¬ (RowsOK ((b.take j).foldl ins a))) : ([] : List LibRow) = (mrg a b).getD [] := by
  first | (rw [show mrg a b = none from by first | exact mrg_or ‹_› | exact mrg_noM (mrg_fold (j := j) ‹RowsOK a› ‹RowsOK b› (by omega)) ‹_›]; rfl) | (rw [mrg_yes ‹RowsOK a› ‹RowsOK b› (mrg_fold (j := j) ‹RowsOK a› ‹RowsOK b› (by omega)) ‹_›]; rfl)
theorem z_c_impl_MergeRows_270 (a : List LibRow) (na : Nat) (hbda : (na : Int) ≤ 9223372036854775807) (hlea : na = a.length) (b : List LibRow) (nb : Nat) (hbdb : (nb : Int) ≤ 9223372036854775807) (hleb : nb = b.length) (h17 : ¬ ((¬ (RowsOK a)) ∨ (¬ (RowsOK b)))) (hq20 : RowsOK a) (hq21 : RowsOK b) (hq22 : a.length ≤ 12) (hq23 : b.length ≤ 12) (n27 : Nat) (hl32 : n27 = (a).length) (hl33 : (n27 : Int) ≤ 9223372036854775807) (j : Nat) (n34 : Nat) (c34 : Nat) (hi43 : j ≤ nb) (hl44 : n34 = ((b.take j).foldl ins a).length) (hq46 : ((b.take j).foldl ins a).length ≤ a.length + b.length) (h47 : ¬ ((j : Int) < (nb : Int))) (h268 : ¬ (RowsOK ((b.take j).foldl ins a))) : false = (mrg a b).isSome := by
  first | (rw [show mrg a b = none from by first | exact mrg_or ‹_› | exact mrg_noM (mrg_fold (j := j) ‹RowsOK a› ‹RowsOK b› (by omega)) ‹_›]; rfl) | (rw [mrg_yes ‹RowsOK a› ‹RowsOK b› (mrg_fold (j := j) ‹RowsOK a› ‹RowsOK b› (by omega)) ‹_›]; rfl)
theorem z_c_impl_MergeRows_271 (a : List LibRow) (na : Nat) (hbda : (na : Int) ≤ 9223372036854775807) (hlea : na = a.length) (b : List LibRow) (nb : Nat) (hbdb : (nb : Int) ≤ 9223372036854775807) (hleb : nb = b.length) (h17 : ¬ ((¬ (RowsOK a)) ∨ (¬ (RowsOK b)))) (hq20 : RowsOK a) (hq21 : RowsOK b) (hq22 : a.length ≤ 12) (hq23 : b.length ≤ 12) (n27 : Nat) (hl32 : n27 = (a).length) (hl33 : (n27 : Int) ≤ 9223372036854775807) (j : Nat) (n34 : Nat) (c34 : Nat) (hi43 : j ≤ nb) (hl44 : n34 = ((b.take j).foldl ins a).length) (hq46 : ((b.take j).foldl ins a).length ≤ a.length + b.length) (h47 : ¬ ((j : Int) < (nb : Int))) (h268 : RowsOK ((b.take j).foldl ins a)) : (b.take j).foldl ins a = (mrg a b).getD [] := by
  first | (rw [show mrg a b = none from by first | exact mrg_or ‹_› | exact mrg_noM (mrg_fold (j := j) ‹RowsOK a› ‹RowsOK b› (by omega)) ‹_›]; rfl) | (rw [mrg_yes ‹RowsOK a› ‹RowsOK b› (mrg_fold (j := j) ‹RowsOK a› ‹RowsOK b› (by omega)) ‹_›]; rfl)
theorem z_c_impl_MergeRows_272 (a : List LibRow) (na : Nat) (hbda : (na : Int) ≤ 9223372036854775807) (hlea : na = a.length) (b : List LibRow) (nb : Nat) (hbdb : (nb : Int) ≤ 9223372036854775807) (hleb : nb = b.length) (h17 : ¬ ((¬ (RowsOK a)) ∨ (¬ (RowsOK b)))) (hq20 : RowsOK a) (hq21 : RowsOK b) (hq22 : a.length ≤ 12) (hq23 : b.length ≤ 12) (n27 : Nat) (hl32 : n27 = (a).length) (hl33 : (n27 : Int) ≤ 9223372036854775807) (j : Nat) (n34 : Nat) (c34 : Nat) (hi43 : j ≤ nb) (hl44 : n34 = ((b.take j).foldl ins a).length) (hq46 : ((b.take j).foldl ins a).length ≤ a.length + b.length) (h47 : ¬ ((j : Int) < (nb : Int))) (h268 : RowsOK ((b.take j).foldl ins a)) : true = (mrg a b).isSome := by
  first | (rw [show mrg a b = none from by first | exact mrg_or ‹_› | exact mrg_noM (mrg_fold (j := j) ‹RowsOK a› ‹RowsOK b› (by omega)) ‹_›]; rfl) | (rw [mrg_yes ‹RowsOK a› ‹RowsOK b› (mrg_fold (j := j) ‹RowsOK a› ‹RowsOK b› (by omega)) ‹_›]; rfl)
theorem c_impl_MergeRows (w : World) {Aa : Option Addr} {na ca Ba : Nat}  (a : List LibRow) (ha : SlR w Ba encLibRow 5 Aa na ca a) {Ab : Option Addr} {nb cb Bb : Nat}  (b : List LibRow) (hb : SlR w Bb encLibRow 5 Ab nb cb b) : Calls Try.prog 32 #[.slice Aa na ca, .slice Ab nb cb] w fun e w' => ∃ (A1' : Option Addr) (n1' c1' : Nat), e = .returned (.tuple (List.toArray [.slice A1' n1' c1', .bool ((mrg a b).isSome)])) ∧ SlO w' w.heap.size encLibRow 5 25 A1' n1' c1' ((mrg a b).getD []) ∧ Lo w w' := by
  refine calls_W 106 Try.func32 rfl rfl rfl ?_
  have hbda := ha.bound
  have hlea := ha.len
  have hBba := ha.bd
  have hbdb := hb.bound
  have hleb := hb.len
  have hBbb := hb.bd
  refine W.seq ?_
  refine W.regS (SR.q' (r_as (v := .slice none 0 0) rfl) <| SR.q' (r_as (v := .bool false) rfl) <| SR.nil ?_)
  refine W.seq ?_
  refine W.seq ?_
  refine W.regJS (fun f' w' => At f' [(0, .slice Aa na ca), (1, .slice Ab nb cb), (4, .slice none 0 0), (5, .bool false), (17, .bool (decide ((¬ (RowsOK a)) ∨ (¬ (RowsOK b)))))] ∧ Lo w w') ?_ ?_
  · refine SR.q' (r_mv (v := .slice _ _ _) rfl) <| SR.call ent17 (c_impl_AreLibRows w a ((ha))) rfl ?_
    rintro e w1 ⟨rfl, hk2⟩
    refine ⟨_, rfl, ?_⟩
    have hz3 := hk2.size
    have hB4 := (Lo.refl w).lo hk2
    refine SR.q' (r_not rfl) <| SR.q' (r_mv (v := .bool _) rfl) <| SR.splitN (fun h5 => ?_) (fun h5 => ?_)
    · refine SR.s' rfl <| SR.s' rfl <| SR.s' rfl <| SR.q' (r_pick true rfl (v := .bool true) rfl) <| SR.nil ?_
      exact ⟨_, rfl, ⟨⟨rfl, rfl, rfl, rfl, (eDT ((jmf h5).1 trivial)), trivial⟩, (hk2)⟩⟩
    · have hq6 := rows_len h5
      refine SR.g' rfl (r_mv (v := .slice _ _ _) rfl) <| SR.gcall rfl ent17 (c_impl_AreLibRows w1 b (((hb).lo hk2))) rfl ?_
      rintro e w7 ⟨rfl, hk8⟩
      refine ⟨_, rfl, ?_⟩
      have hz9 := hk8.size
      have hB10 := hB4.lo hk8
      refine SR.g' rfl (r_not rfl) <| SR.q' (r_pick false rfl (v := .bool _) rfl) <| SR.nil ?_
      exact ⟨_, rfl, ⟨⟨rfl, rfl, rfl, rfl, (eND (jmt h5)), trivial⟩, ((hk2).trans hk8)⟩⟩
  rintro f11 w12 ⟨hat13, hk14⟩
  rw [← sets_of_at hat13]
  have hz15 := hk14.size
  have hB16 := (Lo.refl w).lo hk14
  refine W.cond_d rfl (fun h17 => ?_) (fun h17 => ?_)
  · refine W.seq ?_
    refine W.regS (SR.q' (r_as (v := .slice none 0 0) rfl) <| SR.q' (r_as (v := .bool false) rfl) <| SR.nil ?_)
    refine W.ret ?_
    refine ret2 rfl (v := .slice none 0 0) (v' := .bool _) rfl rfl ?_
    exact ⟨none, 0, 0, eR (eT2 rfl (eB (z_c_impl_MergeRows_19 a na hbda hlea b nb hbdb hleb h17))), (SlO.eqv (SlO.nil (e := 25) (enc := encLibRow) (fun _ => rfl) (by omega)) (z_c_impl_MergeRows_18 a na hbda hlea b nb hbdb hleb h17)), hB16⟩
  · have hq20 : RowsOK a := (Classical.not_not.1 (not_or.1 h17).1)
    have hq21 : RowsOK b := (Classical.not_not.1 (not_or.1 h17).2)
    have hq22 := rows_len hq20
    have hq23 := rows_len hq21
    refine W.skip ?_
    refine W.seq ?_
    refine W.regS (SR.q' (r_mv (v := .slice _ _ _) rfl) <| SR.call ent44 (c_slices_Clone___impl_LibRow_impl_LibRow_ w12 a (((ha).lo hk14)) (by omega)) rfl ?_)
    rintro e w24 ⟨A26, n27, c28, rfl, hO29, hk25⟩
    refine ⟨_, rfl, ?_⟩
    have hz30 := hk25.size
    have hB31 := hB16.lo hk25
    have hl32 := hO29.len
    have hl33 := hO29.rd.bound
    refine SR.q' (r_as (v := .slice _ _ _) rfl) <| SR.nil ?_
    refine W.seq ?_
    refine W.seq ?_
    refine W.regS (SR.q' (r_mv (v := .slice _ _ _) rfl) <| SR.q' (r_len und31 rfl) <| SR.q' (r_mv (v := .int .i64 0) rfl) <| SR.nil ?_)
    refine W.block ?_
    refine W.loop (σ := Nat × (Option Addr) × Nat × Nat) (fun g => [(4, .slice none 0 0), (5, .bool false), (6, .slice g.2.1 g.2.2.1 g.2.2.2), (20, .slice Ab nb cb), (21, .int .i64 (nb : Int)), (22, .int .i64 (g.1 : Int))]) (fun g w' => (Lo w w') ∧ (SlR w' Bb encLibRow 5 Ab nb cb b) ∧ (SlO w' w.heap.size encLibRow 5 25 g.2.1 g.2.2.1 g.2.2.2 ((b.take g.1).foldl ins a)) ∧ (g.1 ≤ nb)) (fun g => nb - g.1) (0, A26, n27, c28) ?_ ?_ ?_
    · exact ⟨rfl, rfl, rfl, rfl, rfl, rfl, trivial⟩
    · exact ⟨hB31, ((hb).lo hk14).lo hk25, (SlO.eqv ((hO29).down (by omega)) (z_c_impl_MergeRows_36 a na hbda hlea b nb hbdb hleb h17 hq20 hq21 hq22 hq23 n27 hl32 hl33)), (z_c_impl_MergeRows_35 a na hbda hlea b nb hbdb hleb h17 hq20 hq21 hq22 hq23 n27 hl32 hl33)⟩
    · rintro ⟨j, A34, n34, c34⟩ f37 w38 hP40
      obtain ⟨hB39, hm41, hO42, hi43⟩ : (Lo w w38) ∧ (SlR w38 Bb encLibRow 5 Ab nb cb b) ∧ (SlO w38 w.heap.size encLibRow 5 25 A34 n34 c34 ((b.take j).foldl ins a)) ∧ (j ≤ nb) := hP40
      refine (?_ : W _ _ _ _ _ (act _ (sets f37 [(4, .slice none 0 0), (5, .bool false), (6, .slice A34 n34 c34), (20, .slice Ab nb cb), (21, .int .i64 (nb : Int)), (22, .int .i64 (j : Int))])) _)
      have hzw38 := hB39.size
      have hl44 := hO42.len
      have hl45 := hO42.rd.bound
      have hq46 := foldt_len b j a
      refine W.seq ?_
      refine W.regS (SR.q' (r_lt rfl rfl) <| SR.nil ?_)
      refine W.seq ?_
      refine W.cond_d rfl (fun h47 => ?_) (fun h47 => ?_)
      · refine W.skip ?_
        refine W.seq ?_
        refine W.block ?_
        refine W.seq ?_
        have hx49 := (hm41).elem (i := j) (by omega)
        have hq50 := rows_rng hq21 hx49
        refine W.regS (SR.q' (r_ixR tsl31 (hm41) rfl rfl (by omega)) <| SR.q' (r_lda (l := encLibRow (gt b j)) agg25 rfl (fun _ _ hu => (hm41).cell hx49 hu) ((hm41).esz _)) <| SR.alloc (l := [.int .i64 0, .int .i64 0, .int .i64 0, .int .i64 0, .int .i64 0]) tz25 rfl ?_)
        intro g51 w52 hg53 hk54 hs55 hb56
        have hz57 := hk54.size
        have hB58 := hB39.lo hk54
        have hd59 : ¬ A34 = some ⟨g51, 0, none⟩ := fun e' => by have := (hO42).base_le e'; omega
        refine SR.store (o := 0) (vs := [.int .i64 ((gt b j).Month), .int .i64 ((gt b j).Lent), .int .i64 ((gt b j).Copied), .int .i64 ((gt b j).Given), .int .i64 ((gt b j).Fines)]) agg25.2 rfl rfl rfl rfl (hb56) (Nat.le_of_ble_eq_true rfl) rfl ?_
        intro w60 hk61 hs62 hb63
        have hz64 := hk61.size
        have hB65 := hB58.new hk61 (by omega)
        refine SR.nil ?_
        refine W.seq ?_
        refine W.regS (SR.q' (r_as (v := .int .i64 0) rfl) <| SR.nil ?_)
        refine W.seq ?_
        refine W.block ?_
        refine W.loop (σ := Nat) (fun g => [(4, .slice none 0 0), (5, .bool false), (6, .slice A34 n34 c34), (8, .pointer (some ((⟨g51, 0, none⟩ : Addr)))), (9, .int .i64 (g : Int)), (20, .slice Ab nb cb), (21, .int .i64 (nb : Int)), (22, .int .i64 (j : Int))]) (fun g w' => (Lo w w') ∧ (SlO w' w.heap.size encLibRow 5 25 A34 n34 c34 ((b.take j).foldl ins a)) ∧ (Blk w' g51 25 [.int .i64 ((gt b j).Month), .int .i64 ((gt b j).Lent), .int .i64 ((gt b j).Copied), .int .i64 ((gt b j).Given), .int .i64 ((gt b j).Fines)]) ∧ (SlR w' Bb encLibRow 5 Ab nb cb b) ∧ (g ≤ ((b.take j).foldl ins a).length ∧ LtTo ((b.take j).foldl ins a) (gt b j).Month g)) (fun g => ((b.take j).foldl ins a).length - g) 0 ?_ ?_ ?_
        · exact ⟨rfl, rfl, rfl, rfl, rfl, rfl, rfl, rfl, trivial⟩
        · exact ⟨hB65, ((hO42).lo hk54).kp hk61 (fun b_ hb e' => hd59 (by have e'' : b_ = g51 := e'; rw [← e'']; exact hb)), hb63, ((hm41).lo hk54).kp hk61 (fun b_ hb e' => by have e'' : b_ = g51 := e'; omega), (z_c_impl_MergeRows_66 a na hbda hlea b nb hbdb hleb h17 hq20 hq21 hq22 hq23 n27 hl32 hl33 j n34 c34 hi43 hl44 hq46 h47 hx49 hq50)⟩
        · rintro k f67 w68 hP70
          obtain ⟨hB69, hm71, hm72, hm73, hi74⟩ : (Lo w w68) ∧ (SlO w68 w.heap.size encLibRow 5 25 A34 n34 c34 ((b.take j).foldl ins a)) ∧ (Blk w68 g51 25 [.int .i64 ((gt b j).Month), .int .i64 ((gt b j).Lent), .int .i64 ((gt b j).Copied), .int .i64 ((gt b j).Given), .int .i64 ((gt b j).Fines)]) ∧ (SlR w68 Bb encLibRow 5 Ab nb cb b) ∧ (k ≤ ((b.take j).foldl ins a).length ∧ LtTo ((b.take j).foldl ins a) (gt b j).Month k) := hP70
          refine (?_ : W _ _ _ _ _ (act _ (sets f67 [(4, .slice none 0 0), (5, .bool false), (6, .slice A34 n34 c34), (8, .pointer (some ((⟨g51, 0, none⟩ : Addr)))), (9, .int .i64 (k : Int)), (20, .slice Ab nb cb), (21, .int .i64 (nb : Int)), (22, .int .i64 (j : Int))])) _)
          have hzw68 := hB69.size
          refine W.seq ?_
          refine W.seq ?_
          refine W.regJD mo (by kernel_rfl) (fun f' w' => At f' [(4, .slice none 0 0), (5, .bool false), (6, .slice A34 n34 c34), (8, .pointer (some ((⟨g51, 0, none⟩ : Addr)))), (9, .int .i64 (k : Int)), (20, .slice Ab nb cb), (21, .int .i64 (nb : Int)), (22, .int .i64 (j : Int)), (39, .bool (decide (((k : Int) < (n34 : Int)) ∧ (((gt ((b.take j).foldl ins a) k).Month) < ((gt b j).Month)))))] ∧ Lo w68 w') ?_ ?_
          · refine QR.q' (fun w' hw' => r_mv (v := .int .i64 _) rfl) <| QR.q' (fun w' hw' => r_mv (v := .slice _ _ _) rfl) <| QR.q' (fun w' hw' => r_len und31 rfl) <| QR.q' (fun w' hw' => r_lt rfl rfl) <| QR.q' (fun w' hw' => r_mv (v := .bool _) rfl) <| QR.splitD (fun h75 => ?_) (fun h75 => ?_)
            · refine QR.g' rfl (fun w' hw' => r_mv (v := .slice _ _ _) rfl) <| QR.g' rfl (fun w' hw' => r_mv (v := .int .i64 _) rfl) <| ?_
              have hx77 := ((hm71).rd).elem (i := k) (by omega)
              have hq78 := fold_rng ‹RowsOK a› ‹RowsOK b› hx77
              refine QR.g' rfl (fun w' hw' => r_ixR tsl31 (((hm71).lo hw').rd) rfl rfl (by omega)) <| QR.g' rfl (fun w' hw' => r_fa fa25_0 rfl) <| QR.g' rfl (fun w' hw' => r_ld (v := .int .i64 ((gt ((b.take j).foldl ins a) k).Month)) sca3 rfl ((((hm71).lo hw').rd).cell hx77 rfl)) <| QR.g' rfl (fun w' hw' => r_fa fa25_0 rfl) <| QR.g' rfl (fun w' hw' => r_ld (v := .int .i64 ((gt b j).Month)) sca3 rfl (((hm72).lo hw').cell rfl)) <| QR.g' rfl (fun w' hw' => r_lt rfl rfl) <| QR.q' (fun w' hw' => r_pick true rfl (v := .bool _) rfl) <| QR.nil ?_
              intro w79 hk80
              exact ⟨⟨rfl, rfl, rfl, rfl, rfl, rfl, rfl, rfl, (eDD (jat h75)), trivial⟩, hk80⟩
            · refine QR.s' rfl <| QR.s' rfl <| QR.s' rfl <| QR.s' rfl <| QR.s' rfl <| QR.s' rfl <| QR.s' rfl <| QR.s' rfl <| QR.q' (fun w' hw' => r_pick false rfl (v := .bool false) rfl) <| QR.nil ?_
              intro w81 hk82
              exact ⟨⟨rfl, rfl, rfl, rfl, rfl, rfl, rfl, rfl, (eDF (jaf h75).2), trivial⟩, hk82⟩
          rintro f83 w84 ⟨hat85, hk86⟩
          rw [← sets_of_at hat85]
          have hz87 := hk86.size
          have hB88 := hB69.lo hk86
          refine W.cond_d rfl (fun h89 => ?_) (fun h89 => ?_)
          · have hq90 : (k : Int) < (n34 : Int) := h89.1
            have hq91 : ((gt ((b.take j).foldl ins a) k).Month) < ((gt b j).Month) := h89.2
            refine W.skip ?_
            refine W.block ?_
            refine W.regS (SR.q' (r_mv (v := .int .i64 _) rfl) <| SR.q' (r_add rfl rfl (by omega)) <| SR.q' (r_as (v := .int .i64 _) rfl) <| SR.nil ?_)
            refine ⟨k + 1, _, rfl, ⟨rfl, rfl, rfl, rfl, rfl, rfl, rfl, rfl, trivial⟩, ⟨hB88, (hm71).lo hk86, (hm72).lo hk86, (hm73).lo hk86, ?_⟩, ?_⟩
            · exact (z_c_impl_MergeRows_92 a na hbda hlea b nb hbdb hleb h17 hq20 hq21 hq22 hq23 n27 hl32 hl33 j n34 c34 hi43 hl44 hq46 h47 hx49 hq50 k hi74 h89 hq90 hq91)
            · exact (z_c_impl_MergeRows_93 a na hbda hlea b nb hbdb hleb h17 hq20 hq21 hq22 hq23 n27 hl32 hl33 j n34 c34 hi43 hl44 hq46 h47 hx49 hq50 k hi74 h89 hq90 hq91)
          · refine W.exit (xin_here ?_)
            refine W.seq ?_
            refine W.seq ?_
            refine W.regJD mo (by kernel_rfl) (fun f' w' => At f' [(4, .slice none 0 0), (5, .bool false), (6, .slice A34 n34 c34), (8, .pointer (some ((⟨g51, 0, none⟩ : Addr)))), (9, .int .i64 (k : Int)), (20, .slice Ab nb cb), (21, .int .i64 (nb : Int)), (22, .int .i64 (j : Int)), (55, .bool (decide (((k : Int) = (n34 : Int)) ∨ (¬ (((gt ((b.take j).foldl ins a) k).Month) = ((gt b j).Month))))))] ∧ Lo w84 w') ?_ ?_
            · refine QR.q' (fun w' hw' => r_mv (v := .int .i64 _) rfl) <| QR.q' (fun w' hw' => r_mv (v := .slice _ _ _) rfl) <| QR.q' (fun w' hw' => r_len und31 rfl) <| QR.q' (fun w' hw' => r_eq rfl rfl) <| QR.q' (fun w' hw' => r_mv (v := .bool _) rfl) <| QR.splitD (fun h94 => ?_) (fun h94 => ?_)
              · refine QR.s' rfl <| QR.s' rfl <| QR.s' rfl <| QR.s' rfl <| QR.s' rfl <| QR.s' rfl <| QR.s' rfl <| QR.s' rfl <| QR.q' (fun w' hw' => r_pick true rfl (v := .bool true) rfl) <| QR.nil ?_
                intro w95 hk96
                exact ⟨⟨rfl, rfl, rfl, rfl, rfl, rfl, rfl, rfl, (eDT ((jot h94).1 trivial)), trivial⟩, hk96⟩
              · refine QR.g' rfl (fun w' hw' => r_mv (v := .slice _ _ _) rfl) <| QR.g' rfl (fun w' hw' => r_mv (v := .int .i64 _) rfl) <| ?_
                have hx98 := (((hm71).lo hk86).rd).elem (i := k) (by omega)
                have hq99 := fold_rng ‹RowsOK a› ‹RowsOK b› hx98
                refine QR.g' rfl (fun w' hw' => r_ixR tsl31 ((((hm71).lo hk86).lo hw').rd) rfl rfl (by omega)) <| QR.g' rfl (fun w' hw' => r_fa fa25_0 rfl) <| QR.g' rfl (fun w' hw' => r_ld (v := .int .i64 ((gt ((b.take j).foldl ins a) k).Month)) sca3 rfl (((((hm71).lo hk86).lo hw').rd).cell hx98 rfl)) <| QR.g' rfl (fun w' hw' => r_fa fa25_0 rfl) <| QR.g' rfl (fun w' hw' => r_ld (v := .int .i64 ((gt b j).Month)) sca3 rfl ((((hm72).lo hk86).lo hw').cell rfl)) <| QR.g' rfl (fun w' hw' => r_ne rfl rfl) <| QR.q' (fun w' hw' => r_pick false rfl (v := .bool _) rfl) <| QR.nil ?_
                intro w100 hk101
                exact ⟨⟨rfl, rfl, rfl, rfl, rfl, rfl, rfl, rfl, (eND (jof h94)), trivial⟩, hk101⟩
            rintro f102 w103 ⟨hat104, hk105⟩
            rw [← sets_of_at hat104]
            have hz106 := hk105.size
            have hB107 := hB88.lo hk105
            refine W.cond_d rfl (fun h108 => ?_) (fun h108 => ?_)
            · refine W.seq ?_
              refine W.regS (SR.q' (r_mv (v := .slice _ _ _) rfl) <| SR.q' (r_mv (v := .int .i64 _) rfl) <| SR.q' (r_lda (l := [.int .i64 ((gt b j).Month), .int .i64 ((gt b j).Lent), .int .i64 ((gt b j).Copied), .int .i64 ((gt b j).Given), .int .i64 ((gt b j).Fines)]) agg25 rfl (fun _ _ hu => (((hm72).lo hk86).lo hk105).cell hu) rfl) <| SR.lit (vs := [.agg (List.toArray [.int .i64 ((gt b j).Month), .int .i64 ((gt b j).Lent), .int .i64 ((gt b j).Copied), .int .i64 ((gt b j).Given), .int .i64 ((gt b j).Fines)])]) (L := ([(gt b j)] : List LibRow)) (enc := encLibRow) tel31 (fun _ => rfl) rfl rfl rfl (by decide) ?_)
              intro g109 w110 hg111 hk112 hO113
              have hz114 := hk112.size
              have hB115 := hB107.lo hk112
              have hd116 : ¬ A34 = some ⟨g109, 0, none⟩ := fun e' => by have := (((hm71).lo hk86).lo hk105).base_le e'; omega
              refine SR.call ent45 (c_slices_Insert___impl_LibRow_impl_LibRow_ w110 ((b.take j).foldl ins a) ((((hm71).lo hk86).lo hk105).lo hk112) (k : Int) ([(gt b j)] : List LibRow) (hO113) (by omega) (by omega) (by omega) (fun b_ h h' => hd116 (h'.trans h.symm))) rfl ?_
              rintro e w117 ⟨A119, n120, c121, rfl, hO122, hN123, hk118⟩
              refine ⟨_, rfl, ?_⟩
              have hz124 := hk118.size
              have hB125 := hB115.step hk118 (fun i_ hi_ e' => by have := (((((hm71).lo hk86).lo hk105).lo hk112)).base_le e'; first | omega | (exfalso; omega) | exact e' | exact .inl e' | exact .inr e')
              have hd126 : ∀ b_, A119 = some ⟨b_, 0, none⟩ → ¬ (some (⟨g109, 0, none⟩ : Addr)) = some ⟨b_, 0, none⟩ := fun b_ e' h' => (hN123 b_ e').elim (fun h => (fun b_ h h' => hd116 (h.trans h'.symm)) b_ h h') (fun h => by have := (hO113).base_le h'; omega)
              have hd127 : ¬ A119 = some ⟨g51, 0, none⟩ := fun e' => (hN123 g51 e').elim (fun h => hd59 h) (fun h => by have := ((((hm72).lo hk86).lo hk105).lo hk112).lt; omega)
              have hl128 := hO122.len
              have hl129 := hO122.rd.bound
              refine SR.q' (r_as (v := .slice _ _ _) rfl) <| SR.nil ?_
              refine W.exit (xin_here ?_)
              refine W.regS (SR.q' (r_add rfl rfl (by omega)) <| SR.q' (r_mv (v := .int .i64 _) rfl) <| SR.nil ?_)
              refine ⟨(j + 1, A119, n120, c121), _, rfl, ⟨rfl, rfl, rfl, rfl, rfl, rfl, trivial⟩, ⟨hB125, ((((hm73).lo hk86).lo hk105).lo hk112).kp hk118 (fun b_ hb e' => by have := (((((hm71).lo hk86).lo hk105).lo hk112)).base_le e'; omega), (SlO.eqv (hO122) (z_c_impl_MergeRows_130 a na hbda hlea b nb hbdb hleb h17 hq20 hq21 hq22 hq23 n27 hl32 hl33 j n34 c34 hi43 hl44 hq46 h47 hx49 hq50 k hi74 h89 h108 n120 hl128 hl129)), ?_⟩, ?_⟩
              · exact (z_c_impl_MergeRows_131 a na hbda hlea b nb hbdb hleb h17 hq20 hq21 hq22 hq23 n27 hl32 hl33 j n34 c34 hi43 hl44 hq46 h47 hx49 hq50 k hi74 h89 h108 n120 hl128 hl129)
              · exact (z_c_impl_MergeRows_132 a na hbda hlea b nb hbdb hleb h17 hq20 hq21 hq22 hq23 n27 hl32 hl33 j n34 c34 hi43 hl44 hq46 h47 hx49 hq50 k hi74 h89 h108 n120 hl128 hl129)
            · have hq133 : ¬ ((k : Int) = (n34 : Int)) := (not_or.1 h108).1
              have hq134 : ((gt ((b.take j).foldl ins a) k).Month) = ((gt b j).Month) := (Classical.not_not.1 (not_or.1 h108).2)
              refine W.skip ?_
              refine W.seq ?_
              refine W.regA (Kp (fun b_ => A34 = some ⟨b_, 0, none⟩) w103) (fun f' w' => At f' [(4, .slice none 0 0), (5, .bool false), (6, .slice A34 n34 c34), (8, .pointer (some ((⟨g51, 0, none⟩ : Addr)))), (9, .int .i64 (k : Int)), (20, .slice Ab nb cb), (21, .int .i64 (nb : Int)), (22, .int .i64 (j : Int))] ∧ (Kp (fun b_ => A34 = some ⟨b_, 0, none⟩) w103 w') ∧ (SlO w' w.heap.size encLibRow 5 25 A34 n34 c34 (((b.take j).foldl ins a).set ((k : Int).toNat) ({ (gt ((b.take j).foldl ins a) k) with Lent := ((gt ((b.take j).foldl ins a) k).Lent) + ((gt b j).Lent) }))) ∧ (((b.take j).foldl ins a)[k]? = some (gt ((b.take j).foldl ins a) k)) ∧ (((0 : Int) ≤ (gt ((b.take j).foldl ins a) k).Lent ∧ (gt ((b.take j).foldl ins a) k).Lent ≤ 1299987) ∧ ((0 : Int) ≤ (gt ((b.take j).foldl ins a) k).Copied ∧ (gt ((b.take j).foldl ins a) k).Copied ≤ 1299987) ∧ ((0 : Int) ≤ (gt ((b.take j).foldl ins a) k).Given ∧ (gt ((b.take j).foldl ins a) k).Given ≤ 1299987) ∧ ((0 : Int) ≤ (gt ((b.take j).foldl ins a) k).Fines ∧ (gt ((b.take j).foldl ins a) k).Fines ≤ 1299987)) ∧ ((((b.take j).foldl ins a).set ((k : Int).toNat) ({ (gt ((b.take j).foldl ins a) k) with Lent := ((gt ((b.take j).foldl ins a) k).Lent) + ((gt b j).Lent) }))[(k : Int).toNat]? = some ({ (gt ((b.take j).foldl ins a) k) with Lent := ((gt ((b.take j).foldl ins a) k).Lent) + ((gt b j).Lent) }))) mo ?_ ?_
              · intro w149 hk150
                have hz151 := hk150.size
                have hB152 := hB107.lo hk150
                refine AH.take 0 rfl (by kernel_rfl) trivial ((Kp.refl w103 : Kp (fun b_ => A34 = some ⟨b_, 0, none⟩) w103 w103).lo hk150) (fun w' hw' => r_mv (v := .slice _ _ _) rfl) <| AH.take 1 rfl (by kernel_rfl) trivial ((Kp.refl w103 : Kp (fun b_ => A34 = some ⟨b_, 0, none⟩) w103 w103).lo hk150) (fun w' hw' => r_mv (v := .int .i64 _) rfl) <| ?_
                have hx154 := (((((hm71).lo hk86).lo hk105).lo hk150).rd).elem (i := k) (by omega)
                have hq155 := fold_rng ‹RowsOK a› ‹RowsOK b› hx154
                refine AH.take 5 rfl (by kernel_rfl) trivial ((Kp.refl w103 : Kp (fun b_ => A34 = some ⟨b_, 0, none⟩) w103 w103).lo hk150) (fun w' hw' => r_fa fa25_1 rfl) <| AH.take 6 rfl (by kernel_rfl) trivial ((Kp.refl w103 : Kp (fun b_ => A34 = some ⟨b_, 0, none⟩) w103 w103).lo hk150) (fun w' hw' => r_ld (v := .int .i64 ((gt b j).Lent)) sca3 rfl (((((hm72).lo hk86).lo hk105).kp hw' (fun e' => hd59 e')).cell rfl)) <| AH.br [2] (by kernel_rfl) rfl ⟨Br.mk' rfl trivial ?_, trivial⟩
                refine SR.q' (r_ixR tsl31 (((((hm71).lo hk86).lo hk105).lo hk150).rd) rfl rfl (by omega)) ?_
                refine SR.nil ⟨(Kp.refl w103 : Kp (fun b_ => A34 = some ⟨b_, 0, none⟩) w103 w103).lo hk150, _, rfl, ?_⟩
                refine AH.take 3 rfl (by kernel_rfl) trivial ((Kp.refl w103 : Kp (fun b_ => A34 = some ⟨b_, 0, none⟩) w103 w103).lo hk150) (fun w' hw' => r_fa fa25_1 rfl) <| AH.br [4] (by kernel_rfl) rfl ⟨Br.mk' rfl trivial ?_, trivial⟩
                refine SR.q' (r_ld (v := .int .i64 ((gt ((b.take j).foldl ins a) k).Lent)) sca3 rfl ((((((hm71).lo hk86).lo hk105).lo hk150).rd).cell hx154 rfl)) ?_
                refine SR.nil ⟨(Kp.refl w103 : Kp (fun b_ => A34 = some ⟨b_, 0, none⟩) w103 w103).lo hk150, _, rfl, ?_⟩
                refine AH.take 7 rfl (by kernel_rfl) trivial ((Kp.refl w103 : Kp (fun b_ => A34 = some ⟨b_, 0, none⟩) w103 w103).lo hk150) (fun w' hw' => r_add rfl rfl (by omega)) <| AH.br [8] (by kernel_rfl) rfl ⟨Br.mk' rfl trivial ?_, trivial⟩
                refine SR.q' (r_ixR tsl31 (((((hm71).lo hk86).lo hk105).lo hk150).rd) rfl rfl (by omega)) ?_
                refine SR.nil ⟨(Kp.refl w103 : Kp (fun b_ => A34 = some ⟨b_, 0, none⟩) w103 w103).lo hk150, _, rfl, ?_⟩
                refine AH.take 9 rfl (by kernel_rfl) trivial ((Kp.refl w103 : Kp (fun b_ => A34 = some ⟨b_, 0, none⟩) w103 w103).lo hk150) (fun w' hw' => r_fa fa25_1 rfl) <| AH.br [10] (by kernel_rfl) rfl ⟨Br.mk' rfl trivial ?_, trivial⟩
                refine SR.storeO (o := 1) (vs := [.int .i64 (((gt ((b.take j).foldl ins a) k).Lent) + ((gt b j).Lent))]) (x1 := { (gt ((b.take j).foldl ins a) k) with Lent := ((gt ((b.take j).foldl ins a) k).Lent) + ((gt b j).Lent) }) sca3.2 rfl (add_add _ _ _) rfl rfl ((((hm71).lo hk86).lo hk105).lo hk150) hx154 rfl (Nat.le_of_ble_eq_true rfl) rfl ?_
                intro w156 hk157 hs158 hO159
                have hz160 := hk157.size
                have hB161 := hB152.step hk157 (fun i_ hi_ e' => by have := (((((hm71).lo hk86).lo hk105).lo hk150)).base_le e'; first | omega | (exfalso; omega) | exact e' | exact .inl e' | exact .inr e')
                have hS162 := ((Kp.refl w103 : Kp (fun b_ => A34 = some ⟨b_, 0, none⟩) w103 w103).lo hk150).step hk157 (fun _ _ e => e)
                have hx163 : (((b.take j).foldl ins a).set ((k : Int).toNat) ({ (gt ((b.take j).foldl ins a) k) with Lent := ((gt ((b.take j).foldl ins a) k).Lent) + ((gt b j).Lent) }))[(k : Int).toNat]? = some ({ (gt ((b.take j).foldl ins a) k) with Lent := ((gt ((b.take j).foldl ins a) k).Lent) + ((gt b j).Lent) }) := List.getElem?_set_self (List.getElem?_eq_some_iff.1 hx154).1
                refine SR.nil ⟨hS162, _, rfl, ?_⟩
                refine AH.done (by kernel_rfl) ?_
                exact ⟨⟨rfl, rfl, rfl, rfl, rfl, rfl, rfl, rfl, trivial⟩, hS162, (hO159), hx154, hq155, hx163⟩
              rintro f165 w166 ⟨hat168, hR167, hm164, hx154, hq155, hx163⟩
              rw [← sets_of_at hat168]
              have hz169 := hR167.size
              have hB170 := hB107.step hR167 (fun i_ hi_ e' => by have := ((((hm71).lo hk86).lo hk105)).base_le e'; first | omega | (exfalso; omega) | exact e' | exact .inl e' | exact .inr e')
              refine W.seq ?_
              refine W.regA (Kp (fun b_ => A34 = some ⟨b_, 0, none⟩) w166) (fun f' w' => At f' [(4, .slice none 0 0), (5, .bool false), (6, .slice A34 n34 c34), (8, .pointer (some ((⟨g51, 0, none⟩ : Addr)))), (9, .int .i64 (k : Int)), (20, .slice Ab nb cb), (21, .int .i64 (nb : Int)), (22, .int .i64 (j : Int))] ∧ (Kp (fun b_ => A34 = some ⟨b_, 0, none⟩) w166 w') ∧ (SlO w' w.heap.size encLibRow 5 25 A34 n34 c34 ((((b.take j).foldl ins a).set ((k : Int).toNat) ({ (gt ((b.take j).foldl ins a) k) with Lent := ((gt ((b.take j).foldl ins a) k).Lent) + ((gt b j).Lent) })).set ((k : Int).toNat) ({ ({ (gt ((b.take j).foldl ins a) k) with Lent := ((gt ((b.take j).foldl ins a) k).Lent) + ((gt b j).Lent) }) with Copied := ((gt ((b.take j).foldl ins a) k).Copied) + ((gt b j).Copied) }))) ∧ (((((b.take j).foldl ins a).set ((k : Int).toNat) ({ (gt ((b.take j).foldl ins a) k) with Lent := ((gt ((b.take j).foldl ins a) k).Lent) + ((gt b j).Lent) })).set ((k : Int).toNat) ({ ({ (gt ((b.take j).foldl ins a) k) with Lent := ((gt ((b.take j).foldl ins a) k).Lent) + ((gt b j).Lent) }) with Copied := ((gt ((b.take j).foldl ins a) k).Copied) + ((gt b j).Copied) }))[(k : Int).toNat]? = some ({ ({ (gt ((b.take j).foldl ins a) k) with Lent := ((gt ((b.take j).foldl ins a) k).Lent) + ((gt b j).Lent) }) with Copied := ((gt ((b.take j).foldl ins a) k).Copied) + ((gt b j).Copied) }))) mo ?_ ?_
              · intro w182 hk183
                have hz184 := hk183.size
                have hB185 := hB170.lo hk183
                refine AH.take 0 rfl (by kernel_rfl) trivial ((Kp.refl w166 : Kp (fun b_ => A34 = some ⟨b_, 0, none⟩) w166 w166).lo hk183) (fun w' hw' => r_mv (v := .slice _ _ _) rfl) <| AH.take 1 rfl (by kernel_rfl) trivial ((Kp.refl w166 : Kp (fun b_ => A34 = some ⟨b_, 0, none⟩) w166 w166).lo hk183) (fun w' hw' => r_mv (v := .int .i64 _) rfl) <| AH.take 5 rfl (by kernel_rfl) trivial ((Kp.refl w166 : Kp (fun b_ => A34 = some ⟨b_, 0, none⟩) w166 w166).lo hk183) (fun w' hw' => r_fa fa25_2 rfl) <| AH.take 6 rfl (by kernel_rfl) trivial ((Kp.refl w166 : Kp (fun b_ => A34 = some ⟨b_, 0, none⟩) w166 w166).lo hk183) (fun w' hw' => r_ld (v := .int .i64 ((gt b j).Copied)) sca3 rfl ((((((hm72).lo hk86).lo hk105).kp hR167 (fun e' => hd59 e')).kp hw' (fun e' => hd59 e')).cell rfl)) <| AH.br [2] (by kernel_rfl) rfl ⟨Br.mk' rfl trivial ?_, trivial⟩
                refine SR.q' (r_ixR tsl31 (((hm164).lo hk183).rd) rfl rfl (by omega)) ?_
                refine SR.nil ⟨(Kp.refl w166 : Kp (fun b_ => A34 = some ⟨b_, 0, none⟩) w166 w166).lo hk183, _, rfl, ?_⟩
                refine AH.take 3 rfl (by kernel_rfl) trivial ((Kp.refl w166 : Kp (fun b_ => A34 = some ⟨b_, 0, none⟩) w166 w166).lo hk183) (fun w' hw' => r_fa fa25_2 rfl) <| AH.br [4] (by kernel_rfl) rfl ⟨Br.mk' rfl trivial ?_, trivial⟩
                refine SR.q' (r_ld (v := .int .i64 ((gt ((b.take j).foldl ins a) k).Copied)) sca3 rfl ((((hm164).lo hk183).rd).cell hx163 rfl)) ?_
                refine SR.nil ⟨(Kp.refl w166 : Kp (fun b_ => A34 = some ⟨b_, 0, none⟩) w166 w166).lo hk183, _, rfl, ?_⟩
                refine AH.take 7 rfl (by kernel_rfl) trivial ((Kp.refl w166 : Kp (fun b_ => A34 = some ⟨b_, 0, none⟩) w166 w166).lo hk183) (fun w' hw' => r_add rfl rfl (by omega)) <| AH.br [8] (by kernel_rfl) rfl ⟨Br.mk' rfl trivial ?_, trivial⟩
                refine SR.q' (r_ixR tsl31 (((hm164).lo hk183).rd) rfl rfl (by omega)) ?_
                refine SR.nil ⟨(Kp.refl w166 : Kp (fun b_ => A34 = some ⟨b_, 0, none⟩) w166 w166).lo hk183, _, rfl, ?_⟩
                refine AH.take 9 rfl (by kernel_rfl) trivial ((Kp.refl w166 : Kp (fun b_ => A34 = some ⟨b_, 0, none⟩) w166 w166).lo hk183) (fun w' hw' => r_fa fa25_2 rfl) <| AH.br [10] (by kernel_rfl) rfl ⟨Br.mk' rfl trivial ?_, trivial⟩
                refine SR.storeO (o := 2) (vs := [.int .i64 (((gt ((b.take j).foldl ins a) k).Copied) + ((gt b j).Copied))]) (x1 := { ({ (gt ((b.take j).foldl ins a) k) with Lent := ((gt ((b.take j).foldl ins a) k).Lent) + ((gt b j).Lent) }) with Copied := ((gt ((b.take j).foldl ins a) k).Copied) + ((gt b j).Copied) }) sca3.2 rfl (add_add _ _ _) rfl rfl ((hm164).lo hk183) hx163 rfl (Nat.le_of_ble_eq_true rfl) rfl ?_
                intro w186 hk187 hs188 hO189
                have hz190 := hk187.size
                have hB191 := hB185.step hk187 (fun i_ hi_ e' => by have := (((hm164).lo hk183)).base_le e'; first | omega | (exfalso; omega) | exact e' | exact .inl e' | exact .inr e')
                have hS192 := ((Kp.refl w166 : Kp (fun b_ => A34 = some ⟨b_, 0, none⟩) w166 w166).lo hk183).step hk187 (fun _ _ e => e)
                have hx193 : ((((b.take j).foldl ins a).set ((k : Int).toNat) ({ (gt ((b.take j).foldl ins a) k) with Lent := ((gt ((b.take j).foldl ins a) k).Lent) + ((gt b j).Lent) })).set ((k : Int).toNat) ({ ({ (gt ((b.take j).foldl ins a) k) with Lent := ((gt ((b.take j).foldl ins a) k).Lent) + ((gt b j).Lent) }) with Copied := ((gt ((b.take j).foldl ins a) k).Copied) + ((gt b j).Copied) }))[(k : Int).toNat]? = some ({ ({ (gt ((b.take j).foldl ins a) k) with Lent := ((gt ((b.take j).foldl ins a) k).Lent) + ((gt b j).Lent) }) with Copied := ((gt ((b.take j).foldl ins a) k).Copied) + ((gt b j).Copied) }) := List.getElem?_set_self (List.getElem?_eq_some_iff.1 hx163).1
                refine SR.nil ⟨hS192, _, rfl, ?_⟩
                refine AH.done (by kernel_rfl) ?_
                exact ⟨⟨rfl, rfl, rfl, rfl, rfl, rfl, rfl, rfl, trivial⟩, hS192, (hO189), hx193⟩
              rintro f195 w196 ⟨hat198, hR197, hm194, hx193⟩
              rw [← sets_of_at hat198]
              have hz199 := hR197.size
              have hB200 := hB170.step hR197 (fun i_ hi_ e' => by have := ((hm164)).base_le e'; first | omega | (exfalso; omega) | exact e' | exact .inl e' | exact .inr e')
              refine W.seq ?_
              refine W.regA (Kp (fun b_ => A34 = some ⟨b_, 0, none⟩) w196) (fun f' w' => At f' [(4, .slice none 0 0), (5, .bool false), (6, .slice A34 n34 c34), (8, .pointer (some ((⟨g51, 0, none⟩ : Addr)))), (9, .int .i64 (k : Int)), (20, .slice Ab nb cb), (21, .int .i64 (nb : Int)), (22, .int .i64 (j : Int))] ∧ (Kp (fun b_ => A34 = some ⟨b_, 0, none⟩) w196 w') ∧ (SlO w' w.heap.size encLibRow 5 25 A34 n34 c34 (((((b.take j).foldl ins a).set ((k : Int).toNat) ({ (gt ((b.take j).foldl ins a) k) with Lent := ((gt ((b.take j).foldl ins a) k).Lent) + ((gt b j).Lent) })).set ((k : Int).toNat) ({ ({ (gt ((b.take j).foldl ins a) k) with Lent := ((gt ((b.take j).foldl ins a) k).Lent) + ((gt b j).Lent) }) with Copied := ((gt ((b.take j).foldl ins a) k).Copied) + ((gt b j).Copied) })).set ((k : Int).toNat) ({ ({ ({ (gt ((b.take j).foldl ins a) k) with Lent := ((gt ((b.take j).foldl ins a) k).Lent) + ((gt b j).Lent) }) with Copied := ((gt ((b.take j).foldl ins a) k).Copied) + ((gt b j).Copied) }) with Given := ((gt ((b.take j).foldl ins a) k).Given) + ((gt b j).Given) }))) ∧ ((((((b.take j).foldl ins a).set ((k : Int).toNat) ({ (gt ((b.take j).foldl ins a) k) with Lent := ((gt ((b.take j).foldl ins a) k).Lent) + ((gt b j).Lent) })).set ((k : Int).toNat) ({ ({ (gt ((b.take j).foldl ins a) k) with Lent := ((gt ((b.take j).foldl ins a) k).Lent) + ((gt b j).Lent) }) with Copied := ((gt ((b.take j).foldl ins a) k).Copied) + ((gt b j).Copied) })).set ((k : Int).toNat) ({ ({ ({ (gt ((b.take j).foldl ins a) k) with Lent := ((gt ((b.take j).foldl ins a) k).Lent) + ((gt b j).Lent) }) with Copied := ((gt ((b.take j).foldl ins a) k).Copied) + ((gt b j).Copied) }) with Given := ((gt ((b.take j).foldl ins a) k).Given) + ((gt b j).Given) }))[(k : Int).toNat]? = some ({ ({ ({ (gt ((b.take j).foldl ins a) k) with Lent := ((gt ((b.take j).foldl ins a) k).Lent) + ((gt b j).Lent) }) with Copied := ((gt ((b.take j).foldl ins a) k).Copied) + ((gt b j).Copied) }) with Given := ((gt ((b.take j).foldl ins a) k).Given) + ((gt b j).Given) }))) mo ?_ ?_
              · intro w212 hk213
                have hz214 := hk213.size
                have hB215 := hB200.lo hk213
                refine AH.take 0 rfl (by kernel_rfl) trivial ((Kp.refl w196 : Kp (fun b_ => A34 = some ⟨b_, 0, none⟩) w196 w196).lo hk213) (fun w' hw' => r_mv (v := .slice _ _ _) rfl) <| AH.take 1 rfl (by kernel_rfl) trivial ((Kp.refl w196 : Kp (fun b_ => A34 = some ⟨b_, 0, none⟩) w196 w196).lo hk213) (fun w' hw' => r_mv (v := .int .i64 _) rfl) <| AH.take 5 rfl (by kernel_rfl) trivial ((Kp.refl w196 : Kp (fun b_ => A34 = some ⟨b_, 0, none⟩) w196 w196).lo hk213) (fun w' hw' => r_fa fa25_3 rfl) <| AH.take 6 rfl (by kernel_rfl) trivial ((Kp.refl w196 : Kp (fun b_ => A34 = some ⟨b_, 0, none⟩) w196 w196).lo hk213) (fun w' hw' => r_ld (v := .int .i64 ((gt b j).Given)) sca3 rfl (((((((hm72).lo hk86).lo hk105).kp hR167 (fun e' => hd59 e')).kp hR197 (fun e' => hd59 e')).kp hw' (fun e' => hd59 e')).cell rfl)) <| AH.br [2] (by kernel_rfl) rfl ⟨Br.mk' rfl trivial ?_, trivial⟩
                refine SR.q' (r_ixR tsl31 (((hm194).lo hk213).rd) rfl rfl (by omega)) ?_
                refine SR.nil ⟨(Kp.refl w196 : Kp (fun b_ => A34 = some ⟨b_, 0, none⟩) w196 w196).lo hk213, _, rfl, ?_⟩
                refine AH.take 3 rfl (by kernel_rfl) trivial ((Kp.refl w196 : Kp (fun b_ => A34 = some ⟨b_, 0, none⟩) w196 w196).lo hk213) (fun w' hw' => r_fa fa25_3 rfl) <| AH.br [4] (by kernel_rfl) rfl ⟨Br.mk' rfl trivial ?_, trivial⟩
                refine SR.q' (r_ld (v := .int .i64 ((gt ((b.take j).foldl ins a) k).Given)) sca3 rfl ((((hm194).lo hk213).rd).cell hx193 rfl)) ?_
                refine SR.nil ⟨(Kp.refl w196 : Kp (fun b_ => A34 = some ⟨b_, 0, none⟩) w196 w196).lo hk213, _, rfl, ?_⟩
                refine AH.take 7 rfl (by kernel_rfl) trivial ((Kp.refl w196 : Kp (fun b_ => A34 = some ⟨b_, 0, none⟩) w196 w196).lo hk213) (fun w' hw' => r_add rfl rfl (by omega)) <| AH.br [8] (by kernel_rfl) rfl ⟨Br.mk' rfl trivial ?_, trivial⟩
                refine SR.q' (r_ixR tsl31 (((hm194).lo hk213).rd) rfl rfl (by omega)) ?_
                refine SR.nil ⟨(Kp.refl w196 : Kp (fun b_ => A34 = some ⟨b_, 0, none⟩) w196 w196).lo hk213, _, rfl, ?_⟩
                refine AH.take 9 rfl (by kernel_rfl) trivial ((Kp.refl w196 : Kp (fun b_ => A34 = some ⟨b_, 0, none⟩) w196 w196).lo hk213) (fun w' hw' => r_fa fa25_3 rfl) <| AH.br [10] (by kernel_rfl) rfl ⟨Br.mk' rfl trivial ?_, trivial⟩
                refine SR.storeO (o := 3) (vs := [.int .i64 (((gt ((b.take j).foldl ins a) k).Given) + ((gt b j).Given))]) (x1 := { ({ ({ (gt ((b.take j).foldl ins a) k) with Lent := ((gt ((b.take j).foldl ins a) k).Lent) + ((gt b j).Lent) }) with Copied := ((gt ((b.take j).foldl ins a) k).Copied) + ((gt b j).Copied) }) with Given := ((gt ((b.take j).foldl ins a) k).Given) + ((gt b j).Given) }) sca3.2 rfl (add_add _ _ _) rfl rfl ((hm194).lo hk213) hx193 rfl (Nat.le_of_ble_eq_true rfl) rfl ?_
                intro w216 hk217 hs218 hO219
                have hz220 := hk217.size
                have hB221 := hB215.step hk217 (fun i_ hi_ e' => by have := (((hm194).lo hk213)).base_le e'; first | omega | (exfalso; omega) | exact e' | exact .inl e' | exact .inr e')
                have hS222 := ((Kp.refl w196 : Kp (fun b_ => A34 = some ⟨b_, 0, none⟩) w196 w196).lo hk213).step hk217 (fun _ _ e => e)
                have hx223 : (((((b.take j).foldl ins a).set ((k : Int).toNat) ({ (gt ((b.take j).foldl ins a) k) with Lent := ((gt ((b.take j).foldl ins a) k).Lent) + ((gt b j).Lent) })).set ((k : Int).toNat) ({ ({ (gt ((b.take j).foldl ins a) k) with Lent := ((gt ((b.take j).foldl ins a) k).Lent) + ((gt b j).Lent) }) with Copied := ((gt ((b.take j).foldl ins a) k).Copied) + ((gt b j).Copied) })).set ((k : Int).toNat) ({ ({ ({ (gt ((b.take j).foldl ins a) k) with Lent := ((gt ((b.take j).foldl ins a) k).Lent) + ((gt b j).Lent) }) with Copied := ((gt ((b.take j).foldl ins a) k).Copied) + ((gt b j).Copied) }) with Given := ((gt ((b.take j).foldl ins a) k).Given) + ((gt b j).Given) }))[(k : Int).toNat]? = some ({ ({ ({ (gt ((b.take j).foldl ins a) k) with Lent := ((gt ((b.take j).foldl ins a) k).Lent) + ((gt b j).Lent) }) with Copied := ((gt ((b.take j).foldl ins a) k).Copied) + ((gt b j).Copied) }) with Given := ((gt ((b.take j).foldl ins a) k).Given) + ((gt b j).Given) }) := List.getElem?_set_self (List.getElem?_eq_some_iff.1 hx193).1
                refine SR.nil ⟨hS222, _, rfl, ?_⟩
                refine AH.done (by kernel_rfl) ?_
                exact ⟨⟨rfl, rfl, rfl, rfl, rfl, rfl, rfl, rfl, trivial⟩, hS222, (hO219), hx223⟩
              rintro f225 w226 ⟨hat228, hR227, hm224, hx223⟩
              rw [← sets_of_at hat228]
              have hz229 := hR227.size
              have hB230 := hB200.step hR227 (fun i_ hi_ e' => by have := ((hm194)).base_le e'; first | omega | (exfalso; omega) | exact e' | exact .inl e' | exact .inr e')
              refine W.regA (Kp (fun b_ => A34 = some ⟨b_, 0, none⟩) w226) (fun f' w' => At f' [(4, .slice none 0 0), (5, .bool false), (6, .slice A34 n34 c34), (20, .slice Ab nb cb), (21, .int .i64 (nb : Int)), (22, .int .i64 (j : Int))] ∧ (Kp (fun b_ => A34 = some ⟨b_, 0, none⟩) w226 w') ∧ (SlO w' w.heap.size encLibRow 5 25 A34 n34 c34 ((((((b.take j).foldl ins a).set ((k : Int).toNat) ({ (gt ((b.take j).foldl ins a) k) with Lent := ((gt ((b.take j).foldl ins a) k).Lent) + ((gt b j).Lent) })).set ((k : Int).toNat) ({ ({ (gt ((b.take j).foldl ins a) k) with Lent := ((gt ((b.take j).foldl ins a) k).Lent) + ((gt b j).Lent) }) with Copied := ((gt ((b.take j).foldl ins a) k).Copied) + ((gt b j).Copied) })).set ((k : Int).toNat) ({ ({ ({ (gt ((b.take j).foldl ins a) k) with Lent := ((gt ((b.take j).foldl ins a) k).Lent) + ((gt b j).Lent) }) with Copied := ((gt ((b.take j).foldl ins a) k).Copied) + ((gt b j).Copied) }) with Given := ((gt ((b.take j).foldl ins a) k).Given) + ((gt b j).Given) })).set ((k : Int).toNat) ({ ({ ({ ({ (gt ((b.take j).foldl ins a) k) with Lent := ((gt ((b.take j).foldl ins a) k).Lent) + ((gt b j).Lent) }) with Copied := ((gt ((b.take j).foldl ins a) k).Copied) + ((gt b j).Copied) }) with Given := ((gt ((b.take j).foldl ins a) k).Given) + ((gt b j).Given) }) with Fines := ((gt ((b.take j).foldl ins a) k).Fines) + ((gt b j).Fines) }))) ∧ (((((((b.take j).foldl ins a).set ((k : Int).toNat) ({ (gt ((b.take j).foldl ins a) k) with Lent := ((gt ((b.take j).foldl ins a) k).Lent) + ((gt b j).Lent) })).set ((k : Int).toNat) ({ ({ (gt ((b.take j).foldl ins a) k) with Lent := ((gt ((b.take j).foldl ins a) k).Lent) + ((gt b j).Lent) }) with Copied := ((gt ((b.take j).foldl ins a) k).Copied) + ((gt b j).Copied) })).set ((k : Int).toNat) ({ ({ ({ (gt ((b.take j).foldl ins a) k) with Lent := ((gt ((b.take j).foldl ins a) k).Lent) + ((gt b j).Lent) }) with Copied := ((gt ((b.take j).foldl ins a) k).Copied) + ((gt b j).Copied) }) with Given := ((gt ((b.take j).foldl ins a) k).Given) + ((gt b j).Given) })).set ((k : Int).toNat) ({ ({ ({ ({ (gt ((b.take j).foldl ins a) k) with Lent := ((gt ((b.take j).foldl ins a) k).Lent) + ((gt b j).Lent) }) with Copied := ((gt ((b.take j).foldl ins a) k).Copied) + ((gt b j).Copied) }) with Given := ((gt ((b.take j).foldl ins a) k).Given) + ((gt b j).Given) }) with Fines := ((gt ((b.take j).foldl ins a) k).Fines) + ((gt b j).Fines) }))[(k : Int).toNat]? = some ({ ({ ({ ({ (gt ((b.take j).foldl ins a) k) with Lent := ((gt ((b.take j).foldl ins a) k).Lent) + ((gt b j).Lent) }) with Copied := ((gt ((b.take j).foldl ins a) k).Copied) + ((gt b j).Copied) }) with Given := ((gt ((b.take j).foldl ins a) k).Given) + ((gt b j).Given) }) with Fines := ((gt ((b.take j).foldl ins a) k).Fines) + ((gt b j).Fines) }))) mo ?_ ?_
              · intro w242 hk243
                have hz244 := hk243.size
                have hB245 := hB230.lo hk243
                refine AH.take 0 rfl (by kernel_rfl) trivial ((Kp.refl w226 : Kp (fun b_ => A34 = some ⟨b_, 0, none⟩) w226 w226).lo hk243) (fun w' hw' => r_mv (v := .slice _ _ _) rfl) <| AH.take 1 rfl (by kernel_rfl) trivial ((Kp.refl w226 : Kp (fun b_ => A34 = some ⟨b_, 0, none⟩) w226 w226).lo hk243) (fun w' hw' => r_mv (v := .int .i64 _) rfl) <| AH.take 5 rfl (by kernel_rfl) trivial ((Kp.refl w226 : Kp (fun b_ => A34 = some ⟨b_, 0, none⟩) w226 w226).lo hk243) (fun w' hw' => r_fa fa25_4 rfl) <| AH.take 6 rfl (by kernel_rfl) trivial ((Kp.refl w226 : Kp (fun b_ => A34 = some ⟨b_, 0, none⟩) w226 w226).lo hk243) (fun w' hw' => r_ld (v := .int .i64 ((gt b j).Fines)) sca3 rfl ((((((((hm72).lo hk86).lo hk105).kp hR167 (fun e' => hd59 e')).kp hR197 (fun e' => hd59 e')).kp hR227 (fun e' => hd59 e')).kp hw' (fun e' => hd59 e')).cell rfl)) <| AH.br [2] (by kernel_rfl) rfl ⟨Br.mk' rfl trivial ?_, trivial⟩
                refine SR.q' (r_ixR tsl31 (((hm224).lo hk243).rd) rfl rfl (by omega)) ?_
                refine SR.nil ⟨(Kp.refl w226 : Kp (fun b_ => A34 = some ⟨b_, 0, none⟩) w226 w226).lo hk243, _, rfl, ?_⟩
                refine AH.take 3 rfl (by kernel_rfl) trivial ((Kp.refl w226 : Kp (fun b_ => A34 = some ⟨b_, 0, none⟩) w226 w226).lo hk243) (fun w' hw' => r_fa fa25_4 rfl) <| AH.br [4] (by kernel_rfl) rfl ⟨Br.mk' rfl trivial ?_, trivial⟩
                refine SR.q' (r_ld (v := .int .i64 ((gt ((b.take j).foldl ins a) k).Fines)) sca3 rfl ((((hm224).lo hk243).rd).cell hx223 rfl)) ?_
                refine SR.nil ⟨(Kp.refl w226 : Kp (fun b_ => A34 = some ⟨b_, 0, none⟩) w226 w226).lo hk243, _, rfl, ?_⟩
                refine AH.take 7 rfl (by kernel_rfl) trivial ((Kp.refl w226 : Kp (fun b_ => A34 = some ⟨b_, 0, none⟩) w226 w226).lo hk243) (fun w' hw' => r_add rfl rfl (by omega)) <| AH.br [8] (by kernel_rfl) rfl ⟨Br.mk' rfl trivial ?_, trivial⟩
                refine SR.q' (r_ixR tsl31 (((hm224).lo hk243).rd) rfl rfl (by omega)) ?_
                refine SR.nil ⟨(Kp.refl w226 : Kp (fun b_ => A34 = some ⟨b_, 0, none⟩) w226 w226).lo hk243, _, rfl, ?_⟩
                refine AH.take 9 rfl (by kernel_rfl) trivial ((Kp.refl w226 : Kp (fun b_ => A34 = some ⟨b_, 0, none⟩) w226 w226).lo hk243) (fun w' hw' => r_fa fa25_4 rfl) <| AH.br [10] (by kernel_rfl) rfl ⟨Br.mk' rfl trivial ?_, trivial⟩
                refine SR.storeO (o := 4) (vs := [.int .i64 (((gt ((b.take j).foldl ins a) k).Fines) + ((gt b j).Fines))]) (x1 := { ({ ({ ({ (gt ((b.take j).foldl ins a) k) with Lent := ((gt ((b.take j).foldl ins a) k).Lent) + ((gt b j).Lent) }) with Copied := ((gt ((b.take j).foldl ins a) k).Copied) + ((gt b j).Copied) }) with Given := ((gt ((b.take j).foldl ins a) k).Given) + ((gt b j).Given) }) with Fines := ((gt ((b.take j).foldl ins a) k).Fines) + ((gt b j).Fines) }) sca3.2 rfl (add_add _ _ _) rfl rfl ((hm224).lo hk243) hx223 rfl (Nat.le_of_ble_eq_true rfl) rfl ?_
                intro w246 hk247 hs248 hO249
                have hz250 := hk247.size
                have hB251 := hB245.step hk247 (fun i_ hi_ e' => by have := (((hm224).lo hk243)).base_le e'; first | omega | (exfalso; omega) | exact e' | exact .inl e' | exact .inr e')
                have hS252 := ((Kp.refl w226 : Kp (fun b_ => A34 = some ⟨b_, 0, none⟩) w226 w226).lo hk243).step hk247 (fun _ _ e => e)
                have hx253 : ((((((b.take j).foldl ins a).set ((k : Int).toNat) ({ (gt ((b.take j).foldl ins a) k) with Lent := ((gt ((b.take j).foldl ins a) k).Lent) + ((gt b j).Lent) })).set ((k : Int).toNat) ({ ({ (gt ((b.take j).foldl ins a) k) with Lent := ((gt ((b.take j).foldl ins a) k).Lent) + ((gt b j).Lent) }) with Copied := ((gt ((b.take j).foldl ins a) k).Copied) + ((gt b j).Copied) })).set ((k : Int).toNat) ({ ({ ({ (gt ((b.take j).foldl ins a) k) with Lent := ((gt ((b.take j).foldl ins a) k).Lent) + ((gt b j).Lent) }) with Copied := ((gt ((b.take j).foldl ins a) k).Copied) + ((gt b j).Copied) }) with Given := ((gt ((b.take j).foldl ins a) k).Given) + ((gt b j).Given) })).set ((k : Int).toNat) ({ ({ ({ ({ (gt ((b.take j).foldl ins a) k) with Lent := ((gt ((b.take j).foldl ins a) k).Lent) + ((gt b j).Lent) }) with Copied := ((gt ((b.take j).foldl ins a) k).Copied) + ((gt b j).Copied) }) with Given := ((gt ((b.take j).foldl ins a) k).Given) + ((gt b j).Given) }) with Fines := ((gt ((b.take j).foldl ins a) k).Fines) + ((gt b j).Fines) }))[(k : Int).toNat]? = some ({ ({ ({ ({ (gt ((b.take j).foldl ins a) k) with Lent := ((gt ((b.take j).foldl ins a) k).Lent) + ((gt b j).Lent) }) with Copied := ((gt ((b.take j).foldl ins a) k).Copied) + ((gt b j).Copied) }) with Given := ((gt ((b.take j).foldl ins a) k).Given) + ((gt b j).Given) }) with Fines := ((gt ((b.take j).foldl ins a) k).Fines) + ((gt b j).Fines) }) := List.getElem?_set_self (List.getElem?_eq_some_iff.1 hx223).1
                refine SR.nil ⟨hS252, _, rfl, ?_⟩
                refine AH.done (by kernel_rfl) ?_
                exact ⟨⟨rfl, rfl, rfl, rfl, rfl, rfl, trivial⟩, hS252, (hO249), hx253⟩
              rintro f255 w256 ⟨hat258, hR257, hm254, hx253⟩
              rw [← sets_of_at hat258]
              have hz259 := hR257.size
              have hB260 := hB230.step hR257 (fun i_ hi_ e' => by have := ((hm224)).base_le e'; first | omega | (exfalso; omega) | exact e' | exact .inl e' | exact .inr e')
              refine W.regS (SR.q' (r_add rfl rfl (by omega)) <| SR.q' (r_mv (v := .int .i64 _) rfl) <| SR.nil ?_)
              refine ⟨(j + 1, A34, n34, c34), _, rfl, ⟨rfl, rfl, rfl, rfl, rfl, rfl, trivial⟩, ⟨hB260, ((((((hm73).lo hk86).lo hk105).kp hR167 (fun b_ hb e' => by have := ((((hm71).lo hk86).lo hk105)).base_le e'; omega)).kp hR197 (fun b_ hb e' => by have := ((hm164)).base_le e'; omega)).kp hR227 (fun b_ hb e' => by have := ((hm194)).base_le e'; omega)).kp hR257 (fun b_ hb e' => by have := ((hm224)).base_le e'; omega), (SlO.eqv (hm254) (z_c_impl_MergeRows_261 a na hbda hlea b nb hbdb hleb h17 hq20 hq21 hq22 hq23 n27 hl32 hl33 j n34 c34 hi43 hl44 hq46 h47 hx49 hq50 k hi74 h89 h108 hq133 hq134 hx154 hq155 hx163 hx193 hx223 hx253)), ?_⟩, ?_⟩
              · exact (z_c_impl_MergeRows_262 a na hbda hlea b nb hbdb hleb h17 hq20 hq21 hq22 hq23 n27 hl32 hl33 j n34 c34 hi43 hl44 hq46 h47 hx49 hq50 k hi74 h89 h108 hq133 hq134 hx154 hq155 hx163 hx193 hx223 hx253)
              · exact (z_c_impl_MergeRows_263 a na hbda hlea b nb hbdb hleb h17 hq20 hq21 hq22 hq23 n27 hl32 hl33 j n34 c34 hi43 hl44 hq46 h47 hx49 hq50 k hi74 h89 h108 hq133 hq134 hx154 hq155 hx163 hx193 hx223 hx253)
      · refine W.exit (xin_here ?_)
        refine W.seq ?_
        refine W.seq ?_
        refine W.regS (SR.q' (r_mv (v := .slice _ _ _) rfl) <| SR.call ent17 (c_impl_AreLibRows w38 ((b.take j).foldl ins a) (((hO42).rd))) rfl ?_)
        rintro e w264 ⟨rfl, hk265⟩
        refine ⟨_, rfl, ?_⟩
        have hz266 := hk265.size
        have hB267 := hB39.lo hk265
        refine SR.q' (r_not rfl) <| SR.nil ?_
        refine W.cond_n rfl (fun h268 => ?_) (fun h268 => ?_)
        · refine W.seq ?_
          refine W.regS (SR.q' (r_as (v := .slice none 0 0) rfl) <| SR.q' (r_as (v := .bool false) rfl) <| SR.nil ?_)
          refine W.ret ?_
          refine ret2 rfl (v := .slice none 0 0) (v' := .bool _) rfl rfl ?_
          exact ⟨none, 0, 0, eR (eT2 rfl (eB (z_c_impl_MergeRows_270 a na hbda hlea b nb hbdb hleb h17 hq20 hq21 hq22 hq23 n27 hl32 hl33 j n34 c34 hi43 hl44 hq46 h47 h268))), (SlO.eqv (SlO.nil (e := 25) (enc := encLibRow) (fun _ => rfl) (by omega)) (z_c_impl_MergeRows_269 a na hbda hlea b nb hbdb hleb h17 hq20 hq21 hq22 hq23 n27 hl32 hl33 j n34 c34 hi43 hl44 hq46 h47 h268)), hB267⟩
        · refine W.skip ?_
          refine W.seq ?_
          refine W.regS (SR.q' (r_mv (v := .slice _ _ _) rfl) <| SR.q' (r_as (v := .slice _ _ _) rfl) <| SR.q' (r_as (v := .bool true) rfl) <| SR.nil ?_)
          refine W.ret ?_
          refine ret2 rfl (v := .slice _ _ _) (v' := .bool _) rfl rfl ?_
          exact ⟨A34, n34, c34, eR (eT2 rfl (eB (z_c_impl_MergeRows_272 a na hbda hlea b nb hbdb hleb h17 hq20 hq21 hq22 hq23 n27 hl32 hl33 j n34 c34 hi43 hl44 hq46 h47 h268))), (SlO.eqv (((hO42).lo hk265).down (by omega)) (z_c_impl_MergeRows_271 a na hbda hlea b nb hbdb hleb h17 hq20 hq21 hq22 hq23 n27 hl32 hl33 j n34 c34 hi43 hl44 hq46 h47 h268)), hB267⟩

theorem z_c_laws_FnExactMergeRows_80 (a : List LibRow) (na : Nat) (hbda : (na : Int) ≤ 9223372036854775807) (hlea : na = a.length) (b : List LibRow) (nb : Nat) (hbdb : (nb : Int) ≤ 9223372036854775807) (hleb : nb = b.length) (h5 : ¬ ((szN a.length 1048576) < 0)) (hq6 : ((a.length : Nat) : Int) ≤ 1048576 ∧ szN a.length 1048576 = 1048576 - (a.length : Int)) (h11 : ¬ ((szN b.length (szN a.length 1048576)) < 0)) (hq12 : ((b.length : Nat) : Int) ≤ (szN a.length 1048576) ∧ szN b.length (szN a.length 1048576) = (szN a.length 1048576) - (b.length : Int)) (n16 : Nat) (hl21 : n16 = (a).length) (hl22 : (n16 : Int) ≤ 9223372036854775807) (n26 : Nat) (hl31 : n26 = (b).length) (hl32 : (n26 : Int) ≤ 9223372036854775807) (n36 : Nat) (hl41 : n36 = ((mrg a b).getD []).length) (hl42 : (n36 : Int) ≤ 9223372036854775807) (hq43 : ((mrg a b).getD []).length ≤ 12) (n47 : Nat) (hl52 : n47 = (a).length) (hl53 : (n47 : Int) ≤ 9223372036854775807) (n57 : Nat) (hl62 : n57 = (b).length) (hl63 : (n57 : Int) ≤ 9223372036854775807) (n67 : Nat) (hl72 : n67 = ((mrg a b).getD []).length) (hl73 : (n67 : Int) ≤ 9223372036854775807) (hq74 : ((mrg a b).getD []).length ≤ 12) (h79 : ¬ (((mrg a b).getD []) = ((mrg a b).getD []))) : false = true := by
  first | (simp_all; done) | omega
theorem z_c_laws_FnExactMergeRows_96 (a : List LibRow) (na : Nat) (hbda : (na : Int) ≤ 9223372036854775807) (hlea : na = a.length) (b : List LibRow) (nb : Nat) (hbdb : (nb : Int) ≤ 9223372036854775807) (hleb : nb = b.length) (h5 : ¬ ((szN a.length 1048576) < 0)) (hq6 : ((a.length : Nat) : Int) ≤ 1048576 ∧ szN a.length 1048576 = 1048576 - (a.length : Int)) (h11 : ¬ ((szN b.length (szN a.length 1048576)) < 0)) (hq12 : ((b.length : Nat) : Int) ≤ (szN a.length 1048576) ∧ szN b.length (szN a.length 1048576) = (szN a.length 1048576) - (b.length : Int)) (n16 : Nat) (hl21 : n16 = (a).length) (hl22 : (n16 : Int) ≤ 9223372036854775807) (n26 : Nat) (hl31 : n26 = (b).length) (hl32 : (n26 : Int) ≤ 9223372036854775807) (n36 : Nat) (hl41 : n36 = ((mrg a b).getD []).length) (hl42 : (n36 : Int) ≤ 9223372036854775807) (hq43 : ((mrg a b).getD []).length ≤ 12) (n47 : Nat) (hl52 : n47 = (a).length) (hl53 : (n47 : Int) ≤ 9223372036854775807) (n57 : Nat) (hl62 : n57 = (b).length) (hl63 : (n57 : Int) ≤ 9223372036854775807) (n67 : Nat) (hl72 : n67 = ((mrg a b).getD []).length) (hl73 : (n67 : Int) ≤ 9223372036854775807) (hq74 : ((mrg a b).getD []).length ≤ 12) (h79 : ((mrg a b).getD []) = ((mrg a b).getD [])) (n84 : Nat) (hl89 : n84 = (a).length) (hl90 : (n84 : Int) ≤ 9223372036854775807) (h95 : ¬ (a = a)) : false = true := by
  first | (simp_all; done) | omega
theorem z_c_laws_FnExactMergeRows_112 (a : List LibRow) (na : Nat) (hbda : (na : Int) ≤ 9223372036854775807) (hlea : na = a.length) (b : List LibRow) (nb : Nat) (hbdb : (nb : Int) ≤ 9223372036854775807) (hleb : nb = b.length) (h5 : ¬ ((szN a.length 1048576) < 0)) (hq6 : ((a.length : Nat) : Int) ≤ 1048576 ∧ szN a.length 1048576 = 1048576 - (a.length : Int)) (h11 : ¬ ((szN b.length (szN a.length 1048576)) < 0)) (hq12 : ((b.length : Nat) : Int) ≤ (szN a.length 1048576) ∧ szN b.length (szN a.length 1048576) = (szN a.length 1048576) - (b.length : Int)) (n16 : Nat) (hl21 : n16 = (a).length) (hl22 : (n16 : Int) ≤ 9223372036854775807) (n26 : Nat) (hl31 : n26 = (b).length) (hl32 : (n26 : Int) ≤ 9223372036854775807) (n36 : Nat) (hl41 : n36 = ((mrg a b).getD []).length) (hl42 : (n36 : Int) ≤ 9223372036854775807) (hq43 : ((mrg a b).getD []).length ≤ 12) (n47 : Nat) (hl52 : n47 = (a).length) (hl53 : (n47 : Int) ≤ 9223372036854775807) (n57 : Nat) (hl62 : n57 = (b).length) (hl63 : (n57 : Int) ≤ 9223372036854775807) (n67 : Nat) (hl72 : n67 = ((mrg a b).getD []).length) (hl73 : (n67 : Int) ≤ 9223372036854775807) (hq74 : ((mrg a b).getD []).length ≤ 12) (h79 : ((mrg a b).getD []) = ((mrg a b).getD [])) (n84 : Nat) (hl89 : n84 = (a).length) (hl90 : (n84 : Int) ≤ 9223372036854775807) (h95 : a = a) (n100 : Nat) (hl105 : n100 = (b).length) (hl106 : (n100 : Int) ≤ 9223372036854775807) (h111 : ¬ (b = b)) : false = true := by
  first | (simp_all; done) | omega
theorem z_c_laws_FnExactMergeRows_124 (a : List LibRow) (na : Nat) (hbda : (na : Int) ≤ 9223372036854775807) (hlea : na = a.length) (b : List LibRow) (nb : Nat) (hbdb : (nb : Int) ≤ 9223372036854775807) (hleb : nb = b.length) (h5 : ¬ ((szN a.length 1048576) < 0)) (hq6 : ((a.length : Nat) : Int) ≤ 1048576 ∧ szN a.length 1048576 = 1048576 - (a.length : Int)) (h11 : ¬ ((szN b.length (szN a.length 1048576)) < 0)) (hq12 : ((b.length : Nat) : Int) ≤ (szN a.length 1048576) ∧ szN b.length (szN a.length 1048576) = (szN a.length 1048576) - (b.length : Int)) (n16 : Nat) (hl21 : n16 = (a).length) (hl22 : (n16 : Int) ≤ 9223372036854775807) (n26 : Nat) (hl31 : n26 = (b).length) (hl32 : (n26 : Int) ≤ 9223372036854775807) (n36 : Nat) (hl41 : n36 = ((mrg a b).getD []).length) (hl42 : (n36 : Int) ≤ 9223372036854775807) (hq43 : ((mrg a b).getD []).length ≤ 12) (n47 : Nat) (hl52 : n47 = (a).length) (hl53 : (n47 : Int) ≤ 9223372036854775807) (n57 : Nat) (hl62 : n57 = (b).length) (hl63 : (n57 : Int) ≤ 9223372036854775807) (n67 : Nat) (hl72 : n67 = ((mrg a b).getD []).length) (hl73 : (n67 : Int) ≤ 9223372036854775807) (hq74 : ((mrg a b).getD []).length ≤ 12) (h79 : ((mrg a b).getD []) = ((mrg a b).getD [])) (n84 : Nat) (hl89 : n84 = (a).length) (hl90 : (n84 : Int) ≤ 9223372036854775807) (h95 : a = a) (n100 : Nat) (hl105 : n100 = (b).length) (hl106 : (n100 : Int) ≤ 9223372036854775807) (h111 : b = b) (h123 : ((1 + 5 * (a.length : Int)) + 5 * (b.length : Int)) < 0) : false = true := by
  first | (simp_all; done) | omega
theorem z_c_laws_FnExactMergeRows_130 (a : List LibRow) (na : Nat) (hbda : (na : Int) ≤ 9223372036854775807) (hlea : na = a.length) (b : List LibRow) (nb : Nat) (hbdb : (nb : Int) ≤ 9223372036854775807) (hleb : nb = b.length) (h5 : ¬ ((szN a.length 1048576) < 0)) (hq6 : ((a.length : Nat) : Int) ≤ 1048576 ∧ szN a.length 1048576 = 1048576 - (a.length : Int)) (h11 : ¬ ((szN b.length (szN a.length 1048576)) < 0)) (hq12 : ((b.length : Nat) : Int) ≤ (szN a.length 1048576) ∧ szN b.length (szN a.length 1048576) = (szN a.length 1048576) - (b.length : Int)) (n16 : Nat) (hl21 : n16 = (a).length) (hl22 : (n16 : Int) ≤ 9223372036854775807) (n26 : Nat) (hl31 : n26 = (b).length) (hl32 : (n26 : Int) ≤ 9223372036854775807) (n36 : Nat) (hl41 : n36 = ((mrg a b).getD []).length) (hl42 : (n36 : Int) ≤ 9223372036854775807) (hq43 : ((mrg a b).getD []).length ≤ 12) (n47 : Nat) (hl52 : n47 = (a).length) (hl53 : (n47 : Int) ≤ 9223372036854775807) (n57 : Nat) (hl62 : n57 = (b).length) (hl63 : (n57 : Int) ≤ 9223372036854775807) (n67 : Nat) (hl72 : n67 = ((mrg a b).getD []).length) (hl73 : (n67 : Int) ≤ 9223372036854775807) (hq74 : ((mrg a b).getD []).length ≤ 12) (h79 : ((mrg a b).getD []) = ((mrg a b).getD [])) (n84 : Nat) (hl89 : n84 = (a).length) (hl90 : (n84 : Int) ≤ 9223372036854775807) (h95 : a = a) (n100 : Nat) (hl105 : n100 = (b).length) (hl106 : (n100 : Int) ≤ 9223372036854775807) (h111 : b = b) (h123 : ¬ (((1 + 5 * (a.length : Int)) + 5 * (b.length : Int)) < 0)) (h129 : ¬ (((mrg a b).getD []) = ((mrg a b).getD []))) : false = true := by
  first | (simp_all; done) | omega
theorem z_c_laws_FnExactMergeRows_141 (a : List LibRow) (na : Nat) (hbda : (na : Int) ≤ 9223372036854775807) (hlea : na = a.length) (b : List LibRow) (nb : Nat) (hbdb : (nb : Int) ≤ 9223372036854775807) (hleb : nb = b.length) (h5 : ¬ ((szN a.length 1048576) < 0)) (hq6 : ((a.length : Nat) : Int) ≤ 1048576 ∧ szN a.length 1048576 = 1048576 - (a.length : Int)) (h11 : ¬ ((szN b.length (szN a.length 1048576)) < 0)) (hq12 : ((b.length : Nat) : Int) ≤ (szN a.length 1048576) ∧ szN b.length (szN a.length 1048576) = (szN a.length 1048576) - (b.length : Int)) (n16 : Nat) (hl21 : n16 = (a).length) (hl22 : (n16 : Int) ≤ 9223372036854775807) (n26 : Nat) (hl31 : n26 = (b).length) (hl32 : (n26 : Int) ≤ 9223372036854775807) (n36 : Nat) (hl41 : n36 = ((mrg a b).getD []).length) (hl42 : (n36 : Int) ≤ 9223372036854775807) (hq43 : ((mrg a b).getD []).length ≤ 12) (n47 : Nat) (hl52 : n47 = (a).length) (hl53 : (n47 : Int) ≤ 9223372036854775807) (n57 : Nat) (hl62 : n57 = (b).length) (hl63 : (n57 : Int) ≤ 9223372036854775807) (n67 : Nat) (hl72 : n67 = ((mrg a b).getD []).length) (hl73 : (n67 : Int) ≤ 9223372036854775807) (hq74 : ((mrg a b).getD []).length ≤ 12) (h79 : ((mrg a b).getD []) = ((mrg a b).getD [])) (n84 : Nat) (hl89 : n84 = (a).length) (hl90 : (n84 : Int) ≤ 9223372036854775807) (h95 : a = a) (n100 : Nat) (hl105 : n100 = (b).length) (hl106 : (n100 : Int) ≤ 9223372036854775807) (h111 : b = b) (h123 : ¬ (((1 + 5 * (a.length : Int)) + 5 * (b.length : Int)) < 0)) (h129 : ((mrg a b).getD []) = ((mrg a b).getD [])) (h140 : (1 + 5 * (((mrg a b).getD []).length : Int)) < 0) : false = true := by
  first | (simp_all; done) | omega
theorem z_c_laws_FnExactMergeRows_178 (a : List LibRow) (na : Nat) (hbda : (na : Int) ≤ 9223372036854775807) (hlea : na = a.length) (b : List LibRow) (nb : Nat) (hbdb : (nb : Int) ≤ 9223372036854775807) (hleb : nb = b.length) (h5 : ¬ ((szN a.length 1048576) < 0)) (hq6 : ((a.length : Nat) : Int) ≤ 1048576 ∧ szN a.length 1048576 = 1048576 - (a.length : Int)) (h11 : ¬ ((szN b.length (szN a.length 1048576)) < 0)) (hq12 : ((b.length : Nat) : Int) ≤ (szN a.length 1048576) ∧ szN b.length (szN a.length 1048576) = (szN a.length 1048576) - (b.length : Int)) (n16 : Nat) (hl21 : n16 = (a).length) (hl22 : (n16 : Int) ≤ 9223372036854775807) (n26 : Nat) (hl31 : n26 = (b).length) (hl32 : (n26 : Int) ≤ 9223372036854775807) (n36 : Nat) (hl41 : n36 = ((mrg a b).getD []).length) (hl42 : (n36 : Int) ≤ 9223372036854775807) (hq43 : ((mrg a b).getD []).length ≤ 12) (n47 : Nat) (hl52 : n47 = (a).length) (hl53 : (n47 : Int) ≤ 9223372036854775807) (n57 : Nat) (hl62 : n57 = (b).length) (hl63 : (n57 : Int) ≤ 9223372036854775807) (n67 : Nat) (hl72 : n67 = ((mrg a b).getD []).length) (hl73 : (n67 : Int) ≤ 9223372036854775807) (hq74 : ((mrg a b).getD []).length ≤ 12) (h79 : ((mrg a b).getD []) = ((mrg a b).getD [])) (n84 : Nat) (hl89 : n84 = (a).length) (hl90 : (n84 : Int) ≤ 9223372036854775807) (h95 : a = a) (n100 : Nat) (hl105 : n100 = (b).length) (hl106 : (n100 : Int) ≤ 9223372036854775807) (h111 : b = b) (h123 : ¬ (((1 + 5 * (a.length : Int)) + 5 * (b.length : Int)) < 0)) (h129 : ((mrg a b).getD []) = ((mrg a b).getD [])) (h140 : ¬ ((1 + 5 * (((mrg a b).getD []).length : Int)) < 0)) (n145 : Nat) (hl150 : n145 = (a).length) (hl151 : (n145 : Int) ≤ 9223372036854775807) (n155 : Nat) (hl160 : n155 = (b).length) (hl161 : (n155 : Int) ≤ 9223372036854775807) (n165 : Nat) (hl170 : n165 = ((mrg a b).getD []).length) (hl171 : (n165 : Int) ≤ 9223372036854775807) (hq172 : ((mrg a b).getD []).length ≤ 12) (h177 : ¬ (((mrg a b).getD []) = ((mrg a b).getD []))) : false = true := by
  first | (simp_all; done) | omega
theorem z_c_laws_FnExactMergeRows_184 (a : List LibRow) (na : Nat) (hbda : (na : Int) ≤ 9223372036854775807) (hlea : na = a.length) (b : List LibRow) (nb : Nat) (hbdb : (nb : Int) ≤ 9223372036854775807) (hleb : nb = b.length) (h5 : ¬ ((szN a.length 1048576) < 0)) (hq6 : ((a.length : Nat) : Int) ≤ 1048576 ∧ szN a.length 1048576 = 1048576 - (a.length : Int)) (h11 : ¬ ((szN b.length (szN a.length 1048576)) < 0)) (hq12 : ((b.length : Nat) : Int) ≤ (szN a.length 1048576) ∧ szN b.length (szN a.length 1048576) = (szN a.length 1048576) - (b.length : Int)) (n16 : Nat) (hl21 : n16 = (a).length) (hl22 : (n16 : Int) ≤ 9223372036854775807) (n26 : Nat) (hl31 : n26 = (b).length) (hl32 : (n26 : Int) ≤ 9223372036854775807) (n36 : Nat) (hl41 : n36 = ((mrg a b).getD []).length) (hl42 : (n36 : Int) ≤ 9223372036854775807) (hq43 : ((mrg a b).getD []).length ≤ 12) (n47 : Nat) (hl52 : n47 = (a).length) (hl53 : (n47 : Int) ≤ 9223372036854775807) (n57 : Nat) (hl62 : n57 = (b).length) (hl63 : (n57 : Int) ≤ 9223372036854775807) (n67 : Nat) (hl72 : n67 = ((mrg a b).getD []).length) (hl73 : (n67 : Int) ≤ 9223372036854775807) (hq74 : ((mrg a b).getD []).length ≤ 12) (h79 : ((mrg a b).getD []) = ((mrg a b).getD [])) (n84 : Nat) (hl89 : n84 = (a).length) (hl90 : (n84 : Int) ≤ 9223372036854775807) (h95 : a = a) (n100 : Nat) (hl105 : n100 = (b).length) (hl106 : (n100 : Int) ≤ 9223372036854775807) (h111 : b = b) (h123 : ¬ (((1 + 5 * (a.length : Int)) + 5 * (b.length : Int)) < 0)) (h129 : ((mrg a b).getD []) = ((mrg a b).getD [])) (h140 : ¬ ((1 + 5 * (((mrg a b).getD []).length : Int)) < 0)) (n145 : Nat) (hl150 : n145 = (a).length) (hl151 : (n145 : Int) ≤ 9223372036854775807) (n155 : Nat) (hl160 : n155 = (b).length) (hl161 : (n155 : Int) ≤ 9223372036854775807) (n165 : Nat) (hl170 : n165 = ((mrg a b).getD []).length) (hl171 : (n165 : Int) ≤ 9223372036854775807) (hq172 : ((mrg a b).getD []).length ≤ 12) (h177 : ((mrg a b).getD []) = ((mrg a b).getD [])) (h183 : (1 + 5 * (((mrg a b).getD []).length : Int)) < 0) : false = true := by
  first | (simp_all; done) | omega
theorem c_laws_FnExactMergeRows (w : World) {Aa : Option Addr} {na ca Ba : Nat}  (a : List LibRow) (ha : SlR w Ba encLibRow 5 Aa na ca a) {Ab : Option Addr} {nb cb Bb : Nat}  (b : List LibRow) (hb : SlR w Bb encLibRow 5 Ab nb cb b) : Calls Try.prog 9 #[.slice Aa na ca, .slice Ab nb cb] w fun e w' => e = .returned (.bool true) ∧ Lo w w' := by
  refine calls_W 119 Try.func9 rfl rfl rfl ?_
  have hbda := ha.bound
  have hlea := ha.len
  have hBba := ha.bd
  have hbdb := hb.bound
  have hleb := hb.len
  have hBbb := hb.bd
  refine W.seq ?_
  refine W.regS (SR.q' (r_as (v := .bool false) rfl) <| SR.nil ?_)
  refine W.seq ?_
  refine W.regS (SR.q' (r_as (v := .int .i64 1048576) rfl) <| SR.nil ?_)
  refine W.seq ?_
  refine W.regS (SR.q' (r_mv (v := .slice _ _ _) rfl) <| SR.q' (r_mv (v := .int .i64 _) rfl) <| SR.call ent14 (c_laws_szLibRowS w a ((ha)) 1048576 (by omega) (by omega)) rfl ?_)
  rintro e w1 ⟨rfl, hk2⟩
  refine ⟨_, rfl, ?_⟩
  have hz3 := hk2.size
  have hB4 := (Lo.refl w).lo hk2
  refine SR.q' (r_as (v := .int .i64 _) rfl) <| SR.nil ?_
  refine W.seq ?_
  refine W.seq ?_
  refine W.regS (SR.q' (r_mv (v := .int .i64 _) rfl) <| SR.q' (r_lt rfl rfl) <| SR.nil ?_)
  refine W.cond_d rfl (fun h5 => ?_) (fun h5 => ?_)
  · refine W.seq ?_
    refine W.regS (SR.q' (r_as (v := .bool true) rfl) <| SR.nil ?_)
    refine W.ret ?_
    refine ret1 rfl (v := .bool _) rfl ?_
    exact ⟨eR rfl, hB4⟩
  · have hq6 := szN_ok h5
    refine W.skip ?_
    refine W.seq ?_
    refine W.regS (SR.q' (r_mv (v := .slice _ _ _) rfl) <| SR.q' (r_mv (v := .int .i64 _) rfl) <| SR.call ent14 (c_laws_szLibRowS w1 b (((hb).lo hk2)) (szN a.length 1048576) (by omega) (by omega)) rfl ?_)
    rintro e w7 ⟨rfl, hk8⟩
    refine ⟨_, rfl, ?_⟩
    have hz9 := hk8.size
    have hB10 := hB4.lo hk8
    refine SR.q' (r_as (v := .int .i64 _) rfl) <| SR.nil ?_
    refine W.seq ?_
    refine W.seq ?_
    refine W.regS (SR.q' (r_mv (v := .int .i64 _) rfl) <| SR.q' (r_lt rfl rfl) <| SR.nil ?_)
    refine W.cond_d rfl (fun h11 => ?_) (fun h11 => ?_)
    · refine W.seq ?_
      refine W.regS (SR.q' (r_as (v := .bool true) rfl) <| SR.nil ?_)
      refine W.ret ?_
      refine ret1 rfl (v := .bool _) rfl ?_
      exact ⟨eR rfl, hB10⟩
    · have hq12 := szN_ok h11
      refine W.skip ?_
      refine W.seq ?_
      refine W.regS (SR.q' (r_mv (v := .slice _ _ _) rfl) <| SR.call ent16 (c_laws_toLibRowS w7 a ((((ha).lo hk2).lo hk8)) (by omega)) rfl ?_)
      rintro e w13 ⟨A15, n16, c17, rfl, hO18, hk14⟩
      refine ⟨_, rfl, ?_⟩
      have hz19 := hk14.size
      have hB20 := hB10.lo hk14
      have hl21 := hO18.len
      have hl22 := hO18.rd.bound
      refine SR.q' (r_mv (v := .slice _ _ _) rfl) <| SR.call ent16 (c_laws_toLibRowS w13 b (((((hb).lo hk2).lo hk8).lo hk14)) (by omega)) rfl ?_
      rintro e w23 ⟨A25, n26, c27, rfl, hO28, hk24⟩
      refine ⟨_, rfl, ?_⟩
      have hz29 := hk24.size
      have hB30 := hB20.lo hk24
      have hl31 := hO28.len
      have hl32 := hO28.rd.bound
      refine SR.call ent31 (c_spec_MergeRows w23 a ((((hO18).lo hk24).rd)) b (((hO28).rd))) rfl ?_
      rintro e w33 ⟨A35, n36, c37, rfl, hO38, hk34⟩
      refine ⟨_, rfl, ?_⟩
      have hz39 := hk34.size
      have hB40 := hB30.lo hk34
      have hl41 := hO38.len
      have hl42 := hO38.rd.bound
      have hq43 := mrg_len a b
      refine SR.q' (r_mv (v := .tuple (List.toArray _)) rfl) <| SR.q' (r_ext (v := .slice _ _ _) rfl rfl) <| SR.q' (r_ext (v := .bool _) rfl rfl) <| SR.q' (r_as (v := .slice _ _ _) rfl) <| SR.q' (r_as (v := .bool _) rfl) <| SR.nil ?_
      refine W.seq ?_
      refine W.regS (SR.q' (r_mv (v := .slice _ _ _) rfl) <| SR.call ent16 (c_laws_toLibRowS w33 a (((((((ha).lo hk2).lo hk8).lo hk14).lo hk24).lo hk34)) (by omega)) rfl ?_)
      rintro e w44 ⟨A46, n47, c48, rfl, hO49, hk45⟩
      refine ⟨_, rfl, ?_⟩
      have hz50 := hk45.size
      have hB51 := hB40.lo hk45
      have hl52 := hO49.len
      have hl53 := hO49.rd.bound
      refine SR.q' (r_as (v := .slice _ _ _) rfl) <| SR.nil ?_
      refine W.seq ?_
      refine W.regS (SR.q' (r_mv (v := .slice _ _ _) rfl) <| SR.call ent16 (c_laws_toLibRowS w44 b ((((((((hb).lo hk2).lo hk8).lo hk14).lo hk24).lo hk34).lo hk45)) (by omega)) rfl ?_)
      rintro e w54 ⟨A56, n57, c58, rfl, hO59, hk55⟩
      refine ⟨_, rfl, ?_⟩
      have hz60 := hk55.size
      have hB61 := hB51.lo hk55
      have hl62 := hO59.len
      have hl63 := hO59.rd.bound
      refine SR.q' (r_as (v := .slice _ _ _) rfl) <| SR.nil ?_
      refine W.seq ?_
      refine W.regS (SR.q' (r_mv (v := .slice _ _ _) rfl) <| SR.q' (r_mv (v := .slice _ _ _) rfl) <| SR.call ent32 (c_impl_MergeRows w54 a ((((hO49).lo hk55).rd)) b (((hO59).rd))) rfl ?_)
      rintro e w64 ⟨A66, n67, c68, rfl, hO69, hk65⟩
      refine ⟨_, rfl, ?_⟩
      have hz70 := hk65.size
      have hB71 := hB61.lo hk65
      have hl72 := hO69.len
      have hl73 := hO69.rd.bound
      have hq74 := mrg_len a b
      refine SR.q' (r_mv (v := .tuple (List.toArray _)) rfl) <| SR.q' (r_ext (v := .slice _ _ _) rfl rfl) <| SR.q' (r_ext (v := .bool _) rfl rfl) <| SR.q' (r_as (v := .slice _ _ _) rfl) <| SR.q' (r_as (v := .bool _) rfl) <| SR.nil ?_
      refine W.seq ?_
      refine W.seq ?_
      refine W.regS (SR.q' (r_mv (v := .slice _ _ _) rfl) <| SR.q' (r_mv (v := .slice _ _ _) rfl) <| SR.call ent18 (c_laws_eqLibRowS w64 ((mrg a b).getD []) (((hO69).rd)) ((mrg a b).getD []) ((((((hO38).lo hk45).lo hk55).lo hk65).rd))) rfl ?_)
      rintro e w75 ⟨rfl, hk76⟩
      refine ⟨_, rfl, ?_⟩
      have hz77 := hk76.size
      have hB78 := hB71.lo hk76
      refine SR.q' (r_not rfl) <| SR.q' (r_mv (v := .bool _) rfl) <| SR.splitN (fun h79 => ?_) (fun h79 => ?_)
      · refine SR.s' rfl <| SR.s' rfl <| SR.s' rfl <| SR.q' (r_pick true rfl (v := .bool true) rfl) <| SR.nil ?_
        refine W.cond_t rfl ?_
        refine W.seq ?_
        refine W.regS (SR.q' (r_as (v := .bool false) rfl) <| SR.nil ?_)
        refine W.ret ?_
        refine ret1 rfl (v := .bool _) rfl ?_
        exact ⟨eR (eB (z_c_laws_FnExactMergeRows_80 a na hbda hlea b nb hbdb hleb h5 hq6 h11 hq12 n16 hl21 hl22 n26 hl31 hl32 n36 hl41 hl42 hq43 n47 hl52 hl53 n57 hl62 hl63 n67 hl72 hl73 hq74 h79)), hB78⟩
      · refine SR.g' rfl (r_mv (v := .bool _) rfl) <| SR.g' rfl (r_mv (v := .bool _) rfl) <| SR.g' rfl (r_neb_s und4 rfl rfl) <| SR.q' (r_pick false rfl (v := .bool _) rfl) <| SR.nil ?_
        refine W.cond_f rfl ?_
        refine W.skip ?_
        refine W.seq ?_
        refine W.seq ?_
        refine W.regS (SR.q' (r_mv (v := .slice _ _ _) rfl) <| SR.q' (r_mv (v := .slice _ _ _) rfl) <| SR.call ent16 (c_laws_toLibRowS w75 a (((((((((((ha).lo hk2).lo hk8).lo hk14).lo hk24).lo hk34).lo hk45).lo hk55).lo hk65).lo hk76)) (by omega)) rfl ?_)
        rintro e w81 ⟨A83, n84, c85, rfl, hO86, hk82⟩
        refine ⟨_, rfl, ?_⟩
        have hz87 := hk82.size
        have hB88 := hB78.lo hk82
        have hl89 := hO86.len
        have hl90 := hO86.rd.bound
        refine SR.call ent18 (c_laws_eqLibRowS w81 a (((((((hO49).lo hk55).lo hk65).lo hk76).lo hk82).rd)) a (((hO86).rd))) rfl ?_
        rintro e w91 ⟨rfl, hk92⟩
        refine ⟨_, rfl, ?_⟩
        have hz93 := hk92.size
        have hB94 := hB88.lo hk92
        refine SR.q' (r_not rfl) <| SR.nil ?_
        refine W.cond_n rfl (fun h95 => ?_) (fun h95 => ?_)
        · refine W.seq ?_
          refine W.regS (SR.q' (r_as (v := .bool false) rfl) <| SR.nil ?_)
          refine W.ret ?_
          refine ret1 rfl (v := .bool _) rfl ?_
          exact ⟨eR (eB (z_c_laws_FnExactMergeRows_96 a na hbda hlea b nb hbdb hleb h5 hq6 h11 hq12 n16 hl21 hl22 n26 hl31 hl32 n36 hl41 hl42 hq43 n47 hl52 hl53 n57 hl62 hl63 n67 hl72 hl73 hq74 h79 n84 hl89 hl90 h95)), hB94⟩
        · refine W.skip ?_
          refine W.seq ?_
          refine W.seq ?_
          refine W.regS (SR.q' (r_mv (v := .slice _ _ _) rfl) <| SR.q' (r_mv (v := .slice _ _ _) rfl) <| SR.call ent16 (c_laws_toLibRowS w91 b (((((((((((((hb).lo hk2).lo hk8).lo hk14).lo hk24).lo hk34).lo hk45).lo hk55).lo hk65).lo hk76).lo hk82).lo hk92)) (by omega)) rfl ?_)
          rintro e w97 ⟨A99, n100, c101, rfl, hO102, hk98⟩
          refine ⟨_, rfl, ?_⟩
          have hz103 := hk98.size
          have hB104 := hB94.lo hk98
          have hl105 := hO102.len
          have hl106 := hO102.rd.bound
          refine SR.call ent18 (c_laws_eqLibRowS w97 b ((((((((hO59).lo hk65).lo hk76).lo hk82).lo hk92).lo hk98).rd)) b (((hO102).rd))) rfl ?_
          rintro e w107 ⟨rfl, hk108⟩
          refine ⟨_, rfl, ?_⟩
          have hz109 := hk108.size
          have hB110 := hB104.lo hk108
          refine SR.q' (r_not rfl) <| SR.nil ?_
          refine W.cond_n rfl (fun h111 => ?_) (fun h111 => ?_)
          · refine W.seq ?_
            refine W.regS (SR.q' (r_as (v := .bool false) rfl) <| SR.nil ?_)
            refine W.ret ?_
            refine ret1 rfl (v := .bool _) rfl ?_
            exact ⟨eR (eB (z_c_laws_FnExactMergeRows_112 a na hbda hlea b nb hbdb hleb h5 hq6 h11 hq12 n16 hl21 hl22 n26 hl31 hl32 n36 hl41 hl42 hq43 n47 hl52 hl53 n57 hl62 hl63 n67 hl72 hl73 hq74 h79 n84 hl89 hl90 h95 n100 hl105 hl106 h111)), hB110⟩
          · refine W.skip ?_
            refine W.seq ?_
            refine W.regS (SR.q' (r_as (v := .int .i64 1) rfl) <| SR.nil ?_)
            refine W.seq ?_
            refine W.regS (SR.q' (r_mv (v := .slice _ _ _) rfl) <| SR.q' (r_mv (v := .int .i64 _) rfl) <| SR.call ent28 (c_laws_markLibRowS w107 a ((((((((hO49).lo hk55).lo hk65).lo hk76).lo hk82).lo hk92).lo hk98).lo hk108) 1 (by omega) (by omega) (by omega)) rfl ?_)
            rintro e w113 ⟨rfl, hO115, hk114⟩
            refine ⟨_, rfl, ?_⟩
            have hz116 := hk114.size
            have hB117 := hB110.step hk114 (fun i_ hi_ e' => by have := (((((((((hO49).lo hk55).lo hk65).lo hk76).lo hk82).lo hk92).lo hk98).lo hk108)).base_le e'; first | omega | (exfalso; omega) | exact e' | exact .inl e' | exact .inr e')
            refine SR.q' (r_as (v := .int .i64 _) rfl) <| SR.nil ?_
            refine W.seq ?_
            refine W.regS (SR.q' (r_mv (v := .slice _ _ _) rfl) <| SR.q' (r_mv (v := .int .i64 _) rfl) <| SR.call ent28 (c_laws_markLibRowS w113 b ((((((((hO59).lo hk65).lo hk76).lo hk82).lo hk92).lo hk98).lo hk108).kp hk114 (fun b_ hb e' => by have h1 := (((((((((hO49).lo hk55).lo hk65).lo hk76).lo hk82).lo hk92).lo hk98).lo hk108)).base_le e'; have h2 := (((((((hO59).lo hk65).lo hk76).lo hk82).lo hk92).lo hk98).lo hk108).base_le hb; have h4 := (hO49).base_le e'; omega)) (1 + 5 * (a.length : Int)) (by omega) (by omega) (by omega)) rfl ?_)
            rintro e w118 ⟨rfl, hO120, hk119⟩
            refine ⟨_, rfl, ?_⟩
            have hz121 := hk119.size
            have hB122 := hB117.step hk119 (fun i_ hi_ e' => by have := (((((((((hO59).lo hk65).lo hk76).lo hk82).lo hk92).lo hk98).lo hk108).kp hk114 (fun b_ hb e' => by have h1 := (((((((((hO49).lo hk55).lo hk65).lo hk76).lo hk82).lo hk92).lo hk98).lo hk108)).base_le e'; have h2 := (((((((hO59).lo hk65).lo hk76).lo hk82).lo hk92).lo hk98).lo hk108).base_le hb; have h4 := (hO49).base_le e'; omega))).base_le e'; first | omega | (exfalso; omega) | exact e' | exact .inl e' | exact .inr e')
            refine SR.q' (r_as (v := .int .i64 _) rfl) <| SR.nil ?_
            refine W.seq ?_
            refine W.seq ?_
            refine W.regS (SR.q' (r_mv (v := .int .i64 _) rfl) <| SR.q' (r_lt rfl rfl) <| SR.q' (r_mv (v := .bool _) rfl) <| SR.splitD (fun h123 => ?_) (fun h123 => ?_))
            · refine SR.s' rfl <| SR.s' rfl <| SR.s' rfl <| SR.s' rfl <| SR.q' (r_pick true rfl (v := .bool true) rfl) <| SR.q' (r_mv (v := .bool _) rfl) <| SR.s' rfl <| SR.s' rfl <| SR.s' rfl <| SR.q' (r_pick true rfl (v := .bool true) rfl) <| SR.nil ?_
              refine W.cond_t rfl ?_
              refine W.seq ?_
              refine W.regS (SR.q' (r_as (v := .bool false) rfl) <| SR.nil ?_)
              refine W.ret ?_
              refine ret1 rfl (v := .bool _) rfl ?_
              exact ⟨eR (eB (z_c_laws_FnExactMergeRows_124 a na hbda hlea b nb hbdb hleb h5 hq6 h11 hq12 n16 hl21 hl22 n26 hl31 hl32 n36 hl41 hl42 hq43 n47 hl52 hl53 n57 hl62 hl63 n67 hl72 hl73 hq74 h79 n84 hl89 hl90 h95 n100 hl105 hl106 h111 h123)), hB122⟩
            · refine SR.g' rfl (r_mv (v := .slice _ _ _) rfl) <| SR.g' rfl (r_mv (v := .slice _ _ _) rfl) <| SR.gcall rfl ent18 (c_laws_eqLibRowS w118 ((mrg a b).getD []) ((((((((((hO69).lo hk76).lo hk82).lo hk92).lo hk98).lo hk108).kp hk114 (fun b_ hb e' => by have h1 := (((((((((hO49).lo hk55).lo hk65).lo hk76).lo hk82).lo hk92).lo hk98).lo hk108)).base_le e'; have h2 := ((((((hO69).lo hk76).lo hk82).lo hk92).lo hk98).lo hk108).base_le hb; have h4 := ((hO49).lo hk55).base_le e'; omega)).kp hk119 (fun b_ hb e' => by have h1 := (((((((((hO59).lo hk65).lo hk76).lo hk82).lo hk92).lo hk98).lo hk108).kp hk114 (fun b_ hb e' => by have h1 := (((((((((hO49).lo hk55).lo hk65).lo hk76).lo hk82).lo hk92).lo hk98).lo hk108)).base_le e'; have h2 := (((((((hO59).lo hk65).lo hk76).lo hk82).lo hk92).lo hk98).lo hk108).base_le hb; have h4 := (hO49).base_le e'; omega))).base_le e'; have h2 := (((((((hO69).lo hk76).lo hk82).lo hk92).lo hk98).lo hk108).kp hk114 (fun b_ hb e' => by have h1 := (((((((((hO49).lo hk55).lo hk65).lo hk76).lo hk82).lo hk92).lo hk98).lo hk108)).base_le e'; have h2 := ((((((hO69).lo hk76).lo hk82).lo hk92).lo hk98).lo hk108).base_le hb; have h4 := ((hO49).lo hk55).base_le e'; omega)).base_le hb; have h4 := (hO59).base_le e'; omega)).rd)) ((mrg a b).getD []) (((((((((((((hO38).lo hk45).lo hk55).lo hk65).lo hk76).lo hk82).lo hk92).lo hk98).lo hk108).kp hk114 (fun b_ hb e' => by have h1 := (((((((((hO49).lo hk55).lo hk65).lo hk76).lo hk82).lo hk92).lo hk98).lo hk108)).base_le e'; have h2 := (((((((((hO38).lo hk45).lo hk55).lo hk65).lo hk76).lo hk82).lo hk92).lo hk98).lo hk108).base_le hb; have h3 := (hO38).base_le hb; omega)).kp hk119 (fun b_ hb e' => by have h1 := (((((((((hO59).lo hk65).lo hk76).lo hk82).lo hk92).lo hk98).lo hk108).kp hk114 (fun b_ hb e' => by have h1 := (((((((((hO49).lo hk55).lo hk65).lo hk76).lo hk82).lo hk92).lo hk98).lo hk108)).base_le e'; have h2 := (((((((hO59).lo hk65).lo hk76).lo hk82).lo hk92).lo hk98).lo hk108).base_le hb; have h4 := (hO49).base_le e'; omega))).base_le e'; have h2 := ((((((((((hO38).lo hk45).lo hk55).lo hk65).lo hk76).lo hk82).lo hk92).lo hk98).lo hk108).kp hk114 (fun b_ hb e' => by have h1 := (((((((((hO49).lo hk55).lo hk65).lo hk76).lo hk82).lo hk92).lo hk98).lo hk108)).base_le e'; have h2 := (((((((((hO38).lo hk45).lo hk55).lo hk65).lo hk76).lo hk82).lo hk92).lo hk98).lo hk108).base_le hb; have h3 := (hO38).base_le hb; omega)).base_le hb; have h3 := ((hO38).lo hk45).base_le hb; omega)).rd))) rfl ?_
              rintro e w125 ⟨rfl, hk126⟩
              refine ⟨_, rfl, ?_⟩
              have hz127 := hk126.size
              have hB128 := hB122.lo hk126
              refine SR.g' rfl (r_not rfl) <| SR.q' (r_pick false rfl (v := .bool _) rfl) <| SR.q' (r_mv (v := .bool _) rfl) <| SR.splitN (fun h129 => ?_) (fun h129 => ?_)
              · refine SR.s' rfl <| SR.s' rfl <| SR.s' rfl <| SR.q' (r_pick true rfl (v := .bool true) rfl) <| SR.nil ?_
                refine W.cond_t rfl ?_
                refine W.seq ?_
                refine W.regS (SR.q' (r_as (v := .bool false) rfl) <| SR.nil ?_)
                refine W.ret ?_
                refine ret1 rfl (v := .bool _) rfl ?_
                exact ⟨eR (eB (z_c_laws_FnExactMergeRows_130 a na hbda hlea b nb hbdb hleb h5 hq6 h11 hq12 n16 hl21 hl22 n26 hl31 hl32 n36 hl41 hl42 hq43 n47 hl52 hl53 n57 hl62 hl63 n67 hl72 hl73 hq74 h79 n84 hl89 hl90 h95 n100 hl105 hl106 h111 h123 h129)), hB128⟩
              · refine SR.g' rfl (r_mv (v := .bool _) rfl) <| SR.g' rfl (r_mv (v := .bool _) rfl) <| SR.g' rfl (r_neb_s und4 rfl rfl) <| SR.q' (r_pick false rfl (v := .bool _) rfl) <| SR.nil ?_
                refine W.cond_f rfl ?_
                refine W.skip ?_
                refine W.seq ?_
                refine W.regS (SR.q' (r_as (v := .int .i64 1) rfl) <| SR.nil ?_)
                refine W.seq ?_
                refine W.regS (SR.q' (r_mv (v := .slice _ _ _) rfl) <| SR.q' (r_mv (v := .int .i64 _) rfl) <| SR.call ent28 (c_laws_markLibRowS w125 ((mrg a b).getD []) (((((((((hO69).lo hk76).lo hk82).lo hk92).lo hk98).lo hk108).kp hk114 (fun b_ hb e' => by have h1 := (((((((((hO49).lo hk55).lo hk65).lo hk76).lo hk82).lo hk92).lo hk98).lo hk108)).base_le e'; have h2 := ((((((hO69).lo hk76).lo hk82).lo hk92).lo hk98).lo hk108).base_le hb; have h4 := ((hO49).lo hk55).base_le e'; omega)).kp hk119 (fun b_ hb e' => by have h1 := (((((((((hO59).lo hk65).lo hk76).lo hk82).lo hk92).lo hk98).lo hk108).kp hk114 (fun b_ hb e' => by have h1 := (((((((((hO49).lo hk55).lo hk65).lo hk76).lo hk82).lo hk92).lo hk98).lo hk108)).base_le e'; have h2 := (((((((hO59).lo hk65).lo hk76).lo hk82).lo hk92).lo hk98).lo hk108).base_le hb; have h4 := (hO49).base_le e'; omega))).base_le e'; have h2 := (((((((hO69).lo hk76).lo hk82).lo hk92).lo hk98).lo hk108).kp hk114 (fun b_ hb e' => by have h1 := (((((((((hO49).lo hk55).lo hk65).lo hk76).lo hk82).lo hk92).lo hk98).lo hk108)).base_le e'; have h2 := ((((((hO69).lo hk76).lo hk82).lo hk92).lo hk98).lo hk108).base_le hb; have h4 := ((hO49).lo hk55).base_le e'; omega)).base_le hb; have h4 := (hO59).base_le e'; omega)).lo hk126) 1 (by omega) (by omega) (by omega)) rfl ?_)
                rintro e w131 ⟨rfl, hO133, hk132⟩
                refine ⟨_, rfl, ?_⟩
                have hz134 := hk132.size
                have hB135 := hB128.step hk132 (fun i_ hi_ e' => by have := ((((((((((hO69).lo hk76).lo hk82).lo hk92).lo hk98).lo hk108).kp hk114 (fun b_ hb e' => by have h1 := (((((((((hO49).lo hk55).lo hk65).lo hk76).lo hk82).lo hk92).lo hk98).lo hk108)).base_le e'; have h2 := ((((((hO69).lo hk76).lo hk82).lo hk92).lo hk98).lo hk108).base_le hb; have h4 := ((hO49).lo hk55).base_le e'; omega)).kp hk119 (fun b_ hb e' => by have h1 := (((((((((hO59).lo hk65).lo hk76).lo hk82).lo hk92).lo hk98).lo hk108).kp hk114 (fun b_ hb e' => by have h1 := (((((((((hO49).lo hk55).lo hk65).lo hk76).lo hk82).lo hk92).lo hk98).lo hk108)).base_le e'; have h2 := (((((((hO59).lo hk65).lo hk76).lo hk82).lo hk92).lo hk98).lo hk108).base_le hb; have h4 := (hO49).base_le e'; omega))).base_le e'; have h2 := (((((((hO69).lo hk76).lo hk82).lo hk92).lo hk98).lo hk108).kp hk114 (fun b_ hb e' => by have h1 := (((((((((hO49).lo hk55).lo hk65).lo hk76).lo hk82).lo hk92).lo hk98).lo hk108)).base_le e'; have h2 := ((((((hO69).lo hk76).lo hk82).lo hk92).lo hk98).lo hk108).base_le hb; have h4 := ((hO49).lo hk55).base_le e'; omega)).base_le hb; have h4 := (hO59).base_le e'; omega)).lo hk126)).base_le e'; first | omega | (exfalso; omega) | exact e' | exact .inl e' | exact .inr e')
                refine SR.q' (r_as (v := .int .i64 _) rfl) <| SR.nil ?_
                refine W.seq ?_
                refine W.regS (SR.q' (r_as (v := .int .i64 1) rfl) <| SR.nil ?_)
                refine W.seq ?_
                refine W.regS (SR.q' (r_mv (v := .slice _ _ _) rfl) <| SR.q' (r_mv (v := .int .i64 _) rfl) <| SR.call ent33 (c_laws_heldLibRowS w131 (mkL mkLibRow 5 ((mrg a b).getD []).length 1) (((hO133).rd)) 1 (((mrg a b).getD []).length) (by omega) (by omega) (by omega) (by rfl)) rfl ?_)
                rintro e w136 ⟨rfl, hk137⟩
                refine ⟨_, rfl, ?_⟩
                have hz138 := hk137.size
                have hB139 := hB135.lo hk137
                refine SR.q' (r_as (v := .int .i64 _) rfl) <| SR.nil ?_
                refine W.seq ?_
                refine W.seq ?_
                refine W.regS (SR.q' (r_mv (v := .int .i64 _) rfl) <| SR.q' (r_lt rfl rfl) <| SR.nil ?_)
                refine W.cond_d rfl (fun h140 => ?_) (fun h140 => ?_)
                · refine W.seq ?_
                  refine W.regS (SR.q' (r_as (v := .bool false) rfl) <| SR.nil ?_)
                  refine W.ret ?_
                  refine ret1 rfl (v := .bool _) rfl ?_
                  exact ⟨eR (eB (z_c_laws_FnExactMergeRows_141 a na hbda hlea b nb hbdb hleb h5 hq6 h11 hq12 n16 hl21 hl22 n26 hl31 hl32 n36 hl41 hl42 hq43 n47 hl52 hl53 n57 hl62 hl63 n67 hl72 hl73 hq74 h79 n84 hl89 hl90 h95 n100 hl105 hl106 h111 h123 h129 h140)), hB139⟩
                · refine W.skip ?_
                  refine W.seq ?_
                  refine W.seq ?_
                  refine W.regS (SR.q' (r_mv (v := .int .i64 _) rfl) <| SR.q' (r_mv (v := .int .i64 _) rfl) <| SR.q' (r_ne_s rfl rfl) <| SR.nil ?_)
                  refine W.cond_f rfl ?_
                  refine W.skip ?_
                  refine W.seq ?_
                  refine W.regS (SR.q' (r_mv (v := .slice _ _ _) rfl) <| SR.call ent16 (c_laws_toLibRowS w136 a ((((((((((((((((((((ha).lo hk2).lo hk8).lo hk14).lo hk24).lo hk34).lo hk45).lo hk55).lo hk65).lo hk76).lo hk82).lo hk92).lo hk98).lo hk108).kp hk114 (fun b_ hb e' => by have := (((((((((hO49).lo hk55).lo hk65).lo hk76).lo hk82).lo hk92).lo hk98).lo hk108)).base_le e'; omega)).kp hk119 (fun b_ hb e' => by have := (((((((((hO59).lo hk65).lo hk76).lo hk82).lo hk92).lo hk98).lo hk108).kp hk114 (fun b_ hb e' => by have h1 := (((((((((hO49).lo hk55).lo hk65).lo hk76).lo hk82).lo hk92).lo hk98).lo hk108)).base_le e'; have h2 := (((((((hO59).lo hk65).lo hk76).lo hk82).lo hk92).lo hk98).lo hk108).base_le hb; have h4 := (hO49).base_le e'; omega))).base_le e'; omega)).lo hk126).kp hk132 (fun b_ hb e' => by have := ((((((((((hO69).lo hk76).lo hk82).lo hk92).lo hk98).lo hk108).kp hk114 (fun b_ hb e' => by have h1 := (((((((((hO49).lo hk55).lo hk65).lo hk76).lo hk82).lo hk92).lo hk98).lo hk108)).base_le e'; have h2 := ((((((hO69).lo hk76).lo hk82).lo hk92).lo hk98).lo hk108).base_le hb; have h4 := ((hO49).lo hk55).base_le e'; omega)).kp hk119 (fun b_ hb e' => by have h1 := (((((((((hO59).lo hk65).lo hk76).lo hk82).lo hk92).lo hk98).lo hk108).kp hk114 (fun b_ hb e' => by have h1 := (((((((((hO49).lo hk55).lo hk65).lo hk76).lo hk82).lo hk92).lo hk98).lo hk108)).base_le e'; have h2 := (((((((hO59).lo hk65).lo hk76).lo hk82).lo hk92).lo hk98).lo hk108).base_le hb; have h4 := (hO49).base_le e'; omega))).base_le e'; have h2 := (((((((hO69).lo hk76).lo hk82).lo hk92).lo hk98).lo hk108).kp hk114 (fun b_ hb e' => by have h1 := (((((((((hO49).lo hk55).lo hk65).lo hk76).lo hk82).lo hk92).lo hk98).lo hk108)).base_le e'; have h2 := ((((((hO69).lo hk76).lo hk82).lo hk92).lo hk98).lo hk108).base_le hb; have h4 := ((hO49).lo hk55).base_le e'; omega)).base_le hb; have h4 := (hO59).base_le e'; omega)).lo hk126)).base_le e'; omega)).lo hk137)) (by omega)) rfl ?_)
                  rintro e w142 ⟨A144, n145, c146, rfl, hO147, hk143⟩
                  refine ⟨_, rfl, ?_⟩
                  have hz148 := hk143.size
                  have hB149 := hB139.lo hk143
                  have hl150 := hO147.len
                  have hl151 := hO147.rd.bound
                  refine SR.q' (r_mv (v := .slice _ _ _) rfl) <| SR.call ent16 (c_laws_toLibRowS w142 b (((((((((((((((((((((hb).lo hk2).lo hk8).lo hk14).lo hk24).lo hk34).lo hk45).lo hk55).lo hk65).lo hk76).lo hk82).lo hk92).lo hk98).lo hk108).kp hk114 (fun b_ hb e' => by have := (((((((((hO49).lo hk55).lo hk65).lo hk76).lo hk82).lo hk92).lo hk98).lo hk108)).base_le e'; omega)).kp hk119 (fun b_ hb e' => by have := (((((((((hO59).lo hk65).lo hk76).lo hk82).lo hk92).lo hk98).lo hk108).kp hk114 (fun b_ hb e' => by have h1 := (((((((((hO49).lo hk55).lo hk65).lo hk76).lo hk82).lo hk92).lo hk98).lo hk108)).base_le e'; have h2 := (((((((hO59).lo hk65).lo hk76).lo hk82).lo hk92).lo hk98).lo hk108).base_le hb; have h4 := (hO49).base_le e'; omega))).base_le e'; omega)).lo hk126).kp hk132 (fun b_ hb e' => by have := ((((((((((hO69).lo hk76).lo hk82).lo hk92).lo hk98).lo hk108).kp hk114 (fun b_ hb e' => by have h1 := (((((((((hO49).lo hk55).lo hk65).lo hk76).lo hk82).lo hk92).lo hk98).lo hk108)).base_le e'; have h2 := ((((((hO69).lo hk76).lo hk82).lo hk92).lo hk98).lo hk108).base_le hb; have h4 := ((hO49).lo hk55).base_le e'; omega)).kp hk119 (fun b_ hb e' => by have h1 := (((((((((hO59).lo hk65).lo hk76).lo hk82).lo hk92).lo hk98).lo hk108).kp hk114 (fun b_ hb e' => by have h1 := (((((((((hO49).lo hk55).lo hk65).lo hk76).lo hk82).lo hk92).lo hk98).lo hk108)).base_le e'; have h2 := (((((((hO59).lo hk65).lo hk76).lo hk82).lo hk92).lo hk98).lo hk108).base_le hb; have h4 := (hO49).base_le e'; omega))).base_le e'; have h2 := (((((((hO69).lo hk76).lo hk82).lo hk92).lo hk98).lo hk108).kp hk114 (fun b_ hb e' => by have h1 := (((((((((hO49).lo hk55).lo hk65).lo hk76).lo hk82).lo hk92).lo hk98).lo hk108)).base_le e'; have h2 := ((((((hO69).lo hk76).lo hk82).lo hk92).lo hk98).lo hk108).base_le hb; have h4 := ((hO49).lo hk55).base_le e'; omega)).base_le hb; have h4 := (hO59).base_le e'; omega)).lo hk126)).base_le e'; omega)).lo hk137).lo hk143)) (by omega)) rfl ?_
                  rintro e w152 ⟨A154, n155, c156, rfl, hO157, hk153⟩
                  refine ⟨_, rfl, ?_⟩
                  have hz158 := hk153.size
                  have hB159 := hB149.lo hk153
                  have hl160 := hO157.len
                  have hl161 := hO157.rd.bound
                  refine SR.call ent32 (c_impl_MergeRows w152 a ((((hO147).lo hk153).rd)) b (((hO157).rd))) rfl ?_
                  rintro e w162 ⟨A164, n165, c166, rfl, hO167, hk163⟩
                  refine ⟨_, rfl, ?_⟩
                  have hz168 := hk163.size
                  have hB169 := hB159.lo hk163
                  have hl170 := hO167.len
                  have hl171 := hO167.rd.bound
                  have hq172 := mrg_len a b
                  refine SR.q' (r_mv (v := .tuple (List.toArray _)) rfl) <| SR.q' (r_ext (v := .slice _ _ _) rfl rfl) <| SR.q' (r_ext (v := .bool _) rfl rfl) <| SR.q' (r_as (v := .slice _ _ _) rfl) <| SR.q' (r_as (v := .bool _) rfl) <| SR.nil ?_
                  refine W.seq ?_
                  refine W.seq ?_
                  refine W.regS (SR.q' (r_mv (v := .slice _ _ _) rfl) <| SR.q' (r_mv (v := .slice _ _ _) rfl) <| SR.call ent18 (c_laws_eqLibRowS w162 ((mrg a b).getD []) (((hO167).rd)) ((mrg a b).getD []) (((((((((((((((((((hO38).lo hk45).lo hk55).lo hk65).lo hk76).lo hk82).lo hk92).lo hk98).lo hk108).kp hk114 (fun b_ hb e' => by have h1 := (((((((((hO49).lo hk55).lo hk65).lo hk76).lo hk82).lo hk92).lo hk98).lo hk108)).base_le e'; have h2 := (((((((((hO38).lo hk45).lo hk55).lo hk65).lo hk76).lo hk82).lo hk92).lo hk98).lo hk108).base_le hb; have h3 := (hO38).base_le hb; omega)).kp hk119 (fun b_ hb e' => by have h1 := (((((((((hO59).lo hk65).lo hk76).lo hk82).lo hk92).lo hk98).lo hk108).kp hk114 (fun b_ hb e' => by have h1 := (((((((((hO49).lo hk55).lo hk65).lo hk76).lo hk82).lo hk92).lo hk98).lo hk108)).base_le e'; have h2 := (((((((hO59).lo hk65).lo hk76).lo hk82).lo hk92).lo hk98).lo hk108).base_le hb; have h4 := (hO49).base_le e'; omega))).base_le e'; have h2 := ((((((((((hO38).lo hk45).lo hk55).lo hk65).lo hk76).lo hk82).lo hk92).lo hk98).lo hk108).kp hk114 (fun b_ hb e' => by have h1 := (((((((((hO49).lo hk55).lo hk65).lo hk76).lo hk82).lo hk92).lo hk98).lo hk108)).base_le e'; have h2 := (((((((((hO38).lo hk45).lo hk55).lo hk65).lo hk76).lo hk82).lo hk92).lo hk98).lo hk108).base_le hb; have h3 := (hO38).base_le hb; omega)).base_le hb; have h3 := ((hO38).lo hk45).base_le hb; omega)).lo hk126).kp hk132 (fun b_ hb e' => by have h1 := ((((((((((hO69).lo hk76).lo hk82).lo hk92).lo hk98).lo hk108).kp hk114 (fun b_ hb e' => by have h1 := (((((((((hO49).lo hk55).lo hk65).lo hk76).lo hk82).lo hk92).lo hk98).lo hk108)).base_le e'; have h2 := ((((((hO69).lo hk76).lo hk82).lo hk92).lo hk98).lo hk108).base_le hb; have h4 := ((hO49).lo hk55).base_le e'; omega)).kp hk119 (fun b_ hb e' => by have h1 := (((((((((hO59).lo hk65).lo hk76).lo hk82).lo hk92).lo hk98).lo hk108).kp hk114 (fun b_ hb e' => by have h1 := (((((((((hO49).lo hk55).lo hk65).lo hk76).lo hk82).lo hk92).lo hk98).lo hk108)).base_le e'; have h2 := (((((((hO59).lo hk65).lo hk76).lo hk82).lo hk92).lo hk98).lo hk108).base_le hb; have h4 := (hO49).base_le e'; omega))).base_le e'; have h2 := (((((((hO69).lo hk76).lo hk82).lo hk92).lo hk98).lo hk108).kp hk114 (fun b_ hb e' => by have h1 := (((((((((hO49).lo hk55).lo hk65).lo hk76).lo hk82).lo hk92).lo hk98).lo hk108)).base_le e'; have h2 := ((((((hO69).lo hk76).lo hk82).lo hk92).lo hk98).lo hk108).base_le hb; have h4 := ((hO49).lo hk55).base_le e'; omega)).base_le hb; have h4 := (hO59).base_le e'; omega)).lo hk126)).base_le e'; have h2 := ((((((((((((hO38).lo hk45).lo hk55).lo hk65).lo hk76).lo hk82).lo hk92).lo hk98).lo hk108).kp hk114 (fun b_ hb e' => by have h1 := (((((((((hO49).lo hk55).lo hk65).lo hk76).lo hk82).lo hk92).lo hk98).lo hk108)).base_le e'; have h2 := (((((((((hO38).lo hk45).lo hk55).lo hk65).lo hk76).lo hk82).lo hk92).lo hk98).lo hk108).base_le hb; have h3 := (hO38).base_le hb; omega)).kp hk119 (fun b_ hb e' => by have h1 := (((((((((hO59).lo hk65).lo hk76).lo hk82).lo hk92).lo hk98).lo hk108).kp hk114 (fun b_ hb e' => by have h1 := (((((((((hO49).lo hk55).lo hk65).lo hk76).lo hk82).lo hk92).lo hk98).lo hk108)).base_le e'; have h2 := (((((((hO59).lo hk65).lo hk76).lo hk82).lo hk92).lo hk98).lo hk108).base_le hb; have h4 := (hO49).base_le e'; omega))).base_le e'; have h2 := ((((((((((hO38).lo hk45).lo hk55).lo hk65).lo hk76).lo hk82).lo hk92).lo hk98).lo hk108).kp hk114 (fun b_ hb e' => by have h1 := (((((((((hO49).lo hk55).lo hk65).lo hk76).lo hk82).lo hk92).lo hk98).lo hk108)).base_le e'; have h2 := (((((((((hO38).lo hk45).lo hk55).lo hk65).lo hk76).lo hk82).lo hk92).lo hk98).lo hk108).base_le hb; have h3 := (hO38).base_le hb; omega)).base_le hb; have h3 := ((hO38).lo hk45).base_le hb; omega)).lo hk126).base_le hb; have h3 := (((hO38).lo hk45).lo hk55).base_le hb; omega)).lo hk137).lo hk143).lo hk153).lo hk163).rd))) rfl ?_)
                  rintro e w173 ⟨rfl, hk174⟩
                  refine ⟨_, rfl, ?_⟩
                  have hz175 := hk174.size
                  have hB176 := hB169.lo hk174
                  refine SR.q' (r_not rfl) <| SR.q' (r_mv (v := .bool _) rfl) <| SR.splitN (fun h177 => ?_) (fun h177 => ?_)
                  · refine SR.s' rfl <| SR.s' rfl <| SR.s' rfl <| SR.q' (r_pick true rfl (v := .bool true) rfl) <| SR.nil ?_
                    refine W.cond_t rfl ?_
                    refine W.seq ?_
                    refine W.regS (SR.q' (r_as (v := .bool false) rfl) <| SR.nil ?_)
                    refine W.ret ?_
                    refine ret1 rfl (v := .bool _) rfl ?_
                    exact ⟨eR (eB (z_c_laws_FnExactMergeRows_178 a na hbda hlea b nb hbdb hleb h5 hq6 h11 hq12 n16 hl21 hl22 n26 hl31 hl32 n36 hl41 hl42 hq43 n47 hl52 hl53 n57 hl62 hl63 n67 hl72 hl73 hq74 h79 n84 hl89 hl90 h95 n100 hl105 hl106 h111 h123 h129 h140 n145 hl150 hl151 n155 hl160 hl161 n165 hl170 hl171 hq172 h177)), hB176⟩
                  · refine SR.g' rfl (r_mv (v := .bool _) rfl) <| SR.g' rfl (r_mv (v := .bool _) rfl) <| SR.g' rfl (r_neb_s und4 rfl rfl) <| SR.q' (r_pick false rfl (v := .bool _) rfl) <| SR.nil ?_
                    refine W.cond_f rfl ?_
                    refine W.skip ?_
                    refine W.seq ?_
                    refine W.regS (SR.q' (r_as (v := .int .i64 1) rfl) <| SR.nil ?_)
                    refine W.seq ?_
                    refine W.regS (SR.q' (r_mv (v := .slice _ _ _) rfl) <| SR.q' (r_mv (v := .int .i64 _) rfl) <| SR.call ent33 (c_laws_heldLibRowS w173 (mkL mkLibRow 5 ((mrg a b).getD []).length 1) ((((((((hO133).lo hk137).lo hk143).lo hk153).lo hk163).lo hk174).rd)) 1 (((mrg a b).getD []).length) (by omega) (by omega) (by omega) (by rfl)) rfl ?_)
                    rintro e w179 ⟨rfl, hk180⟩
                    refine ⟨_, rfl, ?_⟩
                    have hz181 := hk180.size
                    have hB182 := hB176.lo hk180
                    refine SR.q' (r_as (v := .int .i64 _) rfl) <| SR.nil ?_
                    refine W.seq ?_
                    refine W.seq ?_
                    refine W.regS (SR.q' (r_mv (v := .int .i64 _) rfl) <| SR.q' (r_lt rfl rfl) <| SR.nil ?_)
                    refine W.cond_d rfl (fun h183 => ?_) (fun h183 => ?_)
                    · refine W.seq ?_
                      refine W.regS (SR.q' (r_as (v := .bool false) rfl) <| SR.nil ?_)
                      refine W.ret ?_
                      refine ret1 rfl (v := .bool _) rfl ?_
                      exact ⟨eR (eB (z_c_laws_FnExactMergeRows_184 a na hbda hlea b nb hbdb hleb h5 hq6 h11 hq12 n16 hl21 hl22 n26 hl31 hl32 n36 hl41 hl42 hq43 n47 hl52 hl53 n57 hl62 hl63 n67 hl72 hl73 hq74 h79 n84 hl89 hl90 h95 n100 hl105 hl106 h111 h123 h129 h140 n145 hl150 hl151 n155 hl160 hl161 n165 hl170 hl171 hq172 h177 h183)), hB182⟩
                    · refine W.skip ?_
                      refine W.seq ?_
                      refine W.seq ?_
                      refine W.regS (SR.q' (r_mv (v := .int .i64 _) rfl) <| SR.q' (r_mv (v := .int .i64 _) rfl) <| SR.q' (r_ne_s rfl rfl) <| SR.nil ?_)
                      refine W.cond_f rfl ?_
                      refine W.skip ?_
                      refine W.seq ?_
                      refine W.regS (SR.q' (r_as (v := .bool true) rfl) <| SR.nil ?_)
                      refine W.ret ?_
                      refine ret1 rfl (v := .bool _) rfl ?_
                      exact ⟨eR rfl, hB182⟩
end Go.Proofs.Ytkbmbbdhojfnpaa
