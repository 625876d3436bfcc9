/- Walks, printed by a program of this claim's author. -/
import Derived.Test.YtnbbfokkpkphoaaGreatDoorChecked
import Derived.Test.YtnbbfokkpkphoaaGreatDoorLa
import Derived.Test.YtnbbfokkpkphoaaGreatDoorFo
import Derived.Test.YtnbbfokkpkphoaaGreatDoorFs
import Derived.Test.YtnbbfokkpkphoaaGreatDoorFq
import Derived.Test.YtnbbfokkpkphoaaGreatDoorFp
import Derived.Test.YtnbbfokkpkphoaaGreatDoorFu
import Derived.Test.YtnbbfokkpkphoaaGreatDoorFt
import Derived.Test.YtnbbfokkpkphoaaGreatDoorLc
import Derived.Test.YtnbbfokkpkphoaaGreatDoorG31n
namespace Go.Proofs.YtnbbfokkpkphoaaGreatDoor
open Go Go.RowKit Fw
set_option maxRecDepth 10000
set_option linter.unusedVariables false
theorem ent38 : Ent Tryz.prog 38 := ent_of Tryz.func38 (by decide +kernel) rfl
theorem ent39 : Ent Tryz.prog 39 := ent_of Tryz.func39 (by decide +kernel) rfl

theorem z_c_spec_MergeRows_26 (a : List LibRow) (na : Nat) (hbda : (na : Int) ≤ 9223372036854775807) (hlea : na = a.length) (b : List LibRow) (nb : Nat) (hbdb : (nb : Int) ≤ 9223372036854775807) (hleb : nb = b.length) (h18 : (¬ (RowsOK a)) ∨ (¬ (RowsOK b))) : ([] : List LibRow) = (mrg a b).getD [] := by
  first | (rw [show mrg a b = none from by first | exact mrg_or ‹_› | exact mrg_noM (mg_end (And.right (And.right ‹_ ∧ _ ∧ _ ++ merge _ _ = _›)) (by omega) (by omega)) ‹_›]; rfl) | (rw [mrg_yes ‹RowsOK a› ‹RowsOK b› (mg_end (And.right (And.right ‹_ ∧ _ ∧ _ ++ merge _ _ = _›)) (by omega) (by omega)) ‹_›]; rfl)
theorem z_c_spec_MergeRows_27 (a : List LibRow) (na : Nat) (hbda : (na : Int) ≤ 9223372036854775807) (hlea : na = a.length) (b : List LibRow) (nb : Nat) (hbdb : (nb : Int) ≤ 9223372036854775807) (hleb : nb = b.length) (h18 : (¬ (RowsOK a)) ∨ (¬ (RowsOK b))) : false = (mrg a b).isSome := by
  first | (rw [show mrg a b = none from by first | exact mrg_or ‹_› | exact mrg_noM (mg_end (And.right (And.right ‹_ ∧ _ ∧ _ ++ merge _ _ = _›)) (by omega) (by omega)) ‹_›]; rfl) | (rw [mrg_yes ‹RowsOK a› ‹RowsOK b› (mg_end (And.right (And.right ‹_ ∧ _ ∧ _ ++ merge _ _ = _›)) (by omega) (by omega)) ‹_›]; rfl)
theorem z_c_spec_MergeRows_42 (a : List LibRow) (na : Nat) (hbda : (na : Int) ≤ 9223372036854775807) (hlea : na = a.length) (b : List LibRow) (nb : Nat) (hbdb : (nb : Int) ≤ 9223372036854775807) (hleb : nb = b.length) (h18 : ¬ ((¬ (RowsOK a)) ∨ (¬ (RowsOK b)))) (hq28 : RowsOK a) (hq29 : RowsOK b) (hq30 : a.length ≤ 12) (hq31 : (totL a).length = 4) (hq32 : b.length ≤ 12) (hq33 : (totL b).length = 4) : 0 ≤ na ∧ 0 ≤ nb ∧ ([] : List LibRow) ++ merge (a.drop 0) (b.drop 0) = merge a b := by
  simp
theorem z_c_spec_MergeRows_103 (a : List LibRow) (na : Nat) (hbda : (na : Int) ≤ 9223372036854775807) (hlea : na = a.length) (b : List LibRow) (nb : Nat) (hbdb : (nb : Int) ≤ 9223372036854775807) (hleb : nb = b.length) (h18 : ¬ ((¬ (RowsOK a)) ∨ (¬ (RowsOK b)))) (hq28 : RowsOK a) (hq29 : RowsOK b) (hq30 : a.length ≤ 12) (hq31 : (totL a).length = 4) (hq32 : b.length ≤ 12) (hq33 : (totL b).length = 4) (i : Nat) (k : Nat) (o : List LibRow) (n41 : Nat) (c41 : Nat) (hi50 : i ≤ na ∧ k ≤ nb ∧ o ++ merge (a.drop i) (b.drop k) = merge a b) (hl51 : n41 = (o).length) (hq53 : o.length ≤ a.length + b.length) (h61 : ((i : Int) < (na : Int)) ∨ ((k : Int) < (nb : Int))) (h82 : ((k : Int) = (nb : Int)) ∨ (((i : Int) < (na : Int)) ∧ (((gt a i).Month) < ((gt b k).Month)))) (hx84 : a[i]? = some (gt a i)) (hq85 : ((1 : Int) ≤ (gt a i).Month ∧ (gt a i).Month ≤ 1200) ∧ ((0 : Int) ≤ (gt a i).Lent ∧ (gt a i).Lent ≤ 9999) ∧ ((0 : Int) ≤ (gt a i).Copied ∧ (gt a i).Copied ≤ 9999) ∧ ((0 : Int) ≤ (gt a i).Given ∧ (gt a i).Given ≤ 999) ∧ ((0 : Int) ≤ (gt a i).Fines ∧ (gt a i).Fines ≤ 99999)) : (i + 1) ≤ na ∧ k ≤ nb ∧ (o ++ ([(gt a i)] : List LibRow)) ++ merge (a.drop (i + 1)) (b.drop k) = merge a b := by
  subst hlea hleb
  refine ⟨by omega, by omega, ?_⟩
  first | exact mg_A (And.right (And.right ‹_ ∧ _ ∧ _ ++ merge _ _ = _›)) (by omega) ‹_› (by omega) | exact mg_B (And.right (And.right ‹_ ∧ _ ∧ _ ++ merge _ _ = _›)) (by omega) ‹_› ‹_› (by omega) | exact mg_AB (And.right (And.right ‹_ ∧ _ ∧ _ ++ merge _ _ = _›)) (by omega) (by omega) ‹_› ‹_›
theorem z_c_spec_MergeRows_104 (a : List LibRow) (na : Nat) (hbda : (na : Int) ≤ 9223372036854775807) (hlea : na = a.length) (b : List LibRow) (nb : Nat) (hbdb : (nb : Int) ≤ 9223372036854775807) (hleb : nb = b.length) (h18 : ¬ ((¬ (RowsOK a)) ∨ (¬ (RowsOK b)))) (hq28 : RowsOK a) (hq29 : RowsOK b) (hq30 : a.length ≤ 12) (hq31 : (totL a).length = 4) (hq32 : b.length ≤ 12) (hq33 : (totL b).length = 4) (i : Nat) (k : Nat) (o : List LibRow) (n41 : Nat) (c41 : Nat) (hi50 : i ≤ na ∧ k ≤ nb ∧ o ++ merge (a.drop i) (b.drop k) = merge a b) (hl51 : n41 = (o).length) (hq53 : o.length ≤ a.length + b.length) (h61 : ((i : Int) < (na : Int)) ∨ ((k : Int) < (nb : Int))) (h82 : ((k : Int) = (nb : Int)) ∨ (((i : Int) < (na : Int)) ∧ (((gt a i).Month) < ((gt b k).Month)))) (hx84 : a[i]? = some (gt a i)) (hq85 : ((1 : Int) ≤ (gt a i).Month ∧ (gt a i).Month ≤ 1200) ∧ ((0 : Int) ≤ (gt a i).Lent ∧ (gt a i).Lent ≤ 9999) ∧ ((0 : Int) ≤ (gt a i).Copied ∧ (gt a i).Copied ≤ 9999) ∧ ((0 : Int) ≤ (gt a i).Given ∧ (gt a i).Given ≤ 999) ∧ ((0 : Int) ≤ (gt a i).Fines ∧ (gt a i).Fines ≤ 99999)) : (na - (i + 1)) + (nb - k) < (na - i) + (nb - k) := by
  omega
theorem z_c_spec_MergeRows_145 (a : List LibRow) (na : Nat) (hbda : (na : Int) ≤ 9223372036854775807) (hlea : na = a.length) (b : List LibRow) (nb : Nat) (hbdb : (nb : Int) ≤ 9223372036854775807) (hleb : nb = b.length) (h18 : ¬ ((¬ (RowsOK a)) ∨ (¬ (RowsOK b)))) (hq28 : RowsOK a) (hq29 : RowsOK b) (hq30 : a.length ≤ 12) (hq31 : (totL a).length = 4) (hq32 : b.length ≤ 12) (hq33 : (totL b).length = 4) (i : Nat) (k : Nat) (o : List LibRow) (n41 : Nat) (c41 : Nat) (hi50 : i ≤ na ∧ k ≤ nb ∧ o ++ merge (a.drop i) (b.drop k) = merge a b) (hl51 : n41 = (o).length) (hq53 : o.length ≤ a.length + b.length) (h61 : ((i : Int) < (na : Int)) ∨ ((k : Int) < (nb : Int))) (h82 : ¬ (((k : Int) = (nb : Int)) ∨ (((i : Int) < (na : Int)) ∧ (((gt a i).Month) < ((gt b k).Month))))) (hq105 : ¬ ((k : Int) = (nb : Int))) (hq106 : ¬ (((i : Int) < (na : Int)) ∧ (((gt a i).Month) < ((gt b k).Month)))) (h124 : ((i : Int) = (na : Int)) ∨ (((gt b k).Month) < ((gt a i).Month))) (hx126 : b[k]? = some (gt b k)) (hq127 : ((1 : Int) ≤ (gt b k).Month ∧ (gt b k).Month ≤ 1200) ∧ ((0 : Int) ≤ (gt b k).Lent ∧ (gt b k).Lent ≤ 9999) ∧ ((0 : Int) ≤ (gt b k).Copied ∧ (gt b k).Copied ≤ 9999) ∧ ((0 : Int) ≤ (gt b k).Given ∧ (gt b k).Given ≤ 999) ∧ ((0 : Int) ≤ (gt b k).Fines ∧ (gt b k).Fines ≤ 99999)) : i ≤ na ∧ (k + 1) ≤ nb ∧ (o ++ ([(gt b k)] : List LibRow)) ++ merge (a.drop i) (b.drop (k + 1)) = merge a b := by
  subst hlea hleb
  refine ⟨by omega, by omega, ?_⟩
  first | exact mg_A (And.right (And.right ‹_ ∧ _ ∧ _ ++ merge _ _ = _›)) (by omega) ‹_› (by omega) | exact mg_B (And.right (And.right ‹_ ∧ _ ∧ _ ++ merge _ _ = _›)) (by omega) ‹_› ‹_› (by omega) | exact mg_AB (And.right (And.right ‹_ ∧ _ ∧ _ ++ merge _ _ = _›)) (by omega) (by omega) ‹_› ‹_›
theorem z_c_spec_MergeRows_146 (a : List LibRow) (na : Nat) (hbda : (na : Int) ≤ 9223372036854775807) (hlea : na = a.length) (b : List LibRow) (nb : Nat) (hbdb : (nb : Int) ≤ 9223372036854775807) (hleb : nb = b.length) (h18 : ¬ ((¬ (RowsOK a)) ∨ (¬ (RowsOK b)))) (hq28 : RowsOK a) (hq29 : RowsOK b) (hq30 : a.length ≤ 12) (hq31 : (totL a).length = 4) (hq32 : b.length ≤ 12) (hq33 : (totL b).length = 4) (i : Nat) (k : Nat) (o : List LibRow) (n41 : Nat) (c41 : Nat) (hi50 : i ≤ na ∧ k ≤ nb ∧ o ++ merge (a.drop i) (b.drop k) = merge a b) (hl51 : n41 = (o).length) (hq53 : o.length ≤ a.length + b.length) (h61 : ((i : Int) < (na : Int)) ∨ ((k : Int) < (nb : Int))) (h82 : ¬ (((k : Int) = (nb : Int)) ∨ (((i : Int) < (na : Int)) ∧ (((gt a i).Month) < ((gt b k).Month))))) (hq105 : ¬ ((k : Int) = (nb : Int))) (hq106 : ¬ (((i : Int) < (na : Int)) ∧ (((gt a i).Month) < ((gt b k).Month)))) (h124 : ((i : Int) = (na : Int)) ∨ (((gt b k).Month) < ((gt a i).Month))) (hx126 : b[k]? = some (gt b k)) (hq127 : ((1 : Int) ≤ (gt b k).Month ∧ (gt b k).Month ≤ 1200) ∧ ((0 : Int) ≤ (gt b k).Lent ∧ (gt b k).Lent ≤ 9999) ∧ ((0 : Int) ≤ (gt b k).Copied ∧ (gt b k).Copied ≤ 9999) ∧ ((0 : Int) ≤ (gt b k).Given ∧ (gt b k).Given ≤ 999) ∧ ((0 : Int) ≤ (gt b k).Fines ∧ (gt b k).Fines ≤ 99999)) : (na - i) + (nb - (k + 1)) < (na - i) + (nb - k) := by
  omega
theorem z_c_spec_MergeRows_307 (a : List LibRow) (na : Nat) (hbda : (na : Int) ≤ 9223372036854775807) (hlea : na = a.length) (b : List LibRow) (nb : Nat) (hbdb : (nb : Int) ≤ 9223372036854775807) (hleb : nb = b.length) (h18 : ¬ ((¬ (RowsOK a)) ∨ (¬ (RowsOK b)))) (hq28 : RowsOK a) (hq29 : RowsOK b) (hq30 : a.length ≤ 12) (hq31 : (totL a).length = 4) (hq32 : b.length ≤ 12) (hq33 : (totL b).length = 4) (i : Nat) (k : Nat) (o : List LibRow) (n41 : Nat) (c41 : Nat) (hi50 : i ≤ na ∧ k ≤ nb ∧ o ++ merge (a.drop i) (b.drop k) = merge a b) (hl51 : n41 = (o).length) (hq53 : o.length ≤ a.length + b.length) (h61 : ((i : Int) < (na : Int)) ∨ ((k : Int) < (nb : Int))) (h82 : ¬ (((k : Int) = (nb : Int)) ∨ (((i : Int) < (na : Int)) ∧ (((gt a i).Month) < ((gt b k).Month))))) (hq105 : ¬ ((k : Int) = (nb : Int))) (hq106 : ¬ (((i : Int) < (na : Int)) ∧ (((gt a i).Month) < ((gt b k).Month)))) (h124 : ¬ (((i : Int) = (na : Int)) ∨ (((gt b k).Month) < ((gt a i).Month)))) (hq147 : ¬ ((i : Int) = (na : Int))) (hq148 : ¬ (((gt b k).Month) < ((gt a i).Month))) (hx150 : a[i]? = some (gt a i)) (hq151 : ((1 : Int) ≤ (gt a i).Month ∧ (gt a i).Month ≤ 1200) ∧ ((0 : Int) ≤ (gt a i).Lent ∧ (gt a i).Lent ≤ 9999) ∧ ((0 : Int) ≤ (gt a i).Copied ∧ (gt a i).Copied ≤ 9999) ∧ ((0 : Int) ≤ (gt a i).Given ∧ (gt a i).Given ≤ 999) ∧ ((0 : Int) ≤ (gt a i).Fines ∧ (gt a i).Fines ≤ 99999)) (hx186 : b[k]? = some (gt b k)) (hq187 : ((1 : Int) ≤ (gt b k).Month ∧ (gt b k).Month ≤ 1200) ∧ ((0 : Int) ≤ (gt b k).Lent ∧ (gt b k).Lent ≤ 9999) ∧ ((0 : Int) ≤ (gt b k).Copied ∧ (gt b k).Copied ≤ 9999) ∧ ((0 : Int) ≤ (gt b k).Given ∧ (gt b k).Given ≤ 999) ∧ ((0 : Int) ≤ (gt b k).Fines ∧ (gt b k).Fines ≤ 99999)) : (i + 1) ≤ na ∧ (k + 1) ≤ nb ∧ (o ++ ([(⟨(gt a i).Month, ((gt a i).Lent) + ((gt b k).Lent), ((gt a i).Copied) + ((gt b k).Copied), ((gt a i).Given) + ((gt b k).Given), ((gt a i).Fines) + ((gt b k).Fines)⟩ : LibRow)] : List LibRow)) ++ merge (a.drop (i + 1)) (b.drop (k + 1)) = merge a b := by
  subst hlea hleb
  refine ⟨by omega, by omega, ?_⟩
  first | exact mg_A (And.right (And.right ‹_ ∧ _ ∧ _ ++ merge _ _ = _›)) (by omega) ‹_› (by omega) | exact mg_B (And.right (And.right ‹_ ∧ _ ∧ _ ++ merge _ _ = _›)) (by omega) ‹_› ‹_› (by omega) | exact mg_AB (And.right (And.right ‹_ ∧ _ ∧ _ ++ merge _ _ = _›)) (by omega) (by omega) ‹_› ‹_›
theorem z_c_spec_MergeRows_308 (a : List LibRow) (na : Nat) (hbda : (na : Int) ≤ 9223372036854775807) (hlea : na = a.length) (b : List LibRow) (nb : Nat) (hbdb : (nb : Int) ≤ 9223372036854775807) (hleb : nb = b.length) (h18 : ¬ ((¬ (RowsOK a)) ∨ (¬ (RowsOK b)))) (hq28 : RowsOK a) (hq29 : RowsOK b) (hq30 : a.length ≤ 12) (hq31 : (totL a).length = 4) (hq32 : b.length ≤ 12) (hq33 : (totL b).length = 4) (i : Nat) (k : Nat) (o : List LibRow) (n41 : Nat) (c41 : Nat) (hi50 : i ≤ na ∧ k ≤ nb ∧ o ++ merge (a.drop i) (b.drop k) = merge a b) (hl51 : n41 = (o).length) (hq53 : o.length ≤ a.length + b.length) (h61 : ((i : Int) < (na : Int)) ∨ ((k : Int) < (nb : Int))) (h82 : ¬ (((k : Int) = (nb : Int)) ∨ (((i : Int) < (na : Int)) ∧ (((gt a i).Month) < ((gt b k).Month))))) (hq105 : ¬ ((k : Int) = (nb : Int))) (hq106 : ¬ (((i : Int) < (na : Int)) ∧ (((gt a i).Month) < ((gt b k).Month)))) (h124 : ¬ (((i : Int) = (na : Int)) ∨ (((gt b k).Month) < ((gt a i).Month)))) (hq147 : ¬ ((i : Int) = (na : Int))) (hq148 : ¬ (((gt b k).Month) < ((gt a i).Month))) (hx150 : a[i]? = some (gt a i)) (hq151 : ((1 : Int) ≤ (gt a i).Month ∧ (gt a i).Month ≤ 1200) ∧ ((0 : Int) ≤ (gt a i).Lent ∧ (gt a i).Lent ≤ 9999) ∧ ((0 : Int) ≤ (gt a i).Copied ∧ (gt a i).Copied ≤ 9999) ∧ ((0 : Int) ≤ (gt a i).Given ∧ (gt a i).Given ≤ 999) ∧ ((0 : Int) ≤ (gt a i).Fines ∧ (gt a i).Fines ≤ 99999)) (hx186 : b[k]? = some (gt b k)) (hq187 : ((1 : Int) ≤ (gt b k).Month ∧ (gt b k).Month ≤ 1200) ∧ ((0 : Int) ≤ (gt b k).Lent ∧ (gt b k).Lent ≤ 9999) ∧ ((0 : Int) ≤ (gt b k).Copied ∧ (gt b k).Copied ≤ 9999) ∧ ((0 : Int) ≤ (gt b k).Given ∧ (gt b k).Given ≤ 999) ∧ ((0 : Int) ≤ (gt b k).Fines ∧ (gt b k).Fines ≤ 99999)) : (na - (i + 1)) + (nb - (k + 1)) < (na - i) + (nb - k) := by
  omega
theorem z_c_spec_MergeRows_324 (a : List LibRow) (na : Nat) (hbda : (na : Int) ≤ 9223372036854775807) (hlea : na = a.length) (b : List LibRow) (nb : Nat) (hbdb : (nb : Int) ≤ 9223372036854775807) (hleb : nb = b.length) (h18 : ¬ ((¬ (RowsOK a)) ∨ (¬ (RowsOK b)))) (hq28 : RowsOK a) (hq29 : RowsOK b) (hq30 : a.length ≤ 12) (hq31 : (totL a).length = 4) (hq32 : b.length ≤ 12) (hq33 : (totL b).length = 4) (i : Nat) (k : Nat) (o : List LibRow) (n41 : Nat) (c41 : Nat) (hi50 : i ≤ na ∧ k ≤ nb ∧ o ++ merge (a.drop i) (b.drop k) = merge a b) (hl51 : n41 = (o).length) (hq53 : o.length ≤ a.length + b.length) (h61 : ¬ (((i : Int) < (na : Int)) ∨ ((k : Int) < (nb : Int)))) (hq309 : ¬ ((i : Int) < (na : Int))) (hq310 : ¬ ((k : Int) < (nb : Int))) (h315 : ¬ (RowsOK o)) : ([] : List LibRow) = (mrg a b).getD [] := by
  first | (rw [show mrg a b = none from by first | exact mrg_or ‹_› | exact mrg_noM (mg_end (And.right (And.right ‹_ ∧ _ ∧ _ ++ merge _ _ = _›)) (by omega) (by omega)) ‹_›]; rfl) | (rw [mrg_yes ‹RowsOK a› ‹RowsOK b› (mg_end (And.right (And.right ‹_ ∧ _ ∧ _ ++ merge _ _ = _›)) (by omega) (by omega)) ‹_›]; rfl)
theorem z_c_spec_MergeRows_325 (a : List LibRow) (na : Nat) (hbda : (na : Int) ≤ 9223372036854775807) (hlea : na = a.length) (b : List LibRow) (nb : Nat) (hbdb : (nb : Int) ≤ 9223372036854775807) (hleb : nb = b.length) (h18 : ¬ ((¬ (RowsOK a)) ∨ (¬ (RowsOK b)))) (hq28 : RowsOK a) (hq29 : RowsOK b) (hq30 : a.length ≤ 12) (hq31 : (totL a).length = 4) (hq32 : b.length ≤ 12) (hq33 : (totL b).length = 4) (i : Nat) (k : Nat) (o : List LibRow) (n41 : Nat) (c41 : Nat) (hi50 : i ≤ na ∧ k ≤ nb ∧ o ++ merge (a.drop i) (b.drop k) = merge a b) (hl51 : n41 = (o).length) (hq53 : o.length ≤ a.length + b.length) (h61 : ¬ (((i : Int) < (na : Int)) ∨ ((k : Int) < (nb : Int)))) (hq309 : ¬ ((i : Int) < (na : Int))) (hq310 : ¬ ((k : Int) < (nb : Int))) (h315 : ¬ (RowsOK o)) : false = (mrg a b).isSome := by
  first | (rw [show mrg a b = none from by first | exact mrg_or ‹_› | exact mrg_noM (mg_end (And.right (And.right ‹_ ∧ _ ∧ _ ++ merge _ _ = _›)) (by omega) (by omega)) ‹_›]; rfl) | (rw [mrg_yes ‹RowsOK a› ‹RowsOK b› (mg_end (And.right (And.right ‹_ ∧ _ ∧ _ ++ merge _ _ = _›)) (by omega) (by omega)) ‹_›]; rfl)
theorem z_c_spec_MergeRows_328 (a : List LibRow) (na : Nat) (hbda : (na : Int) ≤ 9223372036854775807) (hlea : na = a.length) (b : List LibRow) (nb : Nat) (hbdb : (nb : Int) ≤ 9223372036854775807) (hleb : nb = b.length) (h18 : ¬ ((¬ (RowsOK a)) ∨ (¬ (RowsOK b)))) (hq28 : RowsOK a) (hq29 : RowsOK b) (hq30 : a.length ≤ 12) (hq31 : (totL a).length = 4) (hq32 : b.length ≤ 12) (hq33 : (totL b).length = 4) (i : Nat) (k : Nat) (o : List LibRow) (n41 : Nat) (c41 : Nat) (hi50 : i ≤ na ∧ k ≤ nb ∧ o ++ merge (a.drop i) (b.drop k) = merge a b) (hl51 : n41 = (o).length) (hq53 : o.length ≤ a.length + b.length) (h61 : ¬ (((i : Int) < (na : Int)) ∨ ((k : Int) < (nb : Int)))) (hq309 : ¬ ((i : Int) < (na : Int))) (hq310 : ¬ ((k : Int) < (nb : Int))) (h315 : RowsOK o) (hq326 : o.length ≤ 12) (hq327 : (totL o).length = 4) : o = (mrg a b).getD [] := by
  first | (rw [show mrg a b = none from by first | exact mrg_or ‹_› | exact mrg_noM (mg_end (And.right (And.right ‹_ ∧ _ ∧ _ ++ merge _ _ = _›)) (by omega) (by omega)) ‹_›]; rfl) | (rw [mrg_yes ‹RowsOK a› ‹RowsOK b› (mg_end (And.right (And.right ‹_ ∧ _ ∧ _ ++ merge _ _ = _›)) (by omega) (by omega)) ‹_›]; rfl)
theorem z_c_spec_MergeRows_329 (a : List LibRow) (na : Nat) (hbda : (na : Int) ≤ 9223372036854775807) (hlea : na = a.length) (b : List LibRow) (nb : Nat) (hbdb : (nb : Int) ≤ 9223372036854775807) (hleb : nb = b.length) (h18 : ¬ ((¬ (RowsOK a)) ∨ (¬ (RowsOK b)))) (hq28 : RowsOK a) (hq29 : RowsOK b) (hq30 : a.length ≤ 12) (hq31 : (totL a).length = 4) (hq32 : b.length ≤ 12) (hq33 : (totL b).length = 4) (i : Nat) (k : Nat) (o : List LibRow) (n41 : Nat) (c41 : Nat) (hi50 : i ≤ na ∧ k ≤ nb ∧ o ++ merge (a.drop i) (b.drop k) = merge a b) (hl51 : n41 = (o).length) (hq53 : o.length ≤ a.length + b.length) (h61 : ¬ (((i : Int) < (na : Int)) ∨ ((k : Int) < (nb : Int)))) (hq309 : ¬ ((i : Int) < (na : Int))) (hq310 : ¬ ((k : Int) < (nb : Int))) (h315 : RowsOK o) (hq326 : o.length ≤ 12) (hq327 : (totL o).length = 4) : true = (mrg a b).isSome := by
  first | (rw [show mrg a b = none from by first | exact mrg_or ‹_› | exact mrg_noM (mg_end (And.right (And.right ‹_ ∧ _ ∧ _ ++ merge _ _ = _›)) (by omega) (by omega)) ‹_›]; rfl) | (rw [mrg_yes ‹RowsOK a› ‹RowsOK b› (mg_end (And.right (And.right ‹_ ∧ _ ∧ _ ++ merge _ _ = _›)) (by omega) (by omega)) ‹_›]; rfl)
theorem c_spec_MergeRows (w : World) {Aa : Option Addr} {na ca Ba : Nat}  (a : List LibRow) (ha : SlR w Ba encLibRow 5 Aa na ca a) {Ab : Option Addr} {nb cb Bb : Nat}  (b : List LibRow) (hb : SlR w Bb encLibRow 5 Ab nb cb b) : Calls Tryz.prog 14 #[.slice Aa na ca, .slice Ab nb cb] w fun e w' => ∃ (A1' : Option Addr) (n1' c1' : Nat), e = .returned (.tuple (List.toArray [.slice A1' n1' c1', .bool ((mrg a b).isSome)])) ∧ SlO w' w.heap.size encLibRow 5 25 A1' n1' c1' ((mrg a b).getD []) ∧ Lo w w' := by
  refine calls_W 141 Tryz.func14 rfl rfl rfl ?_
  have hbda := ha.bound
  have hlea := ha.len
  have hBba := ha.bd
  have hbdb := hb.bound
  have hleb := hb.len
  have hBbb := hb.bd
  refine W.seq ?_
  refine W.regS (SR.q' (r_as (v := .slice none 0 0) rfl) <| SR.q' (r_as (v := .bool false) rfl) <| SR.nil ?_)
  refine W.seq ?_
  refine W.seq ?_
  refine W.regJS (fun f' w' => At f' [(0, .slice Aa na ca), (1, .slice Ab nb cb), (4, .slice none 0 0), (5, .bool false), (17, .bool (decide ((¬ (RowsOK a)) ∨ (¬ (RowsOK b)))))] ∧ Lo w w') ?_ ?_
  · refine SR.q' (r_mv (v := .slice _ _ _) rfl) <| SR.call ent40 (c_spec_l31Good w a ((ha))) rfl ?_
    rintro e w1 ⟨rfl, hk2⟩
    refine ⟨_, rfl, ?_⟩
    have hz3 := hk2.size
    have hB4 := (Lo.refl w).lo hk2
    refine SR.q' (r_not rfl) <| SR.q' (r_mv (v := .bool _) rfl) <| SR.splitN (fun h5 => ?_) (fun h5 => ?_)
    · refine SR.s' rfl <| SR.s' rfl <| SR.s' rfl <| SR.q' (r_pick true rfl (v := .bool true) rfl) <| SR.nil ?_
      exact ⟨_, rfl, ⟨⟨rfl, rfl, rfl, rfl, (eDT ((jmf h5).1 trivial)), trivial⟩, (hk2)⟩⟩
    · have hq6 := rows_len h5
      have hq7 := totL_len4 _ h5
      refine SR.g' rfl (r_mv (v := .slice _ _ _) rfl) <| SR.gcall rfl ent40 (c_spec_l31Good w1 b (((hb).lo hk2))) rfl ?_
      rintro e w8 ⟨rfl, hk9⟩
      refine ⟨_, rfl, ?_⟩
      have hz10 := hk9.size
      have hB11 := hB4.lo hk9
      refine SR.g' rfl (r_not rfl) <| SR.q' (r_pick false rfl (v := .bool _) rfl) <| SR.nil ?_
      exact ⟨_, rfl, ⟨⟨rfl, rfl, rfl, rfl, (eND (jmt h5)), trivial⟩, ((hk2).trans hk9)⟩⟩
  rintro f12 w13 ⟨hat14, hk15⟩
  rw [← sets_of_at hat14]
  have hz16 := hk15.size
  have hB17 := (Lo.refl w).lo hk15
  refine W.cond_d rfl (fun h18 => ?_) (fun h18 => ?_)
  · refine W.seq ?_
    refine W.regS (SR.lit (vs := []) (L := ([] : List LibRow)) (enc := encLibRow) tel33 (fun _ => rfl) rfl rfl rfl (by decide) ?_)
    intro g19 w20 hg21 hk22 hO23
    have hz24 := hk22.size
    have hB25 := hB17.lo hk22
    refine SR.q' (r_as (v := .slice _ _ _) rfl) <| SR.q' (r_as (v := .bool false) rfl) <| SR.nil ?_
    refine W.ret ?_
    refine ret2 rfl (v := .slice _ _ _) (v' := .bool _) rfl rfl ?_
    exact ⟨(some (⟨g19, 0, none⟩ : Addr)), 0, 0, eR (eT2 rfl (eB (z_c_spec_MergeRows_27 a na hbda hlea b nb hbdb hleb h18))), (SlO.eqv ((hO23).down (by omega)) (z_c_spec_MergeRows_26 a na hbda hlea b nb hbdb hleb h18)), hB25⟩
  · have hq28 : RowsOK a := (Classical.not_not.1 (not_or.1 h18).1)
    have hq29 : RowsOK b := (Classical.not_not.1 (not_or.1 h18).2)
    have hq30 := rows_len hq28
    have hq31 := totL_len4 _ hq28
    have hq32 := rows_len hq29
    have hq33 := totL_len4 _ hq29
    refine W.skip ?_
    refine W.seq ?_
    refine W.regS (SR.lit (vs := []) (L := ([] : List LibRow)) (enc := encLibRow) tel33 (fun _ => rfl) rfl rfl rfl (by decide) ?_)
    intro g34 w35 hg36 hk37 hO38
    have hz39 := hk37.size
    have hB40 := hB17.lo hk37
    refine SR.q' (r_as (v := .slice _ _ _) rfl) <| SR.nil ?_
    refine W.seq ?_
    refine W.regS (SR.q' (r_as (v := .int .i64 0) rfl) <| SR.q' (r_as (v := .int .i64 0) rfl) <| SR.nil ?_)
    refine W.seq ?_
    refine W.block ?_
    refine W.loop (σ := Nat × Nat × (List LibRow) × (Option Addr) × Nat × Nat) (fun g => [(0, .slice Aa na ca), (1, .slice Ab nb cb), (4, .slice none 0 0), (5, .bool false), (6, .slice g.2.2.2.1 g.2.2.2.2.1 g.2.2.2.2.2), (7, .int .i64 (g.1 : Int)), (8, .int .i64 (g.2.1 : Int))]) (fun g w' => (Lo w w') ∧ (SlR w' Ba encLibRow 5 Aa na ca a) ∧ (SlR w' Bb encLibRow 5 Ab nb cb b) ∧ (SlO w' w.heap.size encLibRow 5 25 g.2.2.2.1 g.2.2.2.2.1 g.2.2.2.2.2 g.2.2.1) ∧ (g.1 ≤ na ∧ g.2.1 ≤ nb ∧ g.2.2.1 ++ merge (a.drop g.1) (b.drop g.2.1) = merge a b)) (fun g => (na - g.1) + (nb - g.2.1)) (0, 0, ([] : List LibRow), (some (⟨g34, 0, none⟩ : Addr)), 0, 0) ?_ ?_ ?_
    · exact ⟨rfl, rfl, rfl, rfl, rfl, rfl, rfl, trivial⟩
    · exact ⟨hB40, ((ha).lo hk15).lo hk37, ((hb).lo hk15).lo hk37, ((hO38).down (by omega)), (z_c_spec_MergeRows_42 a na hbda hlea b nb hbdb hleb h18 hq28 hq29 hq30 hq31 hq32 hq33)⟩
    · rintro ⟨i, k, o, A41, n41, c41⟩ f43 w44 hP46
      obtain ⟨hB45, hm47, hm48, hO49, hi50⟩ : (Lo w w44) ∧ (SlR w44 Ba encLibRow 5 Aa na ca a) ∧ (SlR w44 Bb encLibRow 5 Ab nb cb b) ∧ (SlO w44 w.heap.size encLibRow 5 25 A41 n41 c41 o) ∧ (i ≤ na ∧ k ≤ nb ∧ o ++ merge (a.drop i) (b.drop k) = merge a b) := hP46
      refine (?_ : W _ _ _ _ _ (act _ (sets f43 [(0, .slice Aa na ca), (1, .slice Ab nb cb), (4, .slice none 0 0), (5, .bool false), (6, .slice A41 n41 c41), (7, .int .i64 (i : Int)), (8, .int .i64 (k : Int))])) _)
      have hzw44 := hB45.size
      have hl51 := hO49.len
      have hl52 := hO49.rd.bound
      have hq53 : o.length ≤ a.length + b.length := mg_len hi50.2.2
      refine W.seq ?_
      refine W.seq ?_
      refine W.regJS (fun f' w' => At f' [(0, .slice Aa na ca), (1, .slice Ab nb cb), (4, .slice none 0 0), (5, .bool false), (6, .slice A41 n41 c41), (7, .int .i64 (i : Int)), (8, .int .i64 (k : Int)), (29, .bool (decide (((i : Int) < (na : Int)) ∨ ((k : Int) < (nb : Int)))))] ∧ Lo w44 w') ?_ ?_
      · refine SR.q' (r_mv (v := .int .i64 _) rfl) <| SR.q' (r_mv (v := .slice _ _ _) rfl) <| SR.q' (r_len und33 rfl) <| SR.q' (r_lt rfl rfl) <| SR.q' (r_mv (v := .bool _) rfl) <| SR.splitD (fun h54 => ?_) (fun h54 => ?_)
        · refine SR.s' rfl <| SR.s' rfl <| SR.s' rfl <| SR.s' rfl <| SR.q' (r_pick true rfl (v := .bool true) rfl) <| SR.nil ?_
          exact ⟨_, rfl, ⟨⟨rfl, rfl, rfl, rfl, rfl, rfl, rfl, (eDT ((jot h54).1 trivial)), trivial⟩, (Lo.refl _)⟩⟩
        · refine SR.g' rfl (r_mv (v := .int .i64 _) rfl) <| SR.g' rfl (r_mv (v := .slice _ _ _) rfl) <| SR.g' rfl (r_len und33 rfl) <| SR.g' rfl (r_lt rfl rfl) <| SR.q' (r_pick false rfl (v := .bool _) rfl) <| SR.nil ?_
          exact ⟨_, rfl, ⟨⟨rfl, rfl, rfl, rfl, rfl, rfl, rfl, (eDD (jof h54)), trivial⟩, (Lo.refl _)⟩⟩
      rintro f55 w56 ⟨hat57, hk58⟩
      rw [← sets_of_at hat57]
      have hz59 := hk58.size
      have hB60 := hB45.lo hk58
      refine W.cond_d rfl (fun h61 => ?_) (fun h61 => ?_)
      · refine W.skip ?_
        refine W.block ?_
        refine W.seq ?_
        refine W.regJD mo (by kernel_rfl) (fun f' w' => At f' [(0, .slice Aa na ca), (1, .slice Ab nb cb), (4, .slice none 0 0), (5, .bool false), (6, .slice A41 n41 c41), (7, .int .i64 (i : Int)), (8, .int .i64 (k : Int)), (52, .bool (decide (((k : Int) = (nb : Int)) ∨ (((i : Int) < (na : Int)) ∧ (((gt a i).Month) < ((gt b k).Month))))))] ∧ Lo w56 w') ?_ ?_
        · refine QR.q' (fun w' hw' => r_mv (v := .int .i64 _) rfl) <| QR.q' (fun w' hw' => r_mv (v := .slice _ _ _) rfl) <| QR.q' (fun w' hw' => r_len und33 rfl) <| QR.q' (fun w' hw' => r_eq rfl rfl) <| QR.q' (fun w' hw' => r_mv (v := .bool _) rfl) <| QR.splitD (fun h62 => ?_) (fun h62 => ?_)
          · refine QR.s' rfl <| QR.s' rfl <| QR.s' rfl <| QR.s' rfl <| QR.s' rfl <| QR.u' rfl <| QR.u' rfl <| QR.u' rfl <| QR.u' rfl <| QR.u' rfl <| QR.u' rfl <| QR.u' rfl <| QR.u' rfl <| QR.u' rfl <| QR.u' rfl <| QR.u' rfl <| QR.s' rfl <| QR.q' (fun w' hw' => r_pick true rfl (v := .bool true) rfl) <| QR.nil ?_
            intro w63 hk64
            exact ⟨⟨rfl, rfl, rfl, rfl, rfl, rfl, rfl, (eDT ((jot h62).1 trivial)), trivial⟩, hk64⟩
          · refine QR.g' rfl (fun w' hw' => r_mv (v := .int .i64 _) rfl) <| QR.g' rfl (fun w' hw' => r_mv (v := .slice _ _ _) rfl) <| QR.g' rfl (fun w' hw' => r_len und33 rfl) <| QR.g' rfl (fun w' hw' => r_lt rfl rfl) <| QR.g' rfl (fun w' hw' => r_mv (v := .bool _) rfl) <| QR.splitD (fun h65 => ?_) (fun h65 => ?_)
            · refine QR.g' rfl (fun w' hw' => r_mv (v := .slice _ _ _) rfl) <| QR.g' rfl (fun w' hw' => r_mv (v := .int .i64 _) rfl) <| ?_
              have hx67 := ((hm47).lo hk58).elem (i := i) (by omega)
              have hq68 := rows_rng hq28 hx67
              refine QR.g' rfl (fun w' hw' => r_ixR tsl33 ((((hm47).lo hk58).lo hw')) rfl rfl (by omega)) <| QR.g' rfl (fun w' hw' => r_fa fa25_0 rfl) <| QR.g' rfl (fun w' hw' => r_ld (v := .int .i64 ((gt a i).Month)) sca3 rfl (((((hm47).lo hk58).lo hw')).cell hx67 rfl)) <| QR.g' rfl (fun w' hw' => r_mv (v := .slice _ _ _) rfl) <| QR.g' rfl (fun w' hw' => r_mv (v := .int .i64 _) rfl) <| ?_
              have hx70 := ((hm48).lo hk58).elem (i := k) (by omega)
              have hq71 := rows_rng hq29 hx70
              refine QR.g' rfl (fun w' hw' => r_ixR tsl33 ((((hm48).lo hk58).lo hw')) rfl rfl (by omega)) <| QR.g' rfl (fun w' hw' => r_fa fa25_0 rfl) <| QR.g' rfl (fun w' hw' => r_ld (v := .int .i64 ((gt b k).Month)) sca3 rfl (((((hm48).lo hk58).lo hw')).cell hx70 rfl)) <| QR.g' rfl (fun w' hw' => r_lt rfl rfl) <| QR.g' rfl (fun w' hw' => r_pick true rfl (v := .bool _) rfl) <| QR.q' (fun w' hw' => r_pick false rfl (v := .bool _) rfl) <| QR.nil ?_
              intro w72 hk73
              exact ⟨⟨rfl, rfl, rfl, rfl, rfl, rfl, rfl, (eDD ((jat h65).trans (jof h62))), trivial⟩, hk73⟩
            · refine QR.s' rfl <| QR.s' rfl <| QR.s' rfl <| QR.s' rfl <| QR.s' rfl <| QR.s' rfl <| QR.s' rfl <| QR.s' rfl <| QR.s' rfl <| QR.s' rfl <| QR.s' rfl <| QR.g' rfl (fun w' hw' => r_pick false rfl (v := .bool false) rfl) <| QR.q' (fun w' hw' => r_pick false rfl (v := .bool _) rfl) <| QR.nil ?_
              intro w74 hk75
              exact ⟨⟨rfl, rfl, rfl, rfl, rfl, rfl, rfl, (eDF ((jaf h65).trans (jof h62)).2), trivial⟩, hk75⟩
        rintro f76 w77 ⟨hat78, hk79⟩
        rw [← sets_of_at hat78]
        have hz80 := hk79.size
        have hB81 := hB60.lo hk79
        refine W.cond_d rfl (fun h82 => ?_) (fun h82 => ?_)
        · refine W.seq ?_
          refine W.regS (SR.q' (r_mv (v := .slice _ _ _) rfl) <| SR.q' (r_mv (v := .slice _ _ _) rfl) <| SR.q' (r_mv (v := .int .i64 _) rfl) <| ?_)
          have hx84 := (((hm47).lo hk58).lo hk79).elem (i := i) (by omega)
          have hq85 := rows_rng hq28 hx84
          refine SR.q' (r_ixR tsl33 (((hm47).lo hk58).lo hk79) rfl rfl (by omega)) <| SR.q' (r_lda (l := encLibRow (gt a i)) agg25 rfl (fun _ _ hu => (((hm47).lo hk58).lo hk79).cell hx84 hu) ((((hm47).lo hk58).lo hk79).esz _)) <| SR.lit (vs := [.agg (List.toArray (encLibRow (gt a i)))]) (L := ([(gt a i)] : List LibRow)) (enc := encLibRow) tel33 (fun _ => rfl) rfl rfl rfl (by decide) ?_
          intro g86 w87 hg88 hk89 hO90
          have hz91 := hk89.size
          have hB92 := hB81.lo hk89
          have hd93 : ¬ A41 = some ⟨g86, 0, none⟩ := fun e' => by have := (((hO49).lo hk58).lo hk79).base_le e'; omega
          refine SR.app tel33 rfl rfl ((((hO49).lo hk58).lo hk79).lo hk89) ((hO90).rd) (fun _ => rfl) (by omega) (by omega) ?_
          intro A94 c95 w96 hk97 hO98 hN99
          have hz100 := hk97.size
          have hB101 := hB92.step hk97 (fun i_ hi_ e' => by have := (((((hO49).lo hk58).lo hk79).lo hk89)).base_le e'; first | omega | (exfalso; omega) | exact e' | exact .inl e' | exact .inr e')
          refine SR.q' (r_as (v := .slice _ _ _) rfl) <| SR.nil ?_
          refine W.regS (SR.q' (r_mv (v := .int .i64 _) rfl) <| SR.q' (r_add rfl rfl (by omega)) <| SR.q' (r_as (v := .int .i64 _) rfl) <| SR.nil ?_)
          refine ⟨((i + 1), k, o ++ ([(gt a i)] : List LibRow), A94, n41 + 1, c95), _, rfl, ⟨rfl, rfl, rfl, rfl, rfl, rfl, rfl, trivial⟩, ⟨hB101, ((((hm47).lo hk58).lo hk79).lo hk89).kp hk97 (fun b_ hb e' => by have := (((((hO49).lo hk58).lo hk79).lo hk89)).base_le e'; omega), ((((hm48).lo hk58).lo hk79).lo hk89).kp hk97 (fun b_ hb e' => by have := (((((hO49).lo hk58).lo hk79).lo hk89)).base_le e'; omega), (hO98), ?_⟩, ?_⟩
          · exact (z_c_spec_MergeRows_103 a na hbda hlea b nb hbdb hleb h18 hq28 hq29 hq30 hq31 hq32 hq33 i k o n41 c41 hi50 hl51 hq53 h61 h82 hx84 hq85)
          · exact (z_c_spec_MergeRows_104 a na hbda hlea b nb hbdb hleb h18 hq28 hq29 hq30 hq31 hq32 hq33 i k o n41 c41 hi50 hl51 hq53 h61 h82 hx84 hq85)
        · have hq105 : ¬ ((k : Int) = (nb : Int)) := (not_or.1 h82).1
          have hq106 : ¬ (((i : Int) < (na : Int)) ∧ (((gt a i).Month) < ((gt b k).Month))) := (not_or.1 h82).2
          refine W.seq ?_
          refine W.regJD mo (by kernel_rfl) (fun f' w' => At f' [(0, .slice Aa na ca), (1, .slice Ab nb cb), (4, .slice none 0 0), (5, .bool false), (6, .slice A41 n41 c41), (7, .int .i64 (i : Int)), (8, .int .i64 (k : Int)), (78, .bool (decide (((i : Int) = (na : Int)) ∨ (((gt b k).Month) < ((gt a i).Month)))))] ∧ Lo w77 w') ?_ ?_
          · refine QR.q' (fun w' hw' => r_mv (v := .int .i64 _) rfl) <| QR.q' (fun w' hw' => r_mv (v := .slice _ _ _) rfl) <| QR.q' (fun w' hw' => r_len und33 rfl) <| QR.q' (fun w' hw' => r_eq rfl rfl) <| QR.q' (fun w' hw' => r_mv (v := .bool _) rfl) <| QR.splitD (fun h107 => ?_) (fun h107 => ?_)
            · refine QR.s' rfl <| QR.s' rfl <| QR.s' rfl <| QR.s' rfl <| QR.s' rfl <| QR.s' rfl <| QR.s' rfl <| QR.s' rfl <| QR.s' rfl <| QR.s' rfl <| QR.s' rfl <| QR.q' (fun w' hw' => r_pick true rfl (v := .bool true) rfl) <| QR.nil ?_
              intro w108 hk109
              exact ⟨⟨rfl, rfl, rfl, rfl, rfl, rfl, rfl, (eDT ((jot h107).1 trivial)), trivial⟩, hk109⟩
            · refine QR.g' rfl (fun w' hw' => r_mv (v := .slice _ _ _) rfl) <| QR.g' rfl (fun w' hw' => r_mv (v := .int .i64 _) rfl) <| ?_
              have hx111 := (((hm48).lo hk58).lo hk79).elem (i := k) (by omega)
              have hq112 := rows_rng hq29 hx111
              refine QR.g' rfl (fun w' hw' => r_ixR tsl33 (((((hm48).lo hk58).lo hk79).lo hw')) rfl rfl (by omega)) <| QR.g' rfl (fun w' hw' => r_fa fa25_0 rfl) <| QR.g' rfl (fun w' hw' => r_ld (v := .int .i64 ((gt b k).Month)) sca3 rfl ((((((hm48).lo hk58).lo hk79).lo hw')).cell hx111 rfl)) <| QR.g' rfl (fun w' hw' => r_mv (v := .slice _ _ _) rfl) <| QR.g' rfl (fun w' hw' => r_mv (v := .int .i64 _) rfl) <| ?_
              have hx114 := (((hm47).lo hk58).lo hk79).elem (i := i) (by omega)
              have hq115 := rows_rng hq28 hx114
              refine QR.g' rfl (fun w' hw' => r_ixR tsl33 (((((hm47).lo hk58).lo hk79).lo hw')) rfl rfl (by omega)) <| QR.g' rfl (fun w' hw' => r_fa fa25_0 rfl) <| QR.g' rfl (fun w' hw' => r_ld (v := .int .i64 ((gt a i).Month)) sca3 rfl ((((((hm47).lo hk58).lo hk79).lo hw')).cell hx114 rfl)) <| QR.g' rfl (fun w' hw' => r_lt rfl rfl) <| QR.q' (fun w' hw' => r_pick false rfl (v := .bool _) rfl) <| QR.nil ?_
              intro w116 hk117
              exact ⟨⟨rfl, rfl, rfl, rfl, rfl, rfl, rfl, (eDD (jof h107)), trivial⟩, hk117⟩
          rintro f118 w119 ⟨hat120, hk121⟩
          rw [← sets_of_at hat120]
          have hz122 := hk121.size
          have hB123 := hB81.lo hk121
          refine W.cond_d rfl (fun h124 => ?_) (fun h124 => ?_)
          · refine W.seq ?_
            refine W.regS (SR.q' (r_mv (v := .slice _ _ _) rfl) <| SR.q' (r_mv (v := .slice _ _ _) rfl) <| SR.q' (r_mv (v := .int .i64 _) rfl) <| ?_)
            have hx126 := ((((hm48).lo hk58).lo hk79).lo hk121).elem (i := k) (by omega)
            have hq127 := rows_rng hq29 hx126
            refine SR.q' (r_ixR tsl33 ((((hm48).lo hk58).lo hk79).lo hk121) rfl rfl (by omega)) <| SR.q' (r_lda (l := encLibRow (gt b k)) agg25 rfl (fun _ _ hu => ((((hm48).lo hk58).lo hk79).lo hk121).cell hx126 hu) (((((hm48).lo hk58).lo hk79).lo hk121).esz _)) <| SR.lit (vs := [.agg (List.toArray (encLibRow (gt b k)))]) (L := ([(gt b k)] : List LibRow)) (enc := encLibRow) tel33 (fun _ => rfl) rfl rfl rfl (by decide) ?_
            intro g128 w129 hg130 hk131 hO132
            have hz133 := hk131.size
            have hB134 := hB123.lo hk131
            have hd135 : ¬ A41 = some ⟨g128, 0, none⟩ := fun e' => by have := ((((hO49).lo hk58).lo hk79).lo hk121).base_le e'; omega
            refine SR.app tel33 rfl rfl (((((hO49).lo hk58).lo hk79).lo hk121).lo hk131) ((hO132).rd) (fun _ => rfl) (by omega) (by omega) ?_
            intro A136 c137 w138 hk139 hO140 hN141
            have hz142 := hk139.size
            have hB143 := hB134.step hk139 (fun i_ hi_ e' => by have := ((((((hO49).lo hk58).lo hk79).lo hk121).lo hk131)).base_le e'; first | omega | (exfalso; omega) | exact e' | exact .inl e' | exact .inr e')
            refine SR.q' (r_as (v := .slice _ _ _) rfl) <| SR.nil ?_
            refine W.regS (SR.q' (r_mv (v := .int .i64 _) rfl) <| SR.q' (r_add rfl rfl (by omega)) <| SR.q' (r_as (v := .int .i64 _) rfl) <| SR.nil ?_)
            refine ⟨(i, (k + 1), o ++ ([(gt b k)] : List LibRow), A136, n41 + 1, c137), _, rfl, ⟨rfl, rfl, rfl, rfl, rfl, rfl, rfl, trivial⟩, ⟨hB143, (((((hm47).lo hk58).lo hk79).lo hk121).lo hk131).kp hk139 (fun b_ hb e' => by have := ((((((hO49).lo hk58).lo hk79).lo hk121).lo hk131)).base_le e'; omega), (((((hm48).lo hk58).lo hk79).lo hk121).lo hk131).kp hk139 (fun b_ hb e' => by have := ((((((hO49).lo hk58).lo hk79).lo hk121).lo hk131)).base_le e'; omega), (hO140), ?_⟩, ?_⟩
            · exact (z_c_spec_MergeRows_145 a na hbda hlea b nb hbdb hleb h18 hq28 hq29 hq30 hq31 hq32 hq33 i k o n41 c41 hi50 hl51 hq53 h61 h82 hq105 hq106 h124 hx126 hq127)
            · exact (z_c_spec_MergeRows_146 a na hbda hlea b nb hbdb hleb h18 hq28 hq29 hq30 hq31 hq32 hq33 i k o n41 c41 hi50 hl51 hq53 h61 h82 hq105 hq106 h124 hx126 hq127)
          · have hq147 : ¬ ((i : Int) = (na : Int)) := (not_or.1 h124).1
            have hq148 : ¬ (((gt b k).Month) < ((gt a i).Month)) := (not_or.1 h124).2
            refine W.seq ?_
            refine W.regS (SR.q' (r_mv (v := .slice _ _ _) rfl) <| SR.q' (r_mv (v := .int .i64 _) rfl) <| ?_)
            have hx150 := ((((hm47).lo hk58).lo hk79).lo hk121).elem (i := i) (by omega)
            have hq151 := rows_rng hq28 hx150
            refine SR.q' (r_ixR tsl33 ((((hm47).lo hk58).lo hk79).lo hk121) rfl rfl (by omega)) <| SR.q' (r_lda (l := encLibRow (gt a i)) agg25 rfl (fun _ _ hu => ((((hm47).lo hk58).lo hk79).lo hk121).cell hx150 hu) (((((hm47).lo hk58).lo hk79).lo hk121).esz _)) <| SR.alloc (l := [.int .i64 0, .int .i64 0, .int .i64 0, .int .i64 0, .int .i64 0]) tz25 rfl ?_
            intro g152 w153 hg154 hk155 hs156 hb157
            have hz158 := hk155.size
            have hB159 := hB123.lo hk155
            have hd160 : ¬ A41 = some ⟨g152, 0, none⟩ := fun e' => by have := ((((hO49).lo hk58).lo hk79).lo hk121).base_le e'; omega
            refine SR.store (o := 0) (vs := [.int .i64 ((gt a i).Month), .int .i64 ((gt a i).Lent), .int .i64 ((gt a i).Copied), .int .i64 ((gt a i).Given), .int .i64 ((gt a i).Fines)]) agg25.2 rfl rfl rfl rfl (hb157) (Nat.le_of_ble_eq_true rfl) rfl ?_
            intro w161 hk162 hs163 hb164
            have hz165 := hk162.size
            have hB166 := hB159.new hk162 (by omega)
            refine SR.nil ?_
            refine W.seq ?_
            refine W.regA (Kp (fun b_ => b_ = g152) w161) (fun f' w' => At f' [(0, .slice Aa na ca), (1, .slice Ab nb cb), (4, .slice none 0 0), (5, .bool false), (6, .slice A41 n41 c41), (7, .int .i64 (i : Int)), (8, .int .i64 (k : Int)), (9, .pointer (some ((⟨g152, 0, none⟩ : Addr))))] ∧ (Kp (fun b_ => b_ = g152) w161 w') ∧ (Blk w' g152 25 [.int .i64 ((gt a i).Month), .int .i64 (((gt a i).Lent) + ((gt b k).Lent)), .int .i64 ((gt a i).Copied), .int .i64 ((gt a i).Given), .int .i64 ((gt a i).Fines)]) ∧ (b[k]? = some (gt b k)) ∧ (((1 : Int) ≤ (gt b k).Month ∧ (gt b k).Month ≤ 1200) ∧ ((0 : Int) ≤ (gt b k).Lent ∧ (gt b k).Lent ≤ 9999) ∧ ((0 : Int) ≤ (gt b k).Copied ∧ (gt b k).Copied ≤ 9999) ∧ ((0 : Int) ≤ (gt b k).Given ∧ (gt b k).Given ≤ 999) ∧ ((0 : Int) ≤ (gt b k).Fines ∧ (gt b k).Fines ≤ 99999))) mo ?_ ?_
            · intro w181 hk182
              have hz183 := hk182.size
              have hB184 := hB166.lo hk182
              refine AH.take 0 rfl (by kernel_rfl) trivial ((Kp.refl w161 : Kp (fun b_ => b_ = g152) w161 w161).lo hk182) (fun w' hw' => r_fa fa25_1 rfl) <| AH.take 2 rfl (by kernel_rfl) trivial ((Kp.refl w161 : Kp (fun b_ => b_ = g152) w161 w161).lo hk182) (fun w' hw' => r_mv (v := .slice _ _ _) rfl) <| AH.take 3 rfl (by kernel_rfl) trivial ((Kp.refl w161 : Kp (fun b_ => b_ = g152) w161 w161).lo hk182) (fun w' hw' => r_mv (v := .int .i64 _) rfl) <| ?_
              have hx186 := (((((((hm48).lo hk58).lo hk79).lo hk121).lo hk155).kn hk162 (by omega)).lo hk182).elem (i := k) (by omega)
              have hq187 := rows_rng hq29 hx186
              refine AH.take 4 rfl (by kernel_rfl) trivial ((Kp.refl w161 : Kp (fun b_ => b_ = g152) w161 w161).lo hk182) (fun w' hw' => r_ixR tsl33 ((((((((hm48).lo hk58).lo hk79).lo hk121).lo hk155).kn hk162 (by omega)).kn hw' (by omega))) rfl rfl (by omega)) <| AH.take 5 rfl (by kernel_rfl) trivial ((Kp.refl w161 : Kp (fun b_ => b_ = g152) w161 w161).lo hk182) (fun w' hw' => r_fa fa25_1 rfl) <| AH.take 6 rfl (by kernel_rfl) trivial ((Kp.refl w161 : Kp (fun b_ => b_ = g152) w161 w161).lo hk182) (fun w' hw' => r_ld (v := .int .i64 ((gt b k).Lent)) sca3 rfl (((((((((hm48).lo hk58).lo hk79).lo hk121).lo hk155).kn hk162 (by omega)).kn hw' (by omega))).cell hx186 rfl)) <| AH.br [1] (by kernel_rfl) rfl ⟨Br.mk' rfl trivial ?_, trivial⟩
              refine SR.q' (r_ld (v := .int .i64 ((gt a i).Lent)) sca3 rfl (((hb164).lo hk182).cell rfl)) ?_
              refine SR.nil ⟨(Kp.refl w161 : Kp (fun b_ => b_ = g152) w161 w161).lo hk182, _, rfl, ?_⟩
              refine AH.take 7 rfl (by kernel_rfl) trivial ((Kp.refl w161 : Kp (fun b_ => b_ = g152) w161 w161).lo hk182) (fun w' hw' => r_add rfl rfl (by omega)) <| AH.take 8 rfl (by kernel_rfl) trivial ((Kp.refl w161 : Kp (fun b_ => b_ = g152) w161 w161).lo hk182) (fun w' hw' => r_fa fa25_1 rfl) <| AH.br [9] (by kernel_rfl) rfl ⟨Br.mk' rfl trivial ?_, trivial⟩
              refine SR.store (o := 1) (vs := [.int .i64 (((gt a i).Lent) + ((gt b k).Lent))]) sca3.2 rfl rfl rfl rfl ((hb164).lo hk182) (Nat.le_of_ble_eq_true rfl) rfl ?_
              intro w188 hk189 hs190 hb191
              have hz192 := hk189.size
              have hB193 := hB184.new hk189 (by omega)
              have hS194 := ((Kp.refl w161 : Kp (fun b_ => b_ = g152) w161 w161).lo hk182).step hk189 (fun _ _ e => e)
              refine SR.nil ⟨hS194, _, rfl, ?_⟩
              refine AH.done (by kernel_rfl) ?_
              exact ⟨⟨rfl, rfl, rfl, rfl, rfl, rfl, rfl, rfl, trivial⟩, hS194, (hb191), hx186, hq187⟩
            rintro f196 w197 ⟨hat199, hR198, hm195, hx186, hq187⟩
            rw [← sets_of_at hat199]
            have hz200 := hR198.size
            have hB201 := hB166.new hR198 (by omega)
            refine W.seq ?_
            refine W.regA (Kp (fun b_ => b_ = g152) w197) (fun f' w' => At f' [(0, .slice Aa na ca), (1, .slice Ab nb cb), (4, .slice none 0 0), (5, .bool false), (6, .slice A41 n41 c41), (7, .int .i64 (i : Int)), (8, .int .i64 (k : Int)), (9, .pointer (some ((⟨g152, 0, none⟩ : Addr))))] ∧ (Kp (fun b_ => b_ = g152) w197 w') ∧ (Blk w' g152 25 [.int .i64 ((gt a i).Month), .int .i64 (((gt a i).Lent) + ((gt b k).Lent)), .int .i64 (((gt a i).Copied) + ((gt b k).Copied)), .int .i64 ((gt a i).Given), .int .i64 ((gt a i).Fines)])) mo ?_ ?_
            · intro w213 hk214
              have hz215 := hk214.size
              have hB216 := hB201.lo hk214
              refine AH.take 0 rfl (by kernel_rfl) trivial ((Kp.refl w197 : Kp (fun b_ => b_ = g152) w197 w197).lo hk214) (fun w' hw' => r_fa fa25_2 rfl) <| AH.take 2 rfl (by kernel_rfl) trivial ((Kp.refl w197 : Kp (fun b_ => b_ = g152) w197 w197).lo hk214) (fun w' hw' => r_mv (v := .slice _ _ _) rfl) <| AH.take 3 rfl (by kernel_rfl) trivial ((Kp.refl w197 : Kp (fun b_ => b_ = g152) w197 w197).lo hk214) (fun w' hw' => r_mv (v := .int .i64 _) rfl) <| AH.take 4 rfl (by kernel_rfl) trivial ((Kp.refl w197 : Kp (fun b_ => b_ = g152) w197 w197).lo hk214) (fun w' hw' => r_ixR tsl33 (((((((((hm48).lo hk58).lo hk79).lo hk121).lo hk155).kn hk162 (by omega)).kn hR198 (by omega)).kn hw' (by omega))) rfl rfl (by omega)) <| AH.take 5 rfl (by kernel_rfl) trivial ((Kp.refl w197 : Kp (fun b_ => b_ = g152) w197 w197).lo hk214) (fun w' hw' => r_fa fa25_2 rfl) <| AH.take 6 rfl (by kernel_rfl) trivial ((Kp.refl w197 : Kp (fun b_ => b_ = g152) w197 w197).lo hk214) (fun w' hw' => r_ld (v := .int .i64 ((gt b k).Copied)) sca3 rfl ((((((((((hm48).lo hk58).lo hk79).lo hk121).lo hk155).kn hk162 (by omega)).kn hR198 (by omega)).kn hw' (by omega))).cell hx186 rfl)) <| AH.br [1] (by kernel_rfl) rfl ⟨Br.mk' rfl trivial ?_, trivial⟩
              refine SR.q' (r_ld (v := .int .i64 ((gt a i).Copied)) sca3 rfl (((hm195).lo hk214).cell rfl)) ?_
              refine SR.nil ⟨(Kp.refl w197 : Kp (fun b_ => b_ = g152) w197 w197).lo hk214, _, rfl, ?_⟩
              refine AH.take 7 rfl (by kernel_rfl) trivial ((Kp.refl w197 : Kp (fun b_ => b_ = g152) w197 w197).lo hk214) (fun w' hw' => r_add rfl rfl (by omega)) <| AH.take 8 rfl (by kernel_rfl) trivial ((Kp.refl w197 : Kp (fun b_ => b_ = g152) w197 w197).lo hk214) (fun w' hw' => r_fa fa25_2 rfl) <| AH.br [9] (by kernel_rfl) rfl ⟨Br.mk' rfl trivial ?_, trivial⟩
              refine SR.store (o := 2) (vs := [.int .i64 (((gt a i).Copied) + ((gt b k).Copied))]) sca3.2 rfl rfl rfl rfl ((hm195).lo hk214) (Nat.le_of_ble_eq_true rfl) rfl ?_
              intro w217 hk218 hs219 hb220
              have hz221 := hk218.size
              have hB222 := hB216.new hk218 (by omega)
              have hS223 := ((Kp.refl w197 : Kp (fun b_ => b_ = g152) w197 w197).lo hk214).step hk218 (fun _ _ e => e)
              refine SR.nil ⟨hS223, _, rfl, ?_⟩
              refine AH.done (by kernel_rfl) ?_
              exact ⟨⟨rfl, rfl, rfl, rfl, rfl, rfl, rfl, rfl, trivial⟩, hS223, (hb220)⟩
            rintro f225 w226 ⟨hat228, hR227, hm224⟩
            rw [← sets_of_at hat228]
            have hz229 := hR227.size
            have hB230 := hB201.new hR227 (by omega)
            refine W.seq ?_
            refine W.regA (Kp (fun b_ => b_ = g152) w226) (fun f' w' => At f' [(0, .slice Aa na ca), (1, .slice Ab nb cb), (4, .slice none 0 0), (5, .bool false), (6, .slice A41 n41 c41), (7, .int .i64 (i : Int)), (8, .int .i64 (k : Int)), (9, .pointer (some ((⟨g152, 0, none⟩ : Addr))))] ∧ (Kp (fun b_ => b_ = g152) w226 w') ∧ (Blk w' g152 25 [.int .i64 ((gt a i).Month), .int .i64 (((gt a i).Lent) + ((gt b k).Lent)), .int .i64 (((gt a i).Copied) + ((gt b k).Copied)), .int .i64 (((gt a i).Given) + ((gt b k).Given)), .int .i64 ((gt a i).Fines)])) mo ?_ ?_
            · intro w242 hk243
              have hz244 := hk243.size
              have hB245 := hB230.lo hk243
              refine AH.take 0 rfl (by kernel_rfl) trivial ((Kp.refl w226 : Kp (fun b_ => b_ = g152) w226 w226).lo hk243) (fun w' hw' => r_fa fa25_3 rfl) <| AH.take 2 rfl (by kernel_rfl) trivial ((Kp.refl w226 : Kp (fun b_ => b_ = g152) w226 w226).lo hk243) (fun w' hw' => r_mv (v := .slice _ _ _) rfl) <| AH.take 3 rfl (by kernel_rfl) trivial ((Kp.refl w226 : Kp (fun b_ => b_ = g152) w226 w226).lo hk243) (fun w' hw' => r_mv (v := .int .i64 _) rfl) <| AH.take 4 rfl (by kernel_rfl) trivial ((Kp.refl w226 : Kp (fun b_ => b_ = g152) w226 w226).lo hk243) (fun w' hw' => r_ixR tsl33 ((((((((((hm48).lo hk58).lo hk79).lo hk121).lo hk155).kn hk162 (by omega)).kn hR198 (by omega)).kn hR227 (by omega)).kn hw' (by omega))) rfl rfl (by omega)) <| AH.take 5 rfl (by kernel_rfl) trivial ((Kp.refl w226 : Kp (fun b_ => b_ = g152) w226 w226).lo hk243) (fun w' hw' => r_fa fa25_3 rfl) <| AH.take 6 rfl (by kernel_rfl) trivial ((Kp.refl w226 : Kp (fun b_ => b_ = g152) w226 w226).lo hk243) (fun w' hw' => r_ld (v := .int .i64 ((gt b k).Given)) sca3 rfl (((((((((((hm48).lo hk58).lo hk79).lo hk121).lo hk155).kn hk162 (by omega)).kn hR198 (by omega)).kn hR227 (by omega)).kn hw' (by omega))).cell hx186 rfl)) <| AH.br [1] (by kernel_rfl) rfl ⟨Br.mk' rfl trivial ?_, trivial⟩
              refine SR.q' (r_ld (v := .int .i64 ((gt a i).Given)) sca3 rfl (((hm224).lo hk243).cell rfl)) ?_
              refine SR.nil ⟨(Kp.refl w226 : Kp (fun b_ => b_ = g152) w226 w226).lo hk243, _, rfl, ?_⟩
              refine AH.take 7 rfl (by kernel_rfl) trivial ((Kp.refl w226 : Kp (fun b_ => b_ = g152) w226 w226).lo hk243) (fun w' hw' => r_add rfl rfl (by omega)) <| AH.take 8 rfl (by kernel_rfl) trivial ((Kp.refl w226 : Kp (fun b_ => b_ = g152) w226 w226).lo hk243) (fun w' hw' => r_fa fa25_3 rfl) <| AH.br [9] (by kernel_rfl) rfl ⟨Br.mk' rfl trivial ?_, trivial⟩
              refine SR.store (o := 3) (vs := [.int .i64 (((gt a i).Given) + ((gt b k).Given))]) sca3.2 rfl rfl rfl rfl ((hm224).lo hk243) (Nat.le_of_ble_eq_true rfl) rfl ?_
              intro w246 hk247 hs248 hb249
              have hz250 := hk247.size
              have hB251 := hB245.new hk247 (by omega)
              have hS252 := ((Kp.refl w226 : Kp (fun b_ => b_ = g152) w226 w226).lo hk243).step hk247 (fun _ _ e => e)
              refine SR.nil ⟨hS252, _, rfl, ?_⟩
              refine AH.done (by kernel_rfl) ?_
              exact ⟨⟨rfl, rfl, rfl, rfl, rfl, rfl, rfl, rfl, trivial⟩, hS252, (hb249)⟩
            rintro f254 w255 ⟨hat257, hR256, hm253⟩
            rw [← sets_of_at hat257]
            have hz258 := hR256.size
            have hB259 := hB230.new hR256 (by omega)
            refine W.seq ?_
            refine W.regA (Kp (fun b_ => b_ = g152) w255) (fun f' w' => At f' [(0, .slice Aa na ca), (1, .slice Ab nb cb), (4, .slice none 0 0), (5, .bool false), (6, .slice A41 n41 c41), (7, .int .i64 (i : Int)), (8, .int .i64 (k : Int)), (9, .pointer (some ((⟨g152, 0, none⟩ : Addr))))] ∧ (Kp (fun b_ => b_ = g152) w255 w') ∧ (Blk w' g152 25 [.int .i64 ((gt a i).Month), .int .i64 (((gt a i).Lent) + ((gt b k).Lent)), .int .i64 (((gt a i).Copied) + ((gt b k).Copied)), .int .i64 (((gt a i).Given) + ((gt b k).Given)), .int .i64 (((gt a i).Fines) + ((gt b k).Fines))])) mo ?_ ?_
            · intro w271 hk272
              have hz273 := hk272.size
              have hB274 := hB259.lo hk272
              refine AH.take 0 rfl (by kernel_rfl) trivial ((Kp.refl w255 : Kp (fun b_ => b_ = g152) w255 w255).lo hk272) (fun w' hw' => r_fa fa25_4 rfl) <| AH.take 2 rfl (by kernel_rfl) trivial ((Kp.refl w255 : Kp (fun b_ => b_ = g152) w255 w255).lo hk272) (fun w' hw' => r_mv (v := .slice _ _ _) rfl) <| AH.take 3 rfl (by kernel_rfl) trivial ((Kp.refl w255 : Kp (fun b_ => b_ = g152) w255 w255).lo hk272) (fun w' hw' => r_mv (v := .int .i64 _) rfl) <| AH.take 4 rfl (by kernel_rfl) trivial ((Kp.refl w255 : Kp (fun b_ => b_ = g152) w255 w255).lo hk272) (fun w' hw' => r_ixR tsl33 (((((((((((hm48).lo hk58).lo hk79).lo hk121).lo hk155).kn hk162 (by omega)).kn hR198 (by omega)).kn hR227 (by omega)).kn hR256 (by omega)).kn hw' (by omega))) rfl rfl (by omega)) <| AH.take 5 rfl (by kernel_rfl) trivial ((Kp.refl w255 : Kp (fun b_ => b_ = g152) w255 w255).lo hk272) (fun w' hw' => r_fa fa25_4 rfl) <| AH.take 6 rfl (by kernel_rfl) trivial ((Kp.refl w255 : Kp (fun b_ => b_ = g152) w255 w255).lo hk272) (fun w' hw' => r_ld (v := .int .i64 ((gt b k).Fines)) sca3 rfl ((((((((((((hm48).lo hk58).lo hk79).lo hk121).lo hk155).kn hk162 (by omega)).kn hR198 (by omega)).kn hR227 (by omega)).kn hR256 (by omega)).kn hw' (by omega))).cell hx186 rfl)) <| AH.br [1] (by kernel_rfl) rfl ⟨Br.mk' rfl trivial ?_, trivial⟩
              refine SR.q' (r_ld (v := .int .i64 ((gt a i).Fines)) sca3 rfl (((hm253).lo hk272).cell rfl)) ?_
              refine SR.nil ⟨(Kp.refl w255 : Kp (fun b_ => b_ = g152) w255 w255).lo hk272, _, rfl, ?_⟩
              refine AH.take 7 rfl (by kernel_rfl) trivial ((Kp.refl w255 : Kp (fun b_ => b_ = g152) w255 w255).lo hk272) (fun w' hw' => r_add rfl rfl (by omega)) <| AH.take 8 rfl (by kernel_rfl) trivial ((Kp.refl w255 : Kp (fun b_ => b_ = g152) w255 w255).lo hk272) (fun w' hw' => r_fa fa25_4 rfl) <| AH.br [9] (by kernel_rfl) rfl ⟨Br.mk' rfl trivial ?_, trivial⟩
              refine SR.store (o := 4) (vs := [.int .i64 (((gt a i).Fines) + ((gt b k).Fines))]) sca3.2 rfl rfl rfl rfl ((hm253).lo hk272) (Nat.le_of_ble_eq_true rfl) rfl ?_
              intro w275 hk276 hs277 hb278
              have hz279 := hk276.size
              have hB280 := hB274.new hk276 (by omega)
              have hS281 := ((Kp.refl w255 : Kp (fun b_ => b_ = g152) w255 w255).lo hk272).step hk276 (fun _ _ e => e)
              refine SR.nil ⟨hS281, _, rfl, ?_⟩
              refine AH.done (by kernel_rfl) ?_
              exact ⟨⟨rfl, rfl, rfl, rfl, rfl, rfl, rfl, rfl, trivial⟩, hS281, (hb278)⟩
            rintro f283 w284 ⟨hat286, hR285, hm282⟩
            rw [← sets_of_at hat286]
            have hz287 := hR285.size
            have hB288 := hB259.new hR285 (by omega)
            refine W.seq ?_
            refine W.regS (SR.q' (r_mv (v := .slice _ _ _) rfl) <| SR.q' (r_lda (l := [.int .i64 ((gt a i).Month), .int .i64 (((gt a i).Lent) + ((gt b k).Lent)), .int .i64 (((gt a i).Copied) + ((gt b k).Copied)), .int .i64 (((gt a i).Given) + ((gt b k).Given)), .int .i64 (((gt a i).Fines) + ((gt b k).Fines))]) agg25 rfl (fun _ _ hu => (hm282).cell hu) rfl) <| SR.lit (vs := [.agg (List.toArray [.int .i64 ((gt a i).Month), .int .i64 (((gt a i).Lent) + ((gt b k).Lent)), .int .i64 (((gt a i).Copied) + ((gt b k).Copied)), .int .i64 (((gt a i).Given) + ((gt b k).Given)), .int .i64 (((gt a i).Fines) + ((gt b k).Fines))])]) (L := ([(⟨(gt a i).Month, ((gt a i).Lent) + ((gt b k).Lent), ((gt a i).Copied) + ((gt b k).Copied), ((gt a i).Given) + ((gt b k).Given), ((gt a i).Fines) + ((gt b k).Fines)⟩ : LibRow)] : List LibRow)) (enc := encLibRow) tel33 (fun _ => rfl) rfl rfl rfl (by decide) ?_)
            intro g289 w290 hg291 hk292 hO293
            have hz294 := hk292.size
            have hB295 := hB288.lo hk292
            have hd296 : ¬ A41 = some ⟨g289, 0, none⟩ := fun e' => by have := ((((((((((hO49).lo hk58).lo hk79).lo hk121).lo hk155).kd hk162 hd160).kd hR198 hd160).kd hR227 hd160).kd hR256 hd160).kd hR285 hd160).base_le e'; omega
            refine SR.app tel33 rfl rfl (((((((((((hO49).lo hk58).lo hk79).lo hk121).lo hk155).kd hk162 hd160).kd hR198 hd160).kd hR227 hd160).kd hR256 hd160).kd hR285 hd160).lo hk292) ((hO293).rd) (fun _ => rfl) (by omega) (by omega) ?_
            intro A297 c298 w299 hk300 hO301 hN302
            have hz303 := hk300.size
            have hB304 := hB295.step hk300 (fun i_ hi_ e' => by have := ((((((((((((hO49).lo hk58).lo hk79).lo hk121).lo hk155).kd hk162 hd160).kd hR198 hd160).kd hR227 hd160).kd hR256 hd160).kd hR285 hd160).lo hk292)).base_le e'; first | omega | (exfalso; omega) | exact e' | exact .inl e' | exact .inr e')
            have hd305 : ¬ A297 = some ⟨g152, 0, none⟩ := fun e' => (hN302 g152 e').elim (fun h => hd160 (h.trans e')) (fun h => by have := ((hm282).lo hk292).lt; omega)
            refine SR.q' (r_as (v := .slice _ _ _) rfl) <| SR.nil ?_
            refine W.seq ?_
            refine W.regS (SR.q' (r_mv (v := .int .i64 _) rfl) <| SR.q' (r_add rfl rfl (by omega)) <| SR.q' (r_as (v := .int .i64 _) rfl) <| SR.nil ?_)
            refine W.regS (SR.q' (r_mv (v := .int .i64 _) rfl) <| SR.q' (r_add rfl rfl (by omega)) <| SR.q' (r_as (v := .int .i64 _) rfl) <| SR.nil ?_)
            refine ⟨((i + 1), (k + 1), o ++ ([(⟨(gt a i).Month, ((gt a i).Lent) + ((gt b k).Lent), ((gt a i).Copied) + ((gt b k).Copied), ((gt a i).Given) + ((gt b k).Given), ((gt a i).Fines) + ((gt b k).Fines)⟩ : LibRow)] : List LibRow), A297, n41 + 1, c298), _, rfl, ⟨rfl, rfl, rfl, rfl, rfl, rfl, rfl, trivial⟩, ⟨hB304, (((((((((((hm47).lo hk58).lo hk79).lo hk121).lo hk155).kn hk162 (by omega)).kn hR198 (by omega)).kn hR227 (by omega)).kn hR256 (by omega)).kn hR285 (by omega)).lo hk292).kp hk300 (fun b_ hb e' => by have := ((((((((((((hO49).lo hk58).lo hk79).lo hk121).lo hk155).kd hk162 hd160).kd hR198 hd160).kd hR227 hd160).kd hR256 hd160).kd hR285 hd160).lo hk292)).base_le e'; omega), (((((((((((hm48).lo hk58).lo hk79).lo hk121).lo hk155).kn hk162 (by omega)).kn hR198 (by omega)).kn hR227 (by omega)).kn hR256 (by omega)).kn hR285 (by omega)).lo hk292).kp hk300 (fun b_ hb e' => by have := ((((((((((((hO49).lo hk58).lo hk79).lo hk121).lo hk155).kd hk162 hd160).kd hR198 hd160).kd hR227 hd160).kd hR256 hd160).kd hR285 hd160).lo hk292)).base_le e'; omega), (hO301), ?_⟩, ?_⟩
            · exact (z_c_spec_MergeRows_307 a na hbda hlea b nb hbdb hleb h18 hq28 hq29 hq30 hq31 hq32 hq33 i k o n41 c41 hi50 hl51 hq53 h61 h82 hq105 hq106 h124 hq147 hq148 hx150 hq151 hx186 hq187)
            · exact (z_c_spec_MergeRows_308 a na hbda hlea b nb hbdb hleb h18 hq28 hq29 hq30 hq31 hq32 hq33 i k o n41 c41 hi50 hl51 hq53 h61 h82 hq105 hq106 h124 hq147 hq148 hx150 hq151 hx186 hq187)
      · have hq309 : ¬ ((i : Int) < (na : Int)) := (not_or.1 h61).1
        have hq310 : ¬ ((k : Int) < (nb : Int)) := (not_or.1 h61).2
        refine W.exit (xin_here ?_)
        refine W.seq ?_
        refine W.seq ?_
        refine W.regS (SR.q' (r_mv (v := .slice _ _ _) rfl) <| SR.call ent40 (c_spec_l31Good w56 o ((((hO49).lo hk58).rd))) rfl ?_)
        rintro e w311 ⟨rfl, hk312⟩
        refine ⟨_, rfl, ?_⟩
        have hz313 := hk312.size
        have hB314 := hB60.lo hk312
        refine SR.q' (r_not rfl) <| SR.nil ?_
        refine W.cond_n rfl (fun h315 => ?_) (fun h315 => ?_)
        · refine W.seq ?_
          refine W.regS (SR.lit (vs := []) (L := ([] : List LibRow)) (enc := encLibRow) tel33 (fun _ => rfl) rfl rfl rfl (by decide) ?_)
          intro g316 w317 hg318 hk319 hO320
          have hz321 := hk319.size
          have hB322 := hB314.lo hk319
          have hd323 : ¬ A41 = some ⟨g316, 0, none⟩ := fun e' => by have := (((hO49).lo hk58).lo hk312).base_le e'; omega
          refine SR.q' (r_as (v := .slice _ _ _) rfl) <| SR.q' (r_as (v := .bool false) rfl) <| SR.nil ?_
          refine W.ret ?_
          refine ret2 rfl (v := .slice _ _ _) (v' := .bool _) rfl rfl ?_
          exact ⟨(some (⟨g316, 0, none⟩ : Addr)), 0, 0, eR (eT2 rfl (eB (z_c_spec_MergeRows_325 a na hbda hlea b nb hbdb hleb h18 hq28 hq29 hq30 hq31 hq32 hq33 i k o n41 c41 hi50 hl51 hq53 h61 hq309 hq310 h315))), (SlO.eqv ((hO320).down (by omega)) (z_c_spec_MergeRows_324 a na hbda hlea b nb hbdb hleb h18 hq28 hq29 hq30 hq31 hq32 hq33 i k o n41 c41 hi50 hl51 hq53 h61 hq309 hq310 h315)), hB322⟩
        · have hq326 := rows_len h315
          have hq327 := totL_len4 _ h315
          refine W.skip ?_
          refine W.seq ?_
          refine W.regS (SR.q' (r_mv (v := .slice _ _ _) rfl) <| SR.q' (r_as (v := .slice _ _ _) rfl) <| SR.q' (r_as (v := .bool true) rfl) <| SR.nil ?_)
          refine W.ret ?_
          refine ret2 rfl (v := .slice _ _ _) (v' := .bool _) rfl rfl ?_
          exact ⟨A41, n41, c41, eR (eT2 rfl (eB (z_c_spec_MergeRows_329 a na hbda hlea b nb hbdb hleb h18 hq28 hq29 hq30 hq31 hq32 hq33 i k o n41 c41 hi50 hl51 hq53 h61 hq309 hq310 h315 hq326 hq327))), (SlO.eqv ((((hO49).lo hk58).lo hk312).down (by omega)) (z_c_spec_MergeRows_328 a na hbda hlea b nb hbdb hleb h18 hq28 hq29 hq30 hq31 hq32 hq33 i k o n41 c41 hi50 hl51 hq53 h61 hq309 hq310 h315 hq326 hq327)), hB314⟩

theorem z_c_impl_MergeRows_19 (a : List LibRow) (na : Nat) (hbda : (na : Int) ≤ 9223372036854775807) (hlea : na = a.length) (b : List LibRow) (nb : Nat) (hbdb : (nb : Int) ≤ 9223372036854775807) (hleb : nb = b.length) (h18 : (¬ (RowsOK a)) ∨ (¬ (RowsOK b))) : ([] : List LibRow) = (mrg a b).getD [] := by
  first | (rw [show mrg a b = none from by first | exact mrg_or ‹_› | exact mrg_noM (mrg_fold (j := j) ‹RowsOK a› ‹RowsOK b› (by omega)) ‹_›]; rfl) | (rw [mrg_yes ‹RowsOK a› ‹RowsOK b› (mrg_fold (j := j) ‹RowsOK a› ‹RowsOK b› (by omega)) ‹_›]; rfl)
theorem z_c_impl_MergeRows_20 (a : List LibRow) (na : Nat) (hbda : (na : Int) ≤ 9223372036854775807) (hlea : na = a.length) (b : List LibRow) (nb : Nat) (hbdb : (nb : Int) ≤ 9223372036854775807) (hleb : nb = b.length) (h18 : (¬ (RowsOK a)) ∨ (¬ (RowsOK b))) : false = (mrg a b).isSome := by
  first | (rw [show mrg a b = none from by first | exact mrg_or ‹_› | exact mrg_noM (mrg_fold (j := j) ‹RowsOK a› ‹RowsOK b› (by omega)) ‹_›]; rfl) | (rw [mrg_yes ‹RowsOK a› ‹RowsOK b› (mrg_fold (j := j) ‹RowsOK a› ‹RowsOK b› (by omega)) ‹_›]; rfl)
theorem z_c_impl_MergeRows_38 (a : List LibRow) (na : Nat) (hbda : (na : Int) ≤ 9223372036854775807) (hlea : na = a.length) (b : List LibRow) (nb : Nat) (hbdb : (nb : Int) ≤ 9223372036854775807) (hleb : nb = b.length) (h18 : ¬ ((¬ (RowsOK a)) ∨ (¬ (RowsOK b)))) (hq21 : RowsOK a) (hq22 : RowsOK b) (hq23 : a.length ≤ 12) (hq24 : (totL a).length = 4) (hq25 : b.length ≤ 12) (hq26 : (totL b).length = 4) (n30 : Nat) (hl35 : n30 = (a).length) (hl36 : (n30 : Int) ≤ 9223372036854775807) : 0 ≤ nb := by
  omega
theorem z_c_impl_MergeRows_39 (a : List LibRow) (na : Nat) (hbda : (na : Int) ≤ 9223372036854775807) (hlea : na = a.length) (b : List LibRow) (nb : Nat) (hbdb : (nb : Int) ≤ 9223372036854775807) (hleb : nb = b.length) (h18 : ¬ ((¬ (RowsOK a)) ∨ (¬ (RowsOK b)))) (hq21 : RowsOK a) (hq22 : RowsOK b) (hq23 : a.length ≤ 12) (hq24 : (totL a).length = 4) (hq25 : b.length ≤ 12) (hq26 : (totL b).length = 4) (n30 : Nat) (hl35 : n30 = (a).length) (hl36 : (n30 : Int) ≤ 9223372036854775807) : a = (b.take 0).foldl ins a := by
  rfl
theorem z_c_impl_MergeRows_69 (a : List LibRow) (na : Nat) (hbda : (na : Int) ≤ 9223372036854775807) (hlea : na = a.length) (b : List LibRow) (nb : Nat) (hbdb : (nb : Int) ≤ 9223372036854775807) (hleb : nb = b.length) (h18 : ¬ ((¬ (RowsOK a)) ∨ (¬ (RowsOK b)))) (hq21 : RowsOK a) (hq22 : RowsOK b) (hq23 : a.length ≤ 12) (hq24 : (totL a).length = 4) (hq25 : b.length ≤ 12) (hq26 : (totL b).length = 4) (n30 : Nat) (hl35 : n30 = (a).length) (hl36 : (n30 : Int) ≤ 9223372036854775807) (j : Nat) (n37 : Nat) (c37 : Nat) (hi46 : j ≤ nb) (hl47 : n37 = ((b.take j).foldl ins a).length) (hq49 : ((b.take j).foldl ins a).length ≤ a.length + b.length) (h50 : (j : Int) < (nb : Int)) (hx52 : b[j]? = some (gt b j)) (hq53 : ((1 : Int) ≤ (gt b j).Month ∧ (gt b j).Month ≤ 1200) ∧ ((0 : Int) ≤ (gt b j).Lent ∧ (gt b j).Lent ≤ 9999) ∧ ((0 : Int) ≤ (gt b j).Copied ∧ (gt b j).Copied ≤ 9999) ∧ ((0 : Int) ≤ (gt b j).Given ∧ (gt b j).Given ≤ 999) ∧ ((0 : Int) ≤ (gt b j).Fines ∧ (gt b j).Fines ≤ 99999)) : 0 ≤ ((b.take j).foldl ins a).length ∧ LtTo ((b.take j).foldl ins a) (gt b j).Month 0 := by
  exact ⟨Nat.zero_le _, LtTo.zero⟩
theorem z_c_impl_MergeRows_96 (a : List LibRow) (na : Nat) (hbda : (na : Int) ≤ 9223372036854775807) (hlea : na = a.length) (b : List LibRow) (nb : Nat) (hbdb : (nb : Int) ≤ 9223372036854775807) (hleb : nb = b.length) (h18 : ¬ ((¬ (RowsOK a)) ∨ (¬ (RowsOK b)))) (hq21 : RowsOK a) (hq22 : RowsOK b) (hq23 : a.length ≤ 12) (hq24 : (totL a).length = 4) (hq25 : b.length ≤ 12) (hq26 : (totL b).length = 4) (n30 : Nat) (hl35 : n30 = (a).length) (hl36 : (n30 : Int) ≤ 9223372036854775807) (j : Nat) (n37 : Nat) (c37 : Nat) (hi46 : j ≤ nb) (hl47 : n37 = ((b.take j).foldl ins a).length) (hq49 : ((b.take j).foldl ins a).length ≤ a.length + b.length) (h50 : (j : Int) < (nb : Int)) (hx52 : b[j]? = some (gt b j)) (hq53 : ((1 : Int) ≤ (gt b j).Month ∧ (gt b j).Month ≤ 1200) ∧ ((0 : Int) ≤ (gt b j).Lent ∧ (gt b j).Lent ≤ 9999) ∧ ((0 : Int) ≤ (gt b j).Copied ∧ (gt b j).Copied ≤ 9999) ∧ ((0 : Int) ≤ (gt b j).Given ∧ (gt b j).Given ≤ 999) ∧ ((0 : Int) ≤ (gt b j).Fines ∧ (gt b j).Fines ≤ 99999)) (k : Nat) (hi77 : k ≤ ((b.take j).foldl ins a).length ∧ LtTo ((b.take j).foldl ins a) (gt b j).Month k) (h93 : ((k : Int) < (n37 : Int)) ∧ (((gt ((b.take j).foldl ins a) k).Month) < ((gt b j).Month))) (hq94 : (k : Int) < (n37 : Int)) (hq95 : ((gt ((b.take j).foldl ins a) k).Month) < ((gt b j).Month)) : k + 1 ≤ ((b.take j).foldl ins a).length ∧ LtTo ((b.take j).foldl ins a) (gt b j).Month (k + 1) := by
  exact ⟨by omega, LtTo.next (And.right ‹_ ∧ LtTo _ _ _›) (gt_get (by omega)) (And.right ‹_ ∧ _ < _›)⟩
theorem z_c_impl_MergeRows_97 (a : List LibRow) (na : Nat) (hbda : (na : Int) ≤ 9223372036854775807) (hlea : na = a.length) (b : List LibRow) (nb : Nat) (hbdb : (nb : Int) ≤ 9223372036854775807) (hleb : nb = b.length) (h18 : ¬ ((¬ (RowsOK a)) ∨ (¬ (RowsOK b)))) (hq21 : RowsOK a) (hq22 : RowsOK b) (hq23 : a.length ≤ 12) (hq24 : (totL a).length = 4) (hq25 : b.length ≤ 12) (hq26 : (totL b).length = 4) (n30 : Nat) (hl35 : n30 = (a).length) (hl36 : (n30 : Int) ≤ 9223372036854775807) (j : Nat) (n37 : Nat) (c37 : Nat) (hi46 : j ≤ nb) (hl47 : n37 = ((b.take j).foldl ins a).length) (hq49 : ((b.take j).foldl ins a).length ≤ a.length + b.length) (h50 : (j : Int) < (nb : Int)) (hx52 : b[j]? = some (gt b j)) (hq53 : ((1 : Int) ≤ (gt b j).Month ∧ (gt b j).Month ≤ 1200) ∧ ((0 : Int) ≤ (gt b j).Lent ∧ (gt b j).Lent ≤ 9999) ∧ ((0 : Int) ≤ (gt b j).Copied ∧ (gt b j).Copied ≤ 9999) ∧ ((0 : Int) ≤ (gt b j).Given ∧ (gt b j).Given ≤ 999) ∧ ((0 : Int) ≤ (gt b j).Fines ∧ (gt b j).Fines ≤ 99999)) (k : Nat) (hi77 : k ≤ ((b.take j).foldl ins a).length ∧ LtTo ((b.take j).foldl ins a) (gt b j).Month k) (h93 : ((k : Int) < (n37 : Int)) ∧ (((gt ((b.take j).foldl ins a) k).Month) < ((gt b j).Month))) (hq94 : (k : Int) < (n37 : Int)) (hq95 : ((gt ((b.take j).foldl ins a) k).Month) < ((gt b j).Month)) : ((b.take j).foldl ins a).length - (k + 1) < ((b.take j).foldl ins a).length - k := by
  omega
theorem z_c_impl_MergeRows_134 (a : List LibRow) (na : Nat) (hbda : (na : Int) ≤ 9223372036854775807) (hlea : na = a.length) (b : List LibRow) (nb : Nat) (hbdb : (nb : Int) ≤ 9223372036854775807) (hleb : nb = b.length) (h18 : ¬ ((¬ (RowsOK a)) ∨ (¬ (RowsOK b)))) (hq21 : RowsOK a) (hq22 : RowsOK b) (hq23 : a.length ≤ 12) (hq24 : (totL a).length = 4) (hq25 : b.length ≤ 12) (hq26 : (totL b).length = 4) (n30 : Nat) (hl35 : n30 = (a).length) (hl36 : (n30 : Int) ≤ 9223372036854775807) (j : Nat) (n37 : Nat) (c37 : Nat) (hi46 : j ≤ nb) (hl47 : n37 = ((b.take j).foldl ins a).length) (hq49 : ((b.take j).foldl ins a).length ≤ a.length + b.length) (h50 : (j : Int) < (nb : Int)) (hx52 : b[j]? = some (gt b j)) (hq53 : ((1 : Int) ≤ (gt b j).Month ∧ (gt b j).Month ≤ 1200) ∧ ((0 : Int) ≤ (gt b j).Lent ∧ (gt b j).Lent ≤ 9999) ∧ ((0 : Int) ≤ (gt b j).Copied ∧ (gt b j).Copied ≤ 9999) ∧ ((0 : Int) ≤ (gt b j).Given ∧ (gt b j).Given ≤ 999) ∧ ((0 : Int) ≤ (gt b j).Fines ∧ (gt b j).Fines ≤ 99999)) (k : Nat) (hi77 : k ≤ ((b.take j).foldl ins a).length ∧ LtTo ((b.take j).foldl ins a) (gt b j).Month k) (h93 : ¬ (((k : Int) < (n37 : Int)) ∧ (((gt ((b.take j).foldl ins a) k).Month) < ((gt b j).Month)))) (h112 : ((k : Int) = (n37 : Int)) ∨ (¬ (((gt ((b.take j).foldl ins a) k).Month) = ((gt b j).Month)))) (n124 : Nat) (hl132 : n124 = (((b.take j).foldl ins a).take (k : Int).toNat ++ ([(gt b j)] : List LibRow) ++ ((b.take j).foldl ins a).drop (k : Int).toNat).length) (hl133 : (n124 : Int) ≤ 9223372036854775807) : ((b.take j).foldl ins a).take (k : Int).toNat ++ ([(gt b j)] : List LibRow) ++ ((b.take j).foldl ins a).drop (k : Int).toNat = (b.take (j + 1)).foldl ins a := by
  try simp only [Int.toNat_natCast, List.set_set]
  rw [fold_next ‹b[j]? = some _›]
  first | exact ins_A (And.right ‹_ ∧ LtTo _ _ _›) rfl (by omega) (by rw [← ‹_ = (_ : List LibRow).length›]; assumption) (by rw [← ‹_ = (_ : List LibRow).length›]; assumption) | exact ins_B (And.right ‹_ ∧ LtTo _ _ _›) (by omega) (by rw [← ‹_ = (_ : List LibRow).length›]; assumption) (by rw [← ‹_ = (_ : List LibRow).length›]; assumption)
theorem z_c_impl_MergeRows_135 (a : List LibRow) (na : Nat) (hbda : (na : Int) ≤ 9223372036854775807) (hlea : na = a.length) (b : List LibRow) (nb : Nat) (hbdb : (nb : Int) ≤ 9223372036854775807) (hleb : nb = b.length) (h18 : ¬ ((¬ (RowsOK a)) ∨ (¬ (RowsOK b)))) (hq21 : RowsOK a) (hq22 : RowsOK b) (hq23 : a.length ≤ 12) (hq24 : (totL a).length = 4) (hq25 : b.length ≤ 12) (hq26 : (totL b).length = 4) (n30 : Nat) (hl35 : n30 = (a).length) (hl36 : (n30 : Int) ≤ 9223372036854775807) (j : Nat) (n37 : Nat) (c37 : Nat) (hi46 : j ≤ nb) (hl47 : n37 = ((b.take j).foldl ins a).length) (hq49 : ((b.take j).foldl ins a).length ≤ a.length + b.length) (h50 : (j : Int) < (nb : Int)) (hx52 : b[j]? = some (gt b j)) (hq53 : ((1 : Int) ≤ (gt b j).Month ∧ (gt b j).Month ≤ 1200) ∧ ((0 : Int) ≤ (gt b j).Lent ∧ (gt b j).Lent ≤ 9999) ∧ ((0 : Int) ≤ (gt b j).Copied ∧ (gt b j).Copied ≤ 9999) ∧ ((0 : Int) ≤ (gt b j).Given ∧ (gt b j).Given ≤ 999) ∧ ((0 : Int) ≤ (gt b j).Fines ∧ (gt b j).Fines ≤ 99999)) (k : Nat) (hi77 : k ≤ ((b.take j).foldl ins a).length ∧ LtTo ((b.take j).foldl ins a) (gt b j).Month k) (h93 : ¬ (((k : Int) < (n37 : Int)) ∧ (((gt ((b.take j).foldl ins a) k).Month) < ((gt b j).Month)))) (h112 : ((k : Int) = (n37 : Int)) ∨ (¬ (((gt ((b.take j).foldl ins a) k).Month) = ((gt b j).Month)))) (n124 : Nat) (hl132 : n124 = (((b.take j).foldl ins a).take (k : Int).toNat ++ ([(gt b j)] : List LibRow) ++ ((b.take j).foldl ins a).drop (k : Int).toNat).length) (hl133 : (n124 : Int) ≤ 9223372036854775807) : j + 1 ≤ nb := by
  omega
theorem z_c_impl_MergeRows_136 (a : List LibRow) (na : Nat) (hbda : (na : Int) ≤ 9223372036854775807) (hlea : na = a.length) (b : List LibRow) (nb : Nat) (hbdb : (nb : Int) ≤ 9223372036854775807) (hleb : nb = b.length) (h18 : ¬ ((¬ (RowsOK a)) ∨ (¬ (RowsOK b)))) (hq21 : RowsOK a) (hq22 : RowsOK b) (hq23 : a.length ≤ 12) (hq24 : (totL a).length = 4) (hq25 : b.length ≤ 12) (hq26 : (totL b).length = 4) (n30 : Nat) (hl35 : n30 = (a).length) (hl36 : (n30 : Int) ≤ 9223372036854775807) (j : Nat) (n37 : Nat) (c37 : Nat) (hi46 : j ≤ nb) (hl47 : n37 = ((b.take j).foldl ins a).length) (hq49 : ((b.take j).foldl ins a).length ≤ a.length + b.length) (h50 : (j : Int) < (nb : Int)) (hx52 : b[j]? = some (gt b j)) (hq53 : ((1 : Int) ≤ (gt b j).Month ∧ (gt b j).Month ≤ 1200) ∧ ((0 : Int) ≤ (gt b j).Lent ∧ (gt b j).Lent ≤ 9999) ∧ ((0 : Int) ≤ (gt b j).Copied ∧ (gt b j).Copied ≤ 9999) ∧ ((0 : Int) ≤ (gt b j).Given ∧ (gt b j).Given ≤ 999) ∧ ((0 : Int) ≤ (gt b j).Fines ∧ (gt b j).Fines ≤ 99999)) (k : Nat) (hi77 : k ≤ ((b.take j).foldl ins a).length ∧ LtTo ((b.take j).foldl ins a) (gt b j).Month k) (h93 : ¬ (((k : Int) < (n37 : Int)) ∧ (((gt ((b.take j).foldl ins a) k).Month) < ((gt b j).Month)))) (h112 : ((k : Int) = (n37 : Int)) ∨ (¬ (((gt ((b.take j).foldl ins a) k).Month) = ((gt b j).Month)))) (n124 : Nat) (hl132 : n124 = (((b.take j).foldl ins a).take (k : Int).toNat ++ ([(gt b j)] : List LibRow) ++ ((b.take j).foldl ins a).drop (k : Int).toNat).length) (hl133 : (n124 : Int) ≤ 9223372036854775807) : nb - (j + 1) < nb - j := by
  omega
theorem z_c_impl_MergeRows_265 (a : List LibRow) (na : Nat) (hbda : (na : Int) ≤ 9223372036854775807) (hlea : na = a.length) (b : List LibRow) (nb : Nat) (hbdb : (nb : Int) ≤ 9223372036854775807) (hleb : nb = b.length) (h18 : ¬ ((¬ (RowsOK a)) ∨ (¬ (RowsOK b)))) (hq21 : RowsOK a) (hq22 : RowsOK b) (hq23 : a.length ≤ 12) (hq24 : (totL a).length = 4) (hq25 : b.length ≤ 12) (hq26 : (totL b).length = 4) (n30 : Nat) (hl35 : n30 = (a).length) (hl36 : (n30 : Int) ≤ 9223372036854775807) (j : Nat) (n37 : Nat) (c37 : Nat) (hi46 : j ≤ nb) (hl47 : n37 = ((b.take j).foldl ins a).length) (hq49 : ((b.take j).foldl ins a).length ≤ a.length + b.length) (h50 : (j : Int) < (nb : Int)) (hx52 : b[j]? = some (gt b j)) (hq53 : ((1 : Int) ≤ (gt b j).Month ∧ (gt b j).Month ≤ 1200) ∧ ((0 : Int) ≤ (gt b j).Lent ∧ (gt b j).Lent ≤ 9999) ∧ ((0 : Int) ≤ (gt b j).Copied ∧ (gt b j).Copied ≤ 9999) ∧ ((0 : Int) ≤ (gt b j).Given ∧ (gt b j).Given ≤ 999) ∧ ((0 : Int) ≤ (gt b j).Fines ∧ (gt b j).Fines ≤ 99999)) (k : Nat) (hi77 : k ≤ ((b.take j).foldl ins a).length ∧ LtTo ((b.take j).foldl ins a) (gt b j).Month k) (h93 : ¬ (((k : Int) < (n37 : Int)) ∧ (((gt ((b.take j).foldl ins a) k).Month) < ((gt b j).Month)))) (h112 : ¬ (((k : Int) = (n37 : Int)) ∨ (¬ (((gt ((b.take j).foldl ins a) k).Month) = ((gt b j).Month))))) (hq137 : ¬ ((k : Int) = (n37 : Int))) (hq138 : ((gt ((b.take j).foldl ins a) k).Month) = ((gt b j).Month)) (hx158 : ((b.take j).foldl ins a)[k]? = some (gt ((b.take j).foldl ins a) k)) (hq159 : ((0 : Int) ≤ (gt ((b.take j).foldl ins a) k).Lent ∧ (gt ((b.take j).foldl ins a) k).Lent ≤ 1299987) ∧ ((0 : Int) ≤ (gt ((b.take j).foldl ins a) k).Copied ∧ (gt ((b.take j).foldl ins a) k).Copied ≤ 1299987) ∧ ((0 : Int) ≤ (gt ((b.take j).foldl ins a) k).Given ∧ (gt ((b.take j).foldl ins a) k).Given ≤ 1299987) ∧ ((0 : Int) ≤ (gt ((b.take j).foldl ins a) k).Fines ∧ (gt ((b.take j).foldl ins a) k).Fines ≤ 1299987)) (hx167 : (((b.take j).foldl ins a).set ((k : Int).toNat) ({ (gt ((b.take j).foldl ins a) k) with Lent := ((gt ((b.take j).foldl ins a) k).Lent) + ((gt b j).Lent) }))[(k : Int).toNat]? = some ({ (gt ((b.take j).foldl ins a) k) with Lent := ((gt ((b.take j).foldl ins a) k).Lent) + ((gt b j).Lent) })) (hx197 : ((((b.take j).foldl ins a).set ((k : Int).toNat) ({ (gt ((b.take j).foldl ins a) k) with Lent := ((gt ((b.take j).foldl ins a) k).Lent) + ((gt b j).Lent) })).set ((k : Int).toNat) ({ ({ (gt ((b.take j).foldl ins a) k) with Lent := ((gt ((b.take j).foldl ins a) k).Lent) + ((gt b j).Lent) }) with Copied := ((gt ((b.take j).foldl ins a) k).Copied) + ((gt b j).Copied) }))[(k : Int).toNat]? = some ({ ({ (gt ((b.take j).foldl ins a) k) with Lent := ((gt ((b.take j).foldl ins a) k).Lent) + ((gt b j).Lent) }) with Copied := ((gt ((b.take j).foldl ins a) k).Copied) + ((gt b j).Copied) })) (hx227 : (((((b.take j).foldl ins a).set ((k : Int).toNat) ({ (gt ((b.take j).foldl ins a) k) with Lent := ((gt ((b.take j).foldl ins a) k).Lent) + ((gt b j).Lent) })).set ((k : Int).toNat) ({ ({ (gt ((b.take j).foldl ins a) k) with Lent := ((gt ((b.take j).foldl ins a) k).Lent) + ((gt b j).Lent) }) with Copied := ((gt ((b.take j).foldl ins a) k).Copied) + ((gt b j).Copied) })).set ((k : Int).toNat) ({ ({ ({ (gt ((b.take j).foldl ins a) k) with Lent := ((gt ((b.take j).foldl ins a) k).Lent) + ((gt b j).Lent) }) with Copied := ((gt ((b.take j).foldl ins a) k).Copied) + ((gt b j).Copied) }) with Given := ((gt ((b.take j).foldl ins a) k).Given) + ((gt b j).Given) }))[(k : Int).toNat]? = some ({ ({ ({ (gt ((b.take j).foldl ins a) k) with Lent := ((gt ((b.take j).foldl ins a) k).Lent) + ((gt b j).Lent) }) with Copied := ((gt ((b.take j).foldl ins a) k).Copied) + ((gt b j).Copied) }) with Given := ((gt ((b.take j).foldl ins a) k).Given) + ((gt b j).Given) })) (hx257 : ((((((b.take j).foldl ins a).set ((k : Int).toNat) ({ (gt ((b.take j).foldl ins a) k) with Lent := ((gt ((b.take j).foldl ins a) k).Lent) + ((gt b j).Lent) })).set ((k : Int).toNat) ({ ({ (gt ((b.take j).foldl ins a) k) with Lent := ((gt ((b.take j).foldl ins a) k).Lent) + ((gt b j).Lent) }) with Copied := ((gt ((b.take j).foldl ins a) k).Copied) + ((gt b j).Copied) })).set ((k : Int).toNat) ({ ({ ({ (gt ((b.take j).foldl ins a) k) with Lent := ((gt ((b.take j).foldl ins a) k).Lent) + ((gt b j).Lent) }) with Copied := ((gt ((b.take j).foldl ins a) k).Copied) + ((gt b j).Copied) }) with Given := ((gt ((b.take j).foldl ins a) k).Given) + ((gt b j).Given) })).set ((k : Int).toNat) ({ ({ ({ ({ (gt ((b.take j).foldl ins a) k) with Lent := ((gt ((b.take j).foldl ins a) k).Lent) + ((gt b j).Lent) }) with Copied := ((gt ((b.take j).foldl ins a) k).Copied) + ((gt b j).Copied) }) with Given := ((gt ((b.take j).foldl ins a) k).Given) + ((gt b j).Given) }) with Fines := ((gt ((b.take j).foldl ins a) k).Fines) + ((gt b j).Fines) }))[(k : Int).toNat]? = some ({ ({ ({ ({ (gt ((b.take j).foldl ins a) k) with Lent := ((gt ((b.take j).foldl ins a) k).Lent) + ((gt b j).Lent) }) with Copied := ((gt ((b.take j).foldl ins a) k).Copied) + ((gt b j).Copied) }) with Given := ((gt ((b.take j).foldl ins a) k).Given) + ((gt b j).Given) }) with Fines := ((gt ((b.take j).foldl ins a) k).Fines) + ((gt b j).Fines) })) : (((((b.take j).foldl ins a).set ((k : Int).toNat) ({ (gt ((b.take j).foldl ins a) k) with Lent := ((gt ((b.take j).foldl ins a) k).Lent) + ((gt b j).Lent) })).set ((k : Int).toNat) ({ ({ (gt ((b.take j).foldl ins a) k) with Lent := ((gt ((b.take j).foldl ins a) k).Lent) + ((gt b j).Lent) }) with Copied := ((gt ((b.take j).foldl ins a) k).Copied) + ((gt b j).Copied) })).set ((k : Int).toNat) ({ ({ ({ (gt ((b.take j).foldl ins a) k) with Lent := ((gt ((b.take j).foldl ins a) k).Lent) + ((gt b j).Lent) }) with Copied := ((gt ((b.take j).foldl ins a) k).Copied) + ((gt b j).Copied) }) with Given := ((gt ((b.take j).foldl ins a) k).Given) + ((gt b j).Given) })).set ((k : Int).toNat) ({ ({ ({ ({ (gt ((b.take j).foldl ins a) k) with Lent := ((gt ((b.take j).foldl ins a) k).Lent) + ((gt b j).Lent) }) with Copied := ((gt ((b.take j).foldl ins a) k).Copied) + ((gt b j).Copied) }) with Given := ((gt ((b.take j).foldl ins a) k).Given) + ((gt b j).Given) }) with Fines := ((gt ((b.take j).foldl ins a) k).Fines) + ((gt b j).Fines) }) = (b.take (j + 1)).foldl ins a := by
  try simp only [Int.toNat_natCast, List.set_set]
  rw [fold_next ‹b[j]? = some _›]
  first | exact ins_A (And.right ‹_ ∧ LtTo _ _ _›) rfl (by omega) (by rw [← ‹_ = (_ : List LibRow).length›]; assumption) (by rw [← ‹_ = (_ : List LibRow).length›]; assumption) | exact ins_B (And.right ‹_ ∧ LtTo _ _ _›) (by omega) (by rw [← ‹_ = (_ : List LibRow).length›]; assumption) (by rw [← ‹_ = (_ : List LibRow).length›]; assumption)
theorem z_c_impl_MergeRows_266 (a : List LibRow) (na : Nat) (hbda : (na : Int) ≤ 9223372036854775807) (hlea : na = a.length) (b : List LibRow) (nb : Nat) (hbdb : (nb : Int) ≤ 9223372036854775807) (hleb : nb = b.length) (h18 : ¬ ((¬ (RowsOK a)) ∨ (¬ (RowsOK b)))) (hq21 : RowsOK a) (hq22 : RowsOK b) (hq23 : a.length ≤ 12) (hq24 : (totL a).length = 4) (hq25 : b.length ≤ 12) (hq26 : (totL b).length = 4) (n30 : Nat) (hl35 : n30 = (a).length) (hl36 : (n30 : Int) ≤ 9223372036854775807) (j : Nat) (n37 : Nat) (c37 : Nat) (hi46 : j ≤ nb) (hl47 : n37 = ((b.take j).foldl ins a).length) (hq49 : ((b.take j).foldl ins a).length ≤ a.length + b.length) (h50 : (j : Int) < (nb : Int)) (hx52 : b[j]? = some (gt b j)) (hq53 : ((1 : Int) ≤ (gt b j).Month ∧ (gt b j).Month ≤ 1200) ∧ ((0 : Int) ≤ (gt b j).Lent ∧ (gt b j).Lent ≤ 9999) ∧ ((0 : Int) ≤ (gt b j).Copied ∧ (gt b j).Copied ≤ 9999) ∧ ((0 : Int) ≤ (gt b j).Given ∧ (gt b j).Given ≤ 999) ∧ ((0 : Int) ≤ (gt b j).Fines ∧ (gt b j).Fines ≤ 99999)) (k : Nat) (hi77 : k ≤ ((b.take j).foldl ins a).length ∧ LtTo ((b.take j).foldl ins a) (gt b j).Month k) (h93 : ¬ (((k : Int) < (n37 : Int)) ∧ (((gt ((b.take j).foldl ins a) k).Month) < ((gt b j).Month)))) (h112 : ¬ (((k : Int) = (n37 : Int)) ∨ (¬ (((gt ((b.take j).foldl ins a) k).Month) = ((gt b j).Month))))) (hq137 : ¬ ((k : Int) = (n37 : Int))) (hq138 : ((gt ((b.take j).foldl ins a) k).Month) = ((gt b j).Month)) (hx158 : ((b.take j).foldl ins a)[k]? = some (gt ((b.take j).foldl ins a) k)) (hq159 : ((0 : Int) ≤ (gt ((b.take j).foldl ins a) k).Lent ∧ (gt ((b.take j).foldl ins a) k).Lent ≤ 1299987) ∧ ((0 : Int) ≤ (gt ((b.take j).foldl ins a) k).Copied ∧ (gt ((b.take j).foldl ins a) k).Copied ≤ 1299987) ∧ ((0 : Int) ≤ (gt ((b.take j).foldl ins a) k).Given ∧ (gt ((b.take j).foldl ins a) k).Given ≤ 1299987) ∧ ((0 : Int) ≤ (gt ((b.take j).foldl ins a) k).Fines ∧ (gt ((b.take j).foldl ins a) k).Fines ≤ 1299987)) (hx167 : (((b.take j).foldl ins a).set ((k : Int).toNat) ({ (gt ((b.take j).foldl ins a) k) with Lent := ((gt ((b.take j).foldl ins a) k).Lent) + ((gt b j).Lent) }))[(k : Int).toNat]? = some ({ (gt ((b.take j).foldl ins a) k) with Lent := ((gt ((b.take j).foldl ins a) k).Lent) + ((gt b j).Lent) })) (hx197 : ((((b.take j).foldl ins a).set ((k : Int).toNat) ({ (gt ((b.take j).foldl ins a) k) with Lent := ((gt ((b.take j).foldl ins a) k).Lent) + ((gt b j).Lent) })).set ((k : Int).toNat) ({ ({ (gt ((b.take j).foldl ins a) k) with Lent := ((gt ((b.take j).foldl ins a) k).Lent) + ((gt b j).Lent) }) with Copied := ((gt ((b.take j).foldl ins a) k).Copied) + ((gt b j).Copied) }))[(k : Int).toNat]? = some ({ ({ (gt ((b.take j).foldl ins a) k) with Lent := ((gt ((b.take j).foldl ins a) k).Lent) + ((gt b j).Lent) }) with Copied := ((gt ((b.take j).foldl ins a) k).Copied) + ((gt b j).Copied) })) (hx227 : (((((b.take j).foldl ins a).set ((k : Int).toNat) ({ (gt ((b.take j).foldl ins a) k) with Lent := ((gt ((b.take j).foldl ins a) k).Lent) + ((gt b j).Lent) })).set ((k : Int).toNat) ({ ({ (gt ((b.take j).foldl ins a) k) with Lent := ((gt ((b.take j).foldl ins a) k).Lent) + ((gt b j).Lent) }) with Copied := ((gt ((b.take j).foldl ins a) k).Copied) + ((gt b j).Copied) })).set ((k : Int).toNat) ({ ({ ({ (gt ((b.take j).foldl ins a) k) with Lent := ((gt ((b.take j).foldl ins a) k).Lent) + ((gt b j).Lent) }) with Copied := ((gt ((b.take j).foldl ins a) k).Copied) + ((gt b j).Copied) }) with Given := ((gt ((b.take j).foldl ins a) k).Given) + ((gt b j).Given) }))[(k : Int).toNat]? = some ({ ({ ({ (gt ((b.take j).foldl ins a) k) with Lent := ((gt ((b.take j).foldl ins a) k).Lent) + ((gt b j).Lent) }) with Copied := ((gt ((b.take j).foldl ins a) k).Copied) + ((gt b j).Copied) }) with Given := ((gt ((b.take j).foldl ins a) k).Given) + ((gt b j).Given) })) (hx257 : ((((((b.take j).foldl ins a).set ((k : Int).toNat) ({ (gt ((b.take j).foldl ins a) k) with Lent := ((gt ((b.take j).foldl ins a) k).Lent) + ((gt b j).Lent) })).set ((k : Int).toNat) ({ ({ (gt ((b.take j).foldl ins a) k) with Lent := ((gt ((b.take j).foldl ins a) k).Lent) + ((gt b j).Lent) }) with Copied := ((gt ((b.take j).foldl ins a) k).Copied) + ((gt b j).Copied) })).set ((k : Int).toNat) ({ ({ ({ (gt ((b.take j).foldl ins a) k) with Lent := ((gt ((b.take j).foldl ins a) k).Lent) + ((gt b j).Lent) }) with Copied := ((gt ((b.take j).foldl ins a) k).Copied) + ((gt b j).Copied) }) with Given := ((gt ((b.take j).foldl ins a) k).Given) + ((gt b j).Given) })).set ((k : Int).toNat) ({ ({ ({ ({ (gt ((b.take j).foldl ins a) k) with Lent := ((gt ((b.take j).foldl ins a) k).Lent) + ((gt b j).Lent) }) with Copied := ((gt ((b.take j).foldl ins a) k).Copied) + ((gt b j).Copied) }) with Given := ((gt ((b.take j).foldl ins a) k).Given) + ((gt b j).Given) }) with Fines := ((gt ((b.take j).foldl ins a) k).Fines) + ((gt b j).Fines) }))[(k : Int).toNat]? = some ({ ({ ({ ({ (gt ((b.take j).foldl ins a) k) with Lent := ((gt ((b.take j).foldl ins a) k).Lent) + ((gt b j).Lent) }) with Copied := ((gt ((b.take j).foldl ins a) k).Copied) + ((gt b j).Copied) }) with Given := ((gt ((b.take j).foldl ins a) k).Given) + ((gt b j).Given) }) with Fines := ((gt ((b.take j).foldl ins a) k).Fines) + ((gt b j).Fines) })) : j + 1 ≤ nb := by
  omega
theorem z_c_impl_MergeRows_267 (a : List LibRow) (na : Nat) (hbda : (na : Int) ≤ 9223372036854775807) (hlea : na = a.length) (b : List LibRow) (nb : Nat) (hbdb : (nb : Int) ≤ 9223372036854775807) (hleb : nb = b.length) (h18 : ¬ ((¬ (RowsOK a)) ∨ (¬ (RowsOK b)))) (hq21 : RowsOK a) (hq22 : RowsOK b) (hq23 : a.length ≤ 12) (hq24 : (totL a).length = 4) (hq25 : b.length ≤ 12) (hq26 : (totL b).length = 4) (n30 : Nat) (hl35 : n30 = (a).length) (hl36 : (n30 : Int) ≤ 9223372036854775807) (j : Nat) (n37 : Nat) (c37 : Nat) (hi46 : j ≤ nb) (hl47 : n37 = ((b.take j).foldl ins a).length) (hq49 : ((b.take j).foldl ins a).length ≤ a.length + b.length) (h50 : (j : Int) < (nb : Int)) (hx52 : b[j]? = some (gt b j)) (hq53 : ((1 : Int) ≤ (gt b j).Month ∧ (gt b j).Month ≤ 1200) ∧ ((0 : Int) ≤ (gt b j).Lent ∧ (gt b j).Lent ≤ 9999) ∧ ((0 : Int) ≤ (gt b j).Copied ∧ (gt b j).Copied ≤ 9999) ∧ ((0 : Int) ≤ (gt b j).Given ∧ (gt b j).Given ≤ 999) ∧ ((0 : Int) ≤ (gt b j).Fines ∧ (gt b j).Fines ≤ 99999)) (k : Nat) (hi77 : k ≤ ((b.take j).foldl ins a).length ∧ LtTo ((b.take j).foldl ins a) (gt b j).Month k) (h93 : ¬ (((k : Int) < (n37 : Int)) ∧ (((gt ((b.take j).foldl ins a) k).Month) < ((gt b j).Month)))) (h112 : ¬ (((k : Int) = (n37 : Int)) ∨ (¬ (((gt ((b.take j).foldl ins a) k).Month) = ((gt b j).Month))))) (hq137 : ¬ ((k : Int) = (n37 : Int))) (hq138 : ((gt ((b.take j).foldl ins a) k).Month) = ((gt b j).Month)) (hx158 : ((b.take j).foldl ins a)[k]? = some (gt ((b.take j).foldl ins a) k)) (hq159 : ((0 : Int) ≤ (gt ((b.take j).foldl ins a) k).Lent ∧ (gt ((b.take j).foldl ins a) k).Lent ≤ 1299987) ∧ ((0 : Int) ≤ (gt ((b.take j).foldl ins a) k).Copied ∧ (gt ((b.take j).foldl ins a) k).Copied ≤ 1299987) ∧ ((0 : Int) ≤ (gt ((b.take j).foldl ins a) k).Given ∧ (gt ((b.take j).foldl ins a) k).Given ≤ 1299987) ∧ ((0 : Int) ≤ (gt ((b.take j).foldl ins a) k).Fines ∧ (gt ((b.take j).foldl ins a) k).Fines ≤ 1299987)) (hx167 : (((b.take j).foldl ins a).set ((k : Int).toNat) ({ (gt ((b.take j).foldl ins a) k) with Lent := ((gt ((b.take j).foldl ins a) k).Lent) + ((gt b j).Lent) }))[(k : Int).toNat]? = some ({ (gt ((b.take j).foldl ins a) k) with Lent := ((gt ((b.take j).foldl ins a) k).Lent) + ((gt b j).Lent) })) (hx197 : ((((b.take j).foldl ins a).set ((k : Int).toNat) ({ (gt ((b.take j).foldl ins a) k) with Lent := ((gt ((b.take j).foldl ins a) k).Lent) + ((gt b j).Lent) })).set ((k : Int).toNat) ({ ({ (gt ((b.take j).foldl ins a) k) with Lent := ((gt ((b.take j).foldl ins a) k).Lent) + ((gt b j).Lent) }) with Copied := ((gt ((b.take j).foldl ins a) k).Copied) + ((gt b j).Copied) }))[(k : Int).toNat]? = some ({ ({ (gt ((b.take j).foldl ins a) k) with Lent := ((gt ((b.take j).foldl ins a) k).Lent) + ((gt b j).Lent) }) with Copied := ((gt ((b.take j).foldl ins a) k).Copied) + ((gt b j).Copied) })) (hx227 : (((((b.take j).foldl ins a).set ((k : Int).toNat) ({ (gt ((b.take j).foldl ins a) k) with Lent := ((gt ((b.take j).foldl ins a) k).Lent) + ((gt b j).Lent) })).set ((k : Int).toNat) ({ ({ (gt ((b.take j).foldl ins a) k) with Lent := ((gt ((b.take j).foldl ins a) k).Lent) + ((gt b j).Lent) }) with Copied := ((gt ((b.take j).foldl ins a) k).Copied) + ((gt b j).Copied) })).set ((k : Int).toNat) ({ ({ ({ (gt ((b.take j).foldl ins a) k) with Lent := ((gt ((b.take j).foldl ins a) k).Lent) + ((gt b j).Lent) }) with Copied := ((gt ((b.take j).foldl ins a) k).Copied) + ((gt b j).Copied) }) with Given := ((gt ((b.take j).foldl ins a) k).Given) + ((gt b j).Given) }))[(k : Int).toNat]? = some ({ ({ ({ (gt ((b.take j).foldl ins a) k) with Lent := ((gt ((b.take j).foldl ins a) k).Lent) + ((gt b j).Lent) }) with Copied := ((gt ((b.take j).foldl ins a) k).Copied) + ((gt b j).Copied) }) with Given := ((gt ((b.take j).foldl ins a) k).Given) + ((gt b j).Given) })) (hx257 : ((((((b.take j).foldl ins a).set ((k : Int).toNat) ({ (gt ((b.take j).foldl ins a) k) with Lent := ((gt ((b.take j).foldl ins a) k).Lent) + ((gt b j).Lent) })).set ((k : Int).toNat) ({ ({ (gt ((b.take j).foldl ins a) k) with Lent := ((gt ((b.take j).foldl ins a) k).Lent) + ((gt b j).Lent) }) with Copied := ((gt ((b.take j).foldl ins a) k).Copied) + ((gt b j).Copied) })).set ((k : Int).toNat) ({ ({ ({ (gt ((b.take j).foldl ins a) k) with Lent := ((gt ((b.take j).foldl ins a) k).Lent) + ((gt b j).Lent) }) with Copied := ((gt ((b.take j).foldl ins a) k).Copied) + ((gt b j).Copied) }) with Given := ((gt ((b.take j).foldl ins a) k).Given) + ((gt b j).Given) })).set ((k : Int).toNat) ({ ({ ({ ({ (gt ((b.take j).foldl ins a) k) with Lent := ((gt ((b.take j).foldl ins a) k).Lent) + ((gt b j).Lent) }) with Copied := ((gt ((b.take j).foldl ins a) k).Copied) + ((gt b j).Copied) }) with Given := ((gt ((b.take j).foldl ins a) k).Given) + ((gt b j).Given) }) with Fines := ((gt ((b.take j).foldl ins a) k).Fines) + ((gt b j).Fines) }))[(k : Int).toNat]? = some ({ ({ ({ ({ (gt ((b.take j).foldl ins a) k) with Lent := ((gt ((b.take j).foldl ins a) k).Lent) + ((gt b j).Lent) }) with Copied := ((gt ((b.take j).foldl ins a) k).Copied) + ((gt b j).Copied) }) with Given := ((gt ((b.take j).foldl ins a) k).Given) + ((gt b j).Given) }) with Fines := ((gt ((b.take j).foldl ins a) k).Fines) + ((gt b j).Fines) })) : nb - (j + 1) < nb - j := by
  omega
theorem z_c_impl_MergeRows_273 (a : List LibRow) (na : Nat) (hbda : (na : Int) ≤ 9223372036854775807) (hlea : na = a.length) (b : List LibRow) (nb : Nat) (hbdb : (nb : Int) ≤ 9223372036854775807) (hleb : nb = b.length) (h18 : ¬ ((¬ (RowsOK a)) ∨ (¬ (RowsOK b)))) (hq21 : RowsOK a) (hq22 : RowsOK b) (hq23 : a.length ≤ 12) (hq24 : (totL a).length = 4) (hq25 : b.length ≤ 12) (hq26 : (totL b).length = 4) (n30 : Nat) (hl35 : n30 = (a).length) (hl36 : (n30 : Int) ≤ 9223372036854775807) (j : Nat) (n37 : Nat) (c37 : Nat) (hi46 : j ≤ nb) (hl47 : n37 = ((b.take j).foldl ins a).length) (hq49 : ((b.take j).foldl ins a).length ≤ a.length + b.length) (h50 : ¬ ((j : Int) < (nb : Int))) (h272 : ¬ (RowsOK ((b.take j).foldl ins a))) : ([] : List LibRow) = (mrg a b).getD [] := by
  first | (rw [show mrg a b = none from by first | exact mrg_or ‹_› | exact mrg_noM (mrg_fold (j := j) ‹RowsOK a› ‹RowsOK b› (by omega)) ‹_›]; rfl) | (rw [mrg_yes ‹RowsOK a› ‹RowsOK b› (mrg_fold (j := j) ‹RowsOK a› ‹RowsOK b› (by omega)) ‹_›]; rfl)
theorem z_c_impl_MergeRows_274 (a : List LibRow) (na : Nat) (hbda : (na : Int) ≤ 9223372036854775807) (hlea : na = a.length) (b : List LibRow) (nb : Nat) (hbdb : (nb : Int) ≤ 9223372036854775807) (hleb : nb = b.length) (h18 : ¬ ((¬ (RowsOK a)) ∨ (¬ (RowsOK b)))) (hq21 : RowsOK a) (hq22 : RowsOK b) (hq23 : a.length ≤ 12) (hq24 : (totL a).length = 4) (hq25 : b.length ≤ 12) (hq26 : (totL b).length = 4) (n30 : Nat) (hl35 : n30 = (a).length) (hl36 : (n30 : Int) ≤ 9223372036854775807) (j : Nat) (n37 : Nat) (c37 : Nat) (hi46 : j ≤ nb) (hl47 : n37 = ((b.take j).foldl ins a).length) (hq49 : ((b.take j).foldl ins a).length ≤ a.length + b.length) (h50 : ¬ ((j : Int) < (nb : Int))) (h272 : ¬ (RowsOK ((b.take j).foldl ins a))) : false = (mrg a b).isSome := by
  first | (rw [show mrg a b = none from by first | exact mrg_or ‹_› | exact mrg_noM (mrg_fold (j := j) ‹RowsOK a› ‹RowsOK b› (by omega)) ‹_›]; rfl) | (rw [mrg_yes ‹RowsOK a› ‹RowsOK b› (mrg_fold (j := j) ‹RowsOK a› ‹RowsOK b› (by omega)) ‹_›]; rfl)
theorem z_c_impl_MergeRows_275 (a : List LibRow) (na : Nat) (hbda : (na : Int) ≤ 9223372036854775807) (hlea : na = a.length) (b : List LibRow) (nb : Nat) (hbdb : (nb : Int) ≤ 9223372036854775807) (hleb : nb = b.length) (h18 : ¬ ((¬ (RowsOK a)) ∨ (¬ (RowsOK b)))) (hq21 : RowsOK a) (hq22 : RowsOK b) (hq23 : a.length ≤ 12) (hq24 : (totL a).length = 4) (hq25 : b.length ≤ 12) (hq26 : (totL b).length = 4) (n30 : Nat) (hl35 : n30 = (a).length) (hl36 : (n30 : Int) ≤ 9223372036854775807) (j : Nat) (n37 : Nat) (c37 : Nat) (hi46 : j ≤ nb) (hl47 : n37 = ((b.take j).foldl ins a).length) (hq49 : ((b.take j).foldl ins a).length ≤ a.length + b.length) (h50 : ¬ ((j : Int) < (nb : Int))) (h272 : RowsOK ((b.take j).foldl ins a)) : (b.take j).foldl ins a = (mrg a b).getD [] := by
  first | (rw [show mrg a b = none from by first | exact mrg_or ‹_› | exact mrg_noM (mrg_fold (j := j) ‹RowsOK a› ‹RowsOK b› (by omega)) ‹_›]; rfl) | (rw [mrg_yes ‹RowsOK a› ‹RowsOK b› (mrg_fold (j := j) ‹RowsOK a› ‹RowsOK b› (by omega)) ‹_›]; rfl)
theorem z_c_impl_MergeRows_276 (a : List LibRow) (na : Nat) (hbda : (na : Int) ≤ 9223372036854775807) (hlea : na = a.length) (b : List LibRow) (nb : Nat) (hbdb : (nb : Int) ≤ 9223372036854775807) (hleb : nb = b.length) (h18 : ¬ ((¬ (RowsOK a)) ∨ (¬ (RowsOK b)))) (hq21 : RowsOK a) (hq22 : RowsOK b) (hq23 : a.length ≤ 12) (hq24 : (totL a).length = 4) (hq25 : b.length ≤ 12) (hq26 : (totL b).length = 4) (n30 : Nat) (hl35 : n30 = (a).length) (hl36 : (n30 : Int) ≤ 9223372036854775807) (j : Nat) (n37 : Nat) (c37 : Nat) (hi46 : j ≤ nb) (hl47 : n37 = ((b.take j).foldl ins a).length) (hq49 : ((b.take j).foldl ins a).length ≤ a.length + b.length) (h50 : ¬ ((j : Int) < (nb : Int))) (h272 : RowsOK ((b.take j).foldl ins a)) : true = (mrg a b).isSome := by
  first | (rw [show mrg a b = none from by first | exact mrg_or ‹_› | exact mrg_noM (mrg_fold (j := j) ‹RowsOK a› ‹RowsOK b› (by omega)) ‹_›]; rfl) | (rw [mrg_yes ‹RowsOK a› ‹RowsOK b› (mrg_fold (j := j) ‹RowsOK a› ‹RowsOK b› (by omega)) ‹_›]; rfl)
theorem c_impl_MergeRows (w : World) {Aa : Option Addr} {na ca Ba : Nat}  (a : List LibRow) (ha : SlR w Ba encLibRow 5 Aa na ca a) {Ab : Option Addr} {nb cb Bb : Nat}  (b : List LibRow) (hb : SlR w Bb encLibRow 5 Ab nb cb b) : Calls Tryz.prog 13 #[.slice Aa na ca, .slice Ab nb cb] w fun e w' => ∃ (A1' : Option Addr) (n1' c1' : Nat), e = .returned (.tuple (List.toArray [.slice A1' n1' c1', .bool ((mrg a b).isSome)])) ∧ SlO w' w.heap.size encLibRow 5 25 A1' n1' c1' ((mrg a b).getD []) ∧ Lo w w' := by
  refine calls_W 106 Tryz.func13 rfl rfl rfl ?_
  have hbda := ha.bound
  have hlea := ha.len
  have hBba := ha.bd
  have hbdb := hb.bound
  have hleb := hb.len
  have hBbb := hb.bd
  refine W.seq ?_
  refine W.regS (SR.q' (r_as (v := .slice none 0 0) rfl) <| SR.q' (r_as (v := .bool false) rfl) <| SR.nil ?_)
  refine W.seq ?_
  refine W.seq ?_
  refine W.regJS (fun f' w' => At f' [(0, .slice Aa na ca), (1, .slice Ab nb cb), (4, .slice none 0 0), (5, .bool false), (17, .bool (decide ((¬ (RowsOK a)) ∨ (¬ (RowsOK b)))))] ∧ Lo w w') ?_ ?_
  · refine SR.q' (r_mv (v := .slice _ _ _) rfl) <| SR.call ent20 (c_impl_AreLibRows w a ((ha))) rfl ?_
    rintro e w1 ⟨rfl, hk2⟩
    refine ⟨_, rfl, ?_⟩
    have hz3 := hk2.size
    have hB4 := (Lo.refl w).lo hk2
    refine SR.q' (r_not rfl) <| SR.q' (r_mv (v := .bool _) rfl) <| SR.splitN (fun h5 => ?_) (fun h5 => ?_)
    · refine SR.s' rfl <| SR.s' rfl <| SR.s' rfl <| SR.q' (r_pick true rfl (v := .bool true) rfl) <| SR.nil ?_
      exact ⟨_, rfl, ⟨⟨rfl, rfl, rfl, rfl, (eDT ((jmf h5).1 trivial)), trivial⟩, (hk2)⟩⟩
    · have hq6 := rows_len h5
      have hq7 := totL_len4 _ h5
      refine SR.g' rfl (r_mv (v := .slice _ _ _) rfl) <| SR.gcall rfl ent20 (c_impl_AreLibRows w1 b (((hb).lo hk2))) rfl ?_
      rintro e w8 ⟨rfl, hk9⟩
      refine ⟨_, rfl, ?_⟩
      have hz10 := hk9.size
      have hB11 := hB4.lo hk9
      refine SR.g' rfl (r_not rfl) <| SR.q' (r_pick false rfl (v := .bool _) rfl) <| SR.nil ?_
      exact ⟨_, rfl, ⟨⟨rfl, rfl, rfl, rfl, (eND (jmt h5)), trivial⟩, ((hk2).trans hk9)⟩⟩
  rintro f12 w13 ⟨hat14, hk15⟩
  rw [← sets_of_at hat14]
  have hz16 := hk15.size
  have hB17 := (Lo.refl w).lo hk15
  refine W.cond_d rfl (fun h18 => ?_) (fun h18 => ?_)
  · refine W.seq ?_
    refine W.regS (SR.q' (r_as (v := .slice none 0 0) rfl) <| SR.q' (r_as (v := .bool false) rfl) <| SR.nil ?_)
    refine W.ret ?_
    refine ret2 rfl (v := .slice none 0 0) (v' := .bool _) rfl rfl ?_
    exact ⟨none, 0, 0, eR (eT2 rfl (eB (z_c_impl_MergeRows_20 a na hbda hlea b nb hbdb hleb h18))), (SlO.eqv (SlO.nil (e := 25) (enc := encLibRow) (fun _ => rfl) (by omega)) (z_c_impl_MergeRows_19 a na hbda hlea b nb hbdb hleb h18)), hB17⟩
  · have hq21 : RowsOK a := (Classical.not_not.1 (not_or.1 h18).1)
    have hq22 : RowsOK b := (Classical.not_not.1 (not_or.1 h18).2)
    have hq23 := rows_len hq21
    have hq24 := totL_len4 _ hq21
    have hq25 := rows_len hq22
    have hq26 := totL_len4 _ hq22
    refine W.skip ?_
    refine W.seq ?_
    refine W.regS (SR.q' (r_mv (v := .slice _ _ _) rfl) <| SR.call ent38 (c_slices_Clone___impl_LibRow_impl_LibRow_ w13 a (((ha).lo hk15)) (by omega)) rfl ?_)
    rintro e w27 ⟨A29, n30, c31, rfl, hO32, hk28⟩
    refine ⟨_, rfl, ?_⟩
    have hz33 := hk28.size
    have hB34 := hB17.lo hk28
    have hl35 := hO32.len
    have hl36 := hO32.rd.bound
    refine SR.q' (r_as (v := .slice _ _ _) rfl) <| SR.nil ?_
    refine W.seq ?_
    refine W.seq ?_
    refine W.regS (SR.q' (r_mv (v := .slice _ _ _) rfl) <| SR.q' (r_len und33 rfl) <| SR.q' (r_mv (v := .int .i64 0) rfl) <| SR.nil ?_)
    refine W.block ?_
    refine W.loop (σ := Nat × (Option Addr) × Nat × Nat) (fun g => [(4, .slice none 0 0), (5, .bool false), (6, .slice g.2.1 g.2.2.1 g.2.2.2), (20, .slice Ab nb cb), (21, .int .i64 (nb : Int)), (22, .int .i64 (g.1 : Int))]) (fun g w' => (Lo w w') ∧ (SlR w' Bb encLibRow 5 Ab nb cb b) ∧ (SlO w' w.heap.size encLibRow 5 25 g.2.1 g.2.2.1 g.2.2.2 ((b.take g.1).foldl ins a)) ∧ (g.1 ≤ nb)) (fun g => nb - g.1) (0, A29, n30, c31) ?_ ?_ ?_
    · exact ⟨rfl, rfl, rfl, rfl, rfl, rfl, trivial⟩
    · exact ⟨hB34, ((hb).lo hk15).lo hk28, (SlO.eqv ((hO32).down (by omega)) (z_c_impl_MergeRows_39 a na hbda hlea b nb hbdb hleb h18 hq21 hq22 hq23 hq24 hq25 hq26 n30 hl35 hl36)), (z_c_impl_MergeRows_38 a na hbda hlea b nb hbdb hleb h18 hq21 hq22 hq23 hq24 hq25 hq26 n30 hl35 hl36)⟩
    · rintro ⟨j, A37, n37, c37⟩ f40 w41 hP43
      obtain ⟨hB42, hm44, hO45, hi46⟩ : (Lo w w41) ∧ (SlR w41 Bb encLibRow 5 Ab nb cb b) ∧ (SlO w41 w.heap.size encLibRow 5 25 A37 n37 c37 ((b.take j).foldl ins a)) ∧ (j ≤ nb) := hP43
      refine (?_ : W _ _ _ _ _ (act _ (sets f40 [(4, .slice none 0 0), (5, .bool false), (6, .slice A37 n37 c37), (20, .slice Ab nb cb), (21, .int .i64 (nb : Int)), (22, .int .i64 (j : Int))])) _)
      have hzw41 := hB42.size
      have hl47 := hO45.len
      have hl48 := hO45.rd.bound
      have hq49 := foldt_len b j a
      refine W.seq ?_
      refine W.regS (SR.q' (r_lt rfl rfl) <| SR.nil ?_)
      refine W.seq ?_
      refine W.cond_d rfl (fun h50 => ?_) (fun h50 => ?_)
      · refine W.skip ?_
        refine W.seq ?_
        refine W.block ?_
        refine W.seq ?_
        have hx52 := (hm44).elem (i := j) (by omega)
        have hq53 := rows_rng hq22 hx52
        refine W.regS (SR.q' (r_ixR tsl33 (hm44) rfl rfl (by omega)) <| SR.q' (r_lda (l := encLibRow (gt b j)) agg25 rfl (fun _ _ hu => (hm44).cell hx52 hu) ((hm44).esz _)) <| SR.alloc (l := [.int .i64 0, .int .i64 0, .int .i64 0, .int .i64 0, .int .i64 0]) tz25 rfl ?_)
        intro g54 w55 hg56 hk57 hs58 hb59
        have hz60 := hk57.size
        have hB61 := hB42.lo hk57
        have hd62 : ¬ A37 = some ⟨g54, 0, none⟩ := fun e' => by have := (hO45).base_le e'; omega
        refine SR.store (o := 0) (vs := [.int .i64 ((gt b j).Month), .int .i64 ((gt b j).Lent), .int .i64 ((gt b j).Copied), .int .i64 ((gt b j).Given), .int .i64 ((gt b j).Fines)]) agg25.2 rfl rfl rfl rfl (hb59) (Nat.le_of_ble_eq_true rfl) rfl ?_
        intro w63 hk64 hs65 hb66
        have hz67 := hk64.size
        have hB68 := hB61.new hk64 (by omega)
        refine SR.nil ?_
        refine W.seq ?_
        refine W.regS (SR.q' (r_as (v := .int .i64 0) rfl) <| SR.nil ?_)
        refine W.seq ?_
        refine W.block ?_
        refine W.loop (σ := Nat) (fun g => [(4, .slice none 0 0), (5, .bool false), (6, .slice A37 n37 c37), (8, .pointer (some ((⟨g54, 0, none⟩ : Addr)))), (9, .int .i64 (g : Int)), (20, .slice Ab nb cb), (21, .int .i64 (nb : Int)), (22, .int .i64 (j : Int))]) (fun g w' => (Lo w w') ∧ (SlO w' w.heap.size encLibRow 5 25 A37 n37 c37 ((b.take j).foldl ins a)) ∧ (Blk w' g54 25 [.int .i64 ((gt b j).Month), .int .i64 ((gt b j).Lent), .int .i64 ((gt b j).Copied), .int .i64 ((gt b j).Given), .int .i64 ((gt b j).Fines)]) ∧ (SlR w' Bb encLibRow 5 Ab nb cb b) ∧ (g ≤ ((b.take j).foldl ins a).length ∧ LtTo ((b.take j).foldl ins a) (gt b j).Month g)) (fun g => ((b.take j).foldl ins a).length - g) 0 ?_ ?_ ?_
        · exact ⟨rfl, rfl, rfl, rfl, rfl, rfl, rfl, rfl, trivial⟩
        · exact ⟨hB68, ((hO45).lo hk57).kd hk64 hd62, hb66, ((hm44).lo hk57).kn hk64 (by omega), (z_c_impl_MergeRows_69 a na hbda hlea b nb hbdb hleb h18 hq21 hq22 hq23 hq24 hq25 hq26 n30 hl35 hl36 j n37 c37 hi46 hl47 hq49 h50 hx52 hq53)⟩
        · rintro k f70 w71 hP73
          obtain ⟨hB72, hm74, hm75, hm76, hi77⟩ : (Lo w w71) ∧ (SlO w71 w.heap.size encLibRow 5 25 A37 n37 c37 ((b.take j).foldl ins a)) ∧ (Blk w71 g54 25 [.int .i64 ((gt b j).Month), .int .i64 ((gt b j).Lent), .int .i64 ((gt b j).Copied), .int .i64 ((gt b j).Given), .int .i64 ((gt b j).Fines)]) ∧ (SlR w71 Bb encLibRow 5 Ab nb cb b) ∧ (k ≤ ((b.take j).foldl ins a).length ∧ LtTo ((b.take j).foldl ins a) (gt b j).Month k) := hP73
          refine (?_ : W _ _ _ _ _ (act _ (sets f70 [(4, .slice none 0 0), (5, .bool false), (6, .slice A37 n37 c37), (8, .pointer (some ((⟨g54, 0, none⟩ : Addr)))), (9, .int .i64 (k : Int)), (20, .slice Ab nb cb), (21, .int .i64 (nb : Int)), (22, .int .i64 (j : Int))])) _)
          have hzw71 := hB72.size
          have hl78 := hm75.lt
          refine W.seq ?_
          refine W.seq ?_
          refine W.regJD mo (by kernel_rfl) (fun f' w' => At f' [(4, .slice none 0 0), (5, .bool false), (6, .slice A37 n37 c37), (8, .pointer (some ((⟨g54, 0, none⟩ : Addr)))), (9, .int .i64 (k : Int)), (20, .slice Ab nb cb), (21, .int .i64 (nb : Int)), (22, .int .i64 (j : Int)), (39, .bool (decide (((k : Int) < (n37 : Int)) ∧ (((gt ((b.take j).foldl ins a) k).Month) < ((gt b j).Month)))))] ∧ Lo w71 w') ?_ ?_
          · refine QR.q' (fun w' hw' => r_mv (v := .int .i64 _) rfl) <| QR.q' (fun w' hw' => r_mv (v := .slice _ _ _) rfl) <| QR.q' (fun w' hw' => r_len und33 rfl) <| QR.q' (fun w' hw' => r_lt rfl rfl) <| QR.q' (fun w' hw' => r_mv (v := .bool _) rfl) <| QR.splitD (fun h79 => ?_) (fun h79 => ?_)
            · refine QR.g' rfl (fun w' hw' => r_mv (v := .slice _ _ _) rfl) <| QR.g' rfl (fun w' hw' => r_mv (v := .int .i64 _) rfl) <| ?_
              have hx81 := ((hm74).rd).elem (i := k) (by omega)
              have hq82 := fold_rng ‹RowsOK a› ‹RowsOK b› hx81
              refine QR.g' rfl (fun w' hw' => r_ixR tsl33 (((hm74).lo hw').rd) rfl rfl (by omega)) <| QR.g' rfl (fun w' hw' => r_fa fa25_0 rfl) <| QR.g' rfl (fun w' hw' => r_ld (v := .int .i64 ((gt ((b.take j).foldl ins a) k).Month)) sca3 rfl ((((hm74).lo hw').rd).cell hx81 rfl)) <| QR.g' rfl (fun w' hw' => r_fa fa25_0 rfl) <| QR.g' rfl (fun w' hw' => r_ld (v := .int .i64 ((gt b j).Month)) sca3 rfl (((hm75).lo hw').cell rfl)) <| QR.g' rfl (fun w' hw' => r_lt rfl rfl) <| QR.q' (fun w' hw' => r_pick true rfl (v := .bool _) rfl) <| QR.nil ?_
              intro w83 hk84
              exact ⟨⟨rfl, rfl, rfl, rfl, rfl, rfl, rfl, rfl, (eDD (jat h79)), trivial⟩, hk84⟩
            · refine QR.s' rfl <| QR.s' rfl <| QR.s' rfl <| QR.s' rfl <| QR.s' rfl <| QR.s' rfl <| QR.s' rfl <| QR.s' rfl <| QR.q' (fun w' hw' => r_pick false rfl (v := .bool false) rfl) <| QR.nil ?_
              intro w85 hk86
              exact ⟨⟨rfl, rfl, rfl, rfl, rfl, rfl, rfl, rfl, (eDF (jaf h79).2), trivial⟩, hk86⟩
          rintro f87 w88 ⟨hat89, hk90⟩
          rw [← sets_of_at hat89]
          have hz91 := hk90.size
          have hB92 := hB72.lo hk90
          refine W.cond_d rfl (fun h93 => ?_) (fun h93 => ?_)
          · have hq94 : (k : Int) < (n37 : Int) := h93.1
            have hq95 : ((gt ((b.take j).foldl ins a) k).Month) < ((gt b j).Month) := h93.2
            refine W.skip ?_
            refine W.block ?_
            refine W.regS (SR.q' (r_mv (v := .int .i64 _) rfl) <| SR.q' (r_add rfl rfl (by omega)) <| SR.q' (r_as (v := .int .i64 _) rfl) <| SR.nil ?_)
            refine ⟨k + 1, _, rfl, ⟨rfl, rfl, rfl, rfl, rfl, rfl, rfl, rfl, trivial⟩, ⟨hB92, (hm74).lo hk90, (hm75).lo hk90, (hm76).lo hk90, ?_⟩, ?_⟩
            · exact (z_c_impl_MergeRows_96 a na hbda hlea b nb hbdb hleb h18 hq21 hq22 hq23 hq24 hq25 hq26 n30 hl35 hl36 j n37 c37 hi46 hl47 hq49 h50 hx52 hq53 k hi77 h93 hq94 hq95)
            · exact (z_c_impl_MergeRows_97 a na hbda hlea b nb hbdb hleb h18 hq21 hq22 hq23 hq24 hq25 hq26 n30 hl35 hl36 j n37 c37 hi46 hl47 hq49 h50 hx52 hq53 k hi77 h93 hq94 hq95)
          · refine W.exit (xin_here ?_)
            refine W.seq ?_
            refine W.seq ?_
            refine W.regJD mo (by kernel_rfl) (fun f' w' => At f' [(4, .slice none 0 0), (5, .bool false), (6, .slice A37 n37 c37), (8, .pointer (some ((⟨g54, 0, none⟩ : Addr)))), (9, .int .i64 (k : Int)), (20, .slice Ab nb cb), (21, .int .i64 (nb : Int)), (22, .int .i64 (j : Int)), (55, .bool (decide (((k : Int) = (n37 : Int)) ∨ (¬ (((gt ((b.take j).foldl ins a) k).Month) = ((gt b j).Month))))))] ∧ Lo w88 w') ?_ ?_
            · refine QR.q' (fun w' hw' => r_mv (v := .int .i64 _) rfl) <| QR.q' (fun w' hw' => r_mv (v := .slice _ _ _) rfl) <| QR.q' (fun w' hw' => r_len und33 rfl) <| QR.q' (fun w' hw' => r_eq rfl rfl) <| QR.q' (fun w' hw' => r_mv (v := .bool _) rfl) <| QR.splitD (fun h98 => ?_) (fun h98 => ?_)
              · refine QR.s' rfl <| QR.s' rfl <| QR.s' rfl <| QR.s' rfl <| QR.s' rfl <| QR.s' rfl <| QR.s' rfl <| QR.s' rfl <| QR.q' (fun w' hw' => r_pick true rfl (v := .bool true) rfl) <| QR.nil ?_
                intro w99 hk100
                exact ⟨⟨rfl, rfl, rfl, rfl, rfl, rfl, rfl, rfl, (eDT ((jot h98).1 trivial)), trivial⟩, hk100⟩
              · refine QR.g' rfl (fun w' hw' => r_mv (v := .slice _ _ _) rfl) <| QR.g' rfl (fun w' hw' => r_mv (v := .int .i64 _) rfl) <| ?_
                have hx102 := (((hm74).lo hk90).rd).elem (i := k) (by omega)
                have hq103 := fold_rng ‹RowsOK a› ‹RowsOK b› hx102
                refine QR.g' rfl (fun w' hw' => r_ixR tsl33 ((((hm74).lo hk90).lo hw').rd) rfl rfl (by omega)) <| QR.g' rfl (fun w' hw' => r_fa fa25_0 rfl) <| QR.g' rfl (fun w' hw' => r_ld (v := .int .i64 ((gt ((b.take j).foldl ins a) k).Month)) sca3 rfl (((((hm74).lo hk90).lo hw').rd).cell hx102 rfl)) <| QR.g' rfl (fun w' hw' => r_fa fa25_0 rfl) <| QR.g' rfl (fun w' hw' => r_ld (v := .int .i64 ((gt b j).Month)) sca3 rfl ((((hm75).lo hk90).lo hw').cell rfl)) <| QR.g' rfl (fun w' hw' => r_ne rfl rfl) <| QR.q' (fun w' hw' => r_pick false rfl (v := .bool _) rfl) <| QR.nil ?_
                intro w104 hk105
                exact ⟨⟨rfl, rfl, rfl, rfl, rfl, rfl, rfl, rfl, (eND (jof h98)), trivial⟩, hk105⟩
            rintro f106 w107 ⟨hat108, hk109⟩
            rw [← sets_of_at hat108]
            have hz110 := hk109.size
            have hB111 := hB92.lo hk109
            refine W.cond_d rfl (fun h112 => ?_) (fun h112 => ?_)
            · refine W.seq ?_
              refine W.regS (SR.q' (r_mv (v := .slice _ _ _) rfl) <| SR.q' (r_mv (v := .int .i64 _) rfl) <| SR.q' (r_lda (l := [.int .i64 ((gt b j).Month), .int .i64 ((gt b j).Lent), .int .i64 ((gt b j).Copied), .int .i64 ((gt b j).Given), .int .i64 ((gt b j).Fines)]) agg25 rfl (fun _ _ hu => (((hm75).lo hk90).lo hk109).cell hu) rfl) <| SR.lit (vs := [.agg (List.toArray [.int .i64 ((gt b j).Month), .int .i64 ((gt b j).Lent), .int .i64 ((gt b j).Copied), .int .i64 ((gt b j).Given), .int .i64 ((gt b j).Fines)])]) (L := ([(gt b j)] : List LibRow)) (enc := encLibRow) tel33 (fun _ => rfl) rfl rfl rfl (by decide) ?_)
              intro g113 w114 hg115 hk116 hO117
              have hz118 := hk116.size
              have hB119 := hB111.lo hk116
              have hd120 : ¬ A37 = some ⟨g113, 0, none⟩ := fun e' => by have := (((hm74).lo hk90).lo hk109).base_le e'; omega
              refine SR.call ent39 (c_slices_Insert___impl_LibRow_impl_LibRow_ w114 ((b.take j).foldl ins a) ((((hm74).lo hk90).lo hk109).lo hk116) (k : Int) ([(gt b j)] : List LibRow) (hO117) (by omega) (by omega) (by omega) (fun b_ h h' => hd120 (h'.trans h.symm))) rfl ?_
              rintro e w121 ⟨A123, n124, c125, rfl, hO126, hN127, hk122⟩
              refine ⟨_, rfl, ?_⟩
              have hz128 := hk122.size
              have hB129 := hB119.step hk122 (fun i_ hi_ e' => by have := (((((hm74).lo hk90).lo hk109).lo hk116)).base_le e'; first | omega | (exfalso; omega) | exact e' | exact .inl e' | exact .inr e')
              have hd130 : ∀ b_, A123 = some ⟨b_, 0, none⟩ → ¬ (some (⟨g113, 0, none⟩ : Addr)) = some ⟨b_, 0, none⟩ := fun b_ e' h' => (hN127 b_ e').elim (fun h => (fun b_ h h' => hd120 (h.trans h'.symm)) b_ h h') (fun h => by have := (hO117).base_le h'; omega)
              have hd131 : ¬ A123 = some ⟨g54, 0, none⟩ := fun e' => (hN127 g54 e').elim (fun h => hd62 h) (fun h => by have := ((((hm75).lo hk90).lo hk109).lo hk116).lt; omega)
              have hl132 := hO126.len
              have hl133 := hO126.rd.bound
              refine SR.q' (r_as (v := .slice _ _ _) rfl) <| SR.nil ?_
              refine W.exit (xin_here ?_)
              refine W.regS (SR.q' (r_add rfl rfl (by omega)) <| SR.q' (r_mv (v := .int .i64 _) rfl) <| SR.nil ?_)
              refine ⟨(j + 1, A123, n124, c125), _, rfl, ⟨rfl, rfl, rfl, rfl, rfl, rfl, trivial⟩, ⟨hB129, ((((hm76).lo hk90).lo hk109).lo hk116).kp hk122 (fun b_ hb e' => by have := (((((hm74).lo hk90).lo hk109).lo hk116)).base_le e'; omega), (SlO.eqv (hO126) (z_c_impl_MergeRows_134 a na hbda hlea b nb hbdb hleb h18 hq21 hq22 hq23 hq24 hq25 hq26 n30 hl35 hl36 j n37 c37 hi46 hl47 hq49 h50 hx52 hq53 k hi77 h93 h112 n124 hl132 hl133)), ?_⟩, ?_⟩
              · exact (z_c_impl_MergeRows_135 a na hbda hlea b nb hbdb hleb h18 hq21 hq22 hq23 hq24 hq25 hq26 n30 hl35 hl36 j n37 c37 hi46 hl47 hq49 h50 hx52 hq53 k hi77 h93 h112 n124 hl132 hl133)
              · exact (z_c_impl_MergeRows_136 a na hbda hlea b nb hbdb hleb h18 hq21 hq22 hq23 hq24 hq25 hq26 n30 hl35 hl36 j n37 c37 hi46 hl47 hq49 h50 hx52 hq53 k hi77 h93 h112 n124 hl132 hl133)
            · have hq137 : ¬ ((k : Int) = (n37 : Int)) := (not_or.1 h112).1
              have hq138 : ((gt ((b.take j).foldl ins a) k).Month) = ((gt b j).Month) := (Classical.not_not.1 (not_or.1 h112).2)
              refine W.skip ?_
              refine W.seq ?_
              refine W.regA (Kp (fun b_ => A37 = some ⟨b_, 0, none⟩) w107) (fun f' w' => At f' [(4, .slice none 0 0), (5, .bool false), (6, .slice A37 n37 c37), (8, .pointer (some ((⟨g54, 0, none⟩ : Addr)))), (9, .int .i64 (k : Int)), (20, .slice Ab nb cb), (21, .int .i64 (nb : Int)), (22, .int .i64 (j : Int))] ∧ (Kp (fun b_ => A37 = some ⟨b_, 0, none⟩) w107 w') ∧ (SlO w' w.heap.size encLibRow 5 25 A37 n37 c37 (((b.take j).foldl ins a).set ((k : Int).toNat) ({ (gt ((b.take j).foldl ins a) k) with Lent := ((gt ((b.take j).foldl ins a) k).Lent) + ((gt b j).Lent) }))) ∧ (((b.take j).foldl ins a)[k]? = some (gt ((b.take j).foldl ins a) k)) ∧ (((0 : Int) ≤ (gt ((b.take j).foldl ins a) k).Lent ∧ (gt ((b.take j).foldl ins a) k).Lent ≤ 1299987) ∧ ((0 : Int) ≤ (gt ((b.take j).foldl ins a) k).Copied ∧ (gt ((b.take j).foldl ins a) k).Copied ≤ 1299987) ∧ ((0 : Int) ≤ (gt ((b.take j).foldl ins a) k).Given ∧ (gt ((b.take j).foldl ins a) k).Given ≤ 1299987) ∧ ((0 : Int) ≤ (gt ((b.take j).foldl ins a) k).Fines ∧ (gt ((b.take j).foldl ins a) k).Fines ≤ 1299987)) ∧ ((((b.take j).foldl ins a).set ((k : Int).toNat) ({ (gt ((b.take j).foldl ins a) k) with Lent := ((gt ((b.take j).foldl ins a) k).Lent) + ((gt b j).Lent) }))[(k : Int).toNat]? = some ({ (gt ((b.take j).foldl ins a) k) with Lent := ((gt ((b.take j).foldl ins a) k).Lent) + ((gt b j).Lent) }))) mo ?_ ?_
              · intro w153 hk154
                have hz155 := hk154.size
                have hB156 := hB111.lo hk154
                refine AH.take 0 rfl (by kernel_rfl) trivial ((Kp.refl w107 : Kp (fun b_ => A37 = some ⟨b_, 0, none⟩) w107 w107).lo hk154) (fun w' hw' => r_mv (v := .slice _ _ _) rfl) <| AH.take 1 rfl (by kernel_rfl) trivial ((Kp.refl w107 : Kp (fun b_ => A37 = some ⟨b_, 0, none⟩) w107 w107).lo hk154) (fun w' hw' => r_mv (v := .int .i64 _) rfl) <| ?_
                have hx158 := (((((hm74).lo hk90).lo hk109).lo hk154).rd).elem (i := k) (by omega)
                have hq159 := fold_rng ‹RowsOK a› ‹RowsOK b› hx158
                refine AH.take 5 rfl (by kernel_rfl) trivial ((Kp.refl w107 : Kp (fun b_ => A37 = some ⟨b_, 0, none⟩) w107 w107).lo hk154) (fun w' hw' => r_fa fa25_1 rfl) <| AH.take 6 rfl (by kernel_rfl) trivial ((Kp.refl w107 : Kp (fun b_ => A37 = some ⟨b_, 0, none⟩) w107 w107).lo hk154) (fun w' hw' => r_ld (v := .int .i64 ((gt b j).Lent)) sca3 rfl (((((hm75).lo hk90).lo hk109).kp hw' (fun e' => hd62 e')).cell rfl)) <| AH.br [2] (by kernel_rfl) rfl ⟨Br.mk' rfl trivial ?_, trivial⟩
                refine SR.q' (r_ixR tsl33 (((((hm74).lo hk90).lo hk109).lo hk154).rd) rfl rfl (by omega)) ?_
                refine SR.nil ⟨(Kp.refl w107 : Kp (fun b_ => A37 = some ⟨b_, 0, none⟩) w107 w107).lo hk154, _, rfl, ?_⟩
                refine AH.take 3 rfl (by kernel_rfl) trivial ((Kp.refl w107 : Kp (fun b_ => A37 = some ⟨b_, 0, none⟩) w107 w107).lo hk154) (fun w' hw' => r_fa fa25_1 rfl) <| AH.br [4] (by kernel_rfl) rfl ⟨Br.mk' rfl trivial ?_, trivial⟩
                refine SR.q' (r_ld (v := .int .i64 ((gt ((b.take j).foldl ins a) k).Lent)) sca3 rfl ((((((hm74).lo hk90).lo hk109).lo hk154).rd).cell hx158 rfl)) ?_
                refine SR.nil ⟨(Kp.refl w107 : Kp (fun b_ => A37 = some ⟨b_, 0, none⟩) w107 w107).lo hk154, _, rfl, ?_⟩
                refine AH.take 7 rfl (by kernel_rfl) trivial ((Kp.refl w107 : Kp (fun b_ => A37 = some ⟨b_, 0, none⟩) w107 w107).lo hk154) (fun w' hw' => r_add rfl rfl (by omega)) <| AH.br [8] (by kernel_rfl) rfl ⟨Br.mk' rfl trivial ?_, trivial⟩
                refine SR.q' (r_ixR tsl33 (((((hm74).lo hk90).lo hk109).lo hk154).rd) rfl rfl (by omega)) ?_
                refine SR.nil ⟨(Kp.refl w107 : Kp (fun b_ => A37 = some ⟨b_, 0, none⟩) w107 w107).lo hk154, _, rfl, ?_⟩
                refine AH.take 9 rfl (by kernel_rfl) trivial ((Kp.refl w107 : Kp (fun b_ => A37 = some ⟨b_, 0, none⟩) w107 w107).lo hk154) (fun w' hw' => r_fa fa25_1 rfl) <| AH.br [10] (by kernel_rfl) rfl ⟨Br.mk' rfl trivial ?_, trivial⟩
                refine SR.storeO (o := 1) (vs := [.int .i64 (((gt ((b.take j).foldl ins a) k).Lent) + ((gt b j).Lent))]) (x1 := { (gt ((b.take j).foldl ins a) k) with Lent := ((gt ((b.take j).foldl ins a) k).Lent) + ((gt b j).Lent) }) sca3.2 rfl (add_add _ _ _) rfl rfl ((((hm74).lo hk90).lo hk109).lo hk154) hx158 rfl (Nat.le_of_ble_eq_true rfl) rfl ?_
                intro w160 hk161 hs162 hO163
                have hz164 := hk161.size
                have hB165 := hB156.step hk161 (fun i_ hi_ e' => by have := (((((hm74).lo hk90).lo hk109).lo hk154)).base_le e'; first | omega | (exfalso; omega) | exact e' | exact .inl e' | exact .inr e')
                have hS166 := ((Kp.refl w107 : Kp (fun b_ => A37 = some ⟨b_, 0, none⟩) w107 w107).lo hk154).step hk161 (fun _ _ e => e)
                have hx167 : (((b.take j).foldl ins a).set ((k : Int).toNat) ({ (gt ((b.take j).foldl ins a) k) with Lent := ((gt ((b.take j).foldl ins a) k).Lent) + ((gt b j).Lent) }))[(k : Int).toNat]? = some ({ (gt ((b.take j).foldl ins a) k) with Lent := ((gt ((b.take j).foldl ins a) k).Lent) + ((gt b j).Lent) }) := List.getElem?_set_self (List.getElem?_eq_some_iff.1 hx158).1
                refine SR.nil ⟨hS166, _, rfl, ?_⟩
                refine AH.done (by kernel_rfl) ?_
                exact ⟨⟨rfl, rfl, rfl, rfl, rfl, rfl, rfl, rfl, trivial⟩, hS166, (hO163), hx158, hq159, hx167⟩
              rintro f169 w170 ⟨hat172, hR171, hm168, hx158, hq159, hx167⟩
              rw [← sets_of_at hat172]
              have hz173 := hR171.size
              have hB174 := hB111.step hR171 (fun i_ hi_ e' => by have := ((((hm74).lo hk90).lo hk109)).base_le e'; first | omega | (exfalso; omega) | exact e' | exact .inl e' | exact .inr e')
              refine W.seq ?_
              refine W.regA (Kp (fun b_ => A37 = some ⟨b_, 0, none⟩) w170) (fun f' w' => At f' [(4, .slice none 0 0), (5, .bool false), (6, .slice A37 n37 c37), (8, .pointer (some ((⟨g54, 0, none⟩ : Addr)))), (9, .int .i64 (k : Int)), (20, .slice Ab nb cb), (21, .int .i64 (nb : Int)), (22, .int .i64 (j : Int))] ∧ (Kp (fun b_ => A37 = some ⟨b_, 0, none⟩) w170 w') ∧ (SlO w' w.heap.size encLibRow 5 25 A37 n37 c37 ((((b.take j).foldl ins a).set ((k : Int).toNat) ({ (gt ((b.take j).foldl ins a) k) with Lent := ((gt ((b.take j).foldl ins a) k).Lent) + ((gt b j).Lent) })).set ((k : Int).toNat) ({ ({ (gt ((b.take j).foldl ins a) k) with Lent := ((gt ((b.take j).foldl ins a) k).Lent) + ((gt b j).Lent) }) with Copied := ((gt ((b.take j).foldl ins a) k).Copied) + ((gt b j).Copied) }))) ∧ (((((b.take j).foldl ins a).set ((k : Int).toNat) ({ (gt ((b.take j).foldl ins a) k) with Lent := ((gt ((b.take j).foldl ins a) k).Lent) + ((gt b j).Lent) })).set ((k : Int).toNat) ({ ({ (gt ((b.take j).foldl ins a) k) with Lent := ((gt ((b.take j).foldl ins a) k).Lent) + ((gt b j).Lent) }) with Copied := ((gt ((b.take j).foldl ins a) k).Copied) + ((gt b j).Copied) }))[(k : Int).toNat]? = some ({ ({ (gt ((b.take j).foldl ins a) k) with Lent := ((gt ((b.take j).foldl ins a) k).Lent) + ((gt b j).Lent) }) with Copied := ((gt ((b.take j).foldl ins a) k).Copied) + ((gt b j).Copied) }))) mo ?_ ?_
              · intro w186 hk187
                have hz188 := hk187.size
                have hB189 := hB174.lo hk187
                refine AH.take 0 rfl (by kernel_rfl) trivial ((Kp.refl w170 : Kp (fun b_ => A37 = some ⟨b_, 0, none⟩) w170 w170).lo hk187) (fun w' hw' => r_mv (v := .slice _ _ _) rfl) <| AH.take 1 rfl (by kernel_rfl) trivial ((Kp.refl w170 : Kp (fun b_ => A37 = some ⟨b_, 0, none⟩) w170 w170).lo hk187) (fun w' hw' => r_mv (v := .int .i64 _) rfl) <| AH.take 5 rfl (by kernel_rfl) trivial ((Kp.refl w170 : Kp (fun b_ => A37 = some ⟨b_, 0, none⟩) w170 w170).lo hk187) (fun w' hw' => r_fa fa25_2 rfl) <| AH.take 6 rfl (by kernel_rfl) trivial ((Kp.refl w170 : Kp (fun b_ => A37 = some ⟨b_, 0, none⟩) w170 w170).lo hk187) (fun w' hw' => r_ld (v := .int .i64 ((gt b j).Copied)) sca3 rfl ((((((hm75).lo hk90).lo hk109).kp hR171 (fun e' => hd62 e')).kp hw' (fun e' => hd62 e')).cell rfl)) <| AH.br [2] (by kernel_rfl) rfl ⟨Br.mk' rfl trivial ?_, trivial⟩
                refine SR.q' (r_ixR tsl33 (((hm168).lo hk187).rd) rfl rfl (by omega)) ?_
                refine SR.nil ⟨(Kp.refl w170 : Kp (fun b_ => A37 = some ⟨b_, 0, none⟩) w170 w170).lo hk187, _, rfl, ?_⟩
                refine AH.take 3 rfl (by kernel_rfl) trivial ((Kp.refl w170 : Kp (fun b_ => A37 = some ⟨b_, 0, none⟩) w170 w170).lo hk187) (fun w' hw' => r_fa fa25_2 rfl) <| AH.br [4] (by kernel_rfl) rfl ⟨Br.mk' rfl trivial ?_, trivial⟩
                refine SR.q' (r_ld (v := .int .i64 ((gt ((b.take j).foldl ins a) k).Copied)) sca3 rfl ((((hm168).lo hk187).rd).cell hx167 rfl)) ?_
                refine SR.nil ⟨(Kp.refl w170 : Kp (fun b_ => A37 = some ⟨b_, 0, none⟩) w170 w170).lo hk187, _, rfl, ?_⟩
                refine AH.take 7 rfl (by kernel_rfl) trivial ((Kp.refl w170 : Kp (fun b_ => A37 = some ⟨b_, 0, none⟩) w170 w170).lo hk187) (fun w' hw' => r_add rfl rfl (by omega)) <| AH.br [8] (by kernel_rfl) rfl ⟨Br.mk' rfl trivial ?_, trivial⟩
                refine SR.q' (r_ixR tsl33 (((hm168).lo hk187).rd) rfl rfl (by omega)) ?_
                refine SR.nil ⟨(Kp.refl w170 : Kp (fun b_ => A37 = some ⟨b_, 0, none⟩) w170 w170).lo hk187, _, rfl, ?_⟩
                refine AH.take 9 rfl (by kernel_rfl) trivial ((Kp.refl w170 : Kp (fun b_ => A37 = some ⟨b_, 0, none⟩) w170 w170).lo hk187) (fun w' hw' => r_fa fa25_2 rfl) <| AH.br [10] (by kernel_rfl) rfl ⟨Br.mk' rfl trivial ?_, trivial⟩
                refine SR.storeO (o := 2) (vs := [.int .i64 (((gt ((b.take j).foldl ins a) k).Copied) + ((gt b j).Copied))]) (x1 := { ({ (gt ((b.take j).foldl ins a) k) with Lent := ((gt ((b.take j).foldl ins a) k).Lent) + ((gt b j).Lent) }) with Copied := ((gt ((b.take j).foldl ins a) k).Copied) + ((gt b j).Copied) }) sca3.2 rfl (add_add _ _ _) rfl rfl ((hm168).lo hk187) hx167 rfl (Nat.le_of_ble_eq_true rfl) rfl ?_
                intro w190 hk191 hs192 hO193
                have hz194 := hk191.size
                have hB195 := hB189.step hk191 (fun i_ hi_ e' => by have := (((hm168).lo hk187)).base_le e'; first | omega | (exfalso; omega) | exact e' | exact .inl e' | exact .inr e')
                have hS196 := ((Kp.refl w170 : Kp (fun b_ => A37 = some ⟨b_, 0, none⟩) w170 w170).lo hk187).step hk191 (fun _ _ e => e)
                have hx197 : ((((b.take j).foldl ins a).set ((k : Int).toNat) ({ (gt ((b.take j).foldl ins a) k) with Lent := ((gt ((b.take j).foldl ins a) k).Lent) + ((gt b j).Lent) })).set ((k : Int).toNat) ({ ({ (gt ((b.take j).foldl ins a) k) with Lent := ((gt ((b.take j).foldl ins a) k).Lent) + ((gt b j).Lent) }) with Copied := ((gt ((b.take j).foldl ins a) k).Copied) + ((gt b j).Copied) }))[(k : Int).toNat]? = some ({ ({ (gt ((b.take j).foldl ins a) k) with Lent := ((gt ((b.take j).foldl ins a) k).Lent) + ((gt b j).Lent) }) with Copied := ((gt ((b.take j).foldl ins a) k).Copied) + ((gt b j).Copied) }) := List.getElem?_set_self (List.getElem?_eq_some_iff.1 hx167).1
                refine SR.nil ⟨hS196, _, rfl, ?_⟩
                refine AH.done (by kernel_rfl) ?_
                exact ⟨⟨rfl, rfl, rfl, rfl, rfl, rfl, rfl, rfl, trivial⟩, hS196, (hO193), hx197⟩
              rintro f199 w200 ⟨hat202, hR201, hm198, hx197⟩
              rw [← sets_of_at hat202]
              have hz203 := hR201.size
              have hB204 := hB174.step hR201 (fun i_ hi_ e' => by have := ((hm168)).base_le e'; first | omega | (exfalso; omega) | exact e' | exact .inl e' | exact .inr e')
              refine W.seq ?_
              refine W.regA (Kp (fun b_ => A37 = some ⟨b_, 0, none⟩) w200) (fun f' w' => At f' [(4, .slice none 0 0), (5, .bool false), (6, .slice A37 n37 c37), (8, .pointer (some ((⟨g54, 0, none⟩ : Addr)))), (9, .int .i64 (k : Int)), (20, .slice Ab nb cb), (21, .int .i64 (nb : Int)), (22, .int .i64 (j : Int))] ∧ (Kp (fun b_ => A37 = some ⟨b_, 0, none⟩) w200 w') ∧ (SlO w' w.heap.size encLibRow 5 25 A37 n37 c37 (((((b.take j).foldl ins a).set ((k : Int).toNat) ({ (gt ((b.take j).foldl ins a) k) with Lent := ((gt ((b.take j).foldl ins a) k).Lent) + ((gt b j).Lent) })).set ((k : Int).toNat) ({ ({ (gt ((b.take j).foldl ins a) k) with Lent := ((gt ((b.take j).foldl ins a) k).Lent) + ((gt b j).Lent) }) with Copied := ((gt ((b.take j).foldl ins a) k).Copied) + ((gt b j).Copied) })).set ((k : Int).toNat) ({ ({ ({ (gt ((b.take j).foldl ins a) k) with Lent := ((gt ((b.take j).foldl ins a) k).Lent) + ((gt b j).Lent) }) with Copied := ((gt ((b.take j).foldl ins a) k).Copied) + ((gt b j).Copied) }) with Given := ((gt ((b.take j).foldl ins a) k).Given) + ((gt b j).Given) }))) ∧ ((((((b.take j).foldl ins a).set ((k : Int).toNat) ({ (gt ((b.take j).foldl ins a) k) with Lent := ((gt ((b.take j).foldl ins a) k).Lent) + ((gt b j).Lent) })).set ((k : Int).toNat) ({ ({ (gt ((b.take j).foldl ins a) k) with Lent := ((gt ((b.take j).foldl ins a) k).Lent) + ((gt b j).Lent) }) with Copied := ((gt ((b.take j).foldl ins a) k).Copied) + ((gt b j).Copied) })).set ((k : Int).toNat) ({ ({ ({ (gt ((b.take j).foldl ins a) k) with Lent := ((gt ((b.take j).foldl ins a) k).Lent) + ((gt b j).Lent) }) with Copied := ((gt ((b.take j).foldl ins a) k).Copied) + ((gt b j).Copied) }) with Given := ((gt ((b.take j).foldl ins a) k).Given) + ((gt b j).Given) }))[(k : Int).toNat]? = some ({ ({ ({ (gt ((b.take j).foldl ins a) k) with Lent := ((gt ((b.take j).foldl ins a) k).Lent) + ((gt b j).Lent) }) with Copied := ((gt ((b.take j).foldl ins a) k).Copied) + ((gt b j).Copied) }) with Given := ((gt ((b.take j).foldl ins a) k).Given) + ((gt b j).Given) }))) mo ?_ ?_
              · intro w216 hk217
                have hz218 := hk217.size
                have hB219 := hB204.lo hk217
                refine AH.take 0 rfl (by kernel_rfl) trivial ((Kp.refl w200 : Kp (fun b_ => A37 = some ⟨b_, 0, none⟩) w200 w200).lo hk217) (fun w' hw' => r_mv (v := .slice _ _ _) rfl) <| AH.take 1 rfl (by kernel_rfl) trivial ((Kp.refl w200 : Kp (fun b_ => A37 = some ⟨b_, 0, none⟩) w200 w200).lo hk217) (fun w' hw' => r_mv (v := .int .i64 _) rfl) <| AH.take 5 rfl (by kernel_rfl) trivial ((Kp.refl w200 : Kp (fun b_ => A37 = some ⟨b_, 0, none⟩) w200 w200).lo hk217) (fun w' hw' => r_fa fa25_3 rfl) <| AH.take 6 rfl (by kernel_rfl) trivial ((Kp.refl w200 : Kp (fun b_ => A37 = some ⟨b_, 0, none⟩) w200 w200).lo hk217) (fun w' hw' => r_ld (v := .int .i64 ((gt b j).Given)) sca3 rfl (((((((hm75).lo hk90).lo hk109).kp hR171 (fun e' => hd62 e')).kp hR201 (fun e' => hd62 e')).kp hw' (fun e' => hd62 e')).cell rfl)) <| AH.br [2] (by kernel_rfl) rfl ⟨Br.mk' rfl trivial ?_, trivial⟩
                refine SR.q' (r_ixR tsl33 (((hm198).lo hk217).rd) rfl rfl (by omega)) ?_
                refine SR.nil ⟨(Kp.refl w200 : Kp (fun b_ => A37 = some ⟨b_, 0, none⟩) w200 w200).lo hk217, _, rfl, ?_⟩
                refine AH.take 3 rfl (by kernel_rfl) trivial ((Kp.refl w200 : Kp (fun b_ => A37 = some ⟨b_, 0, none⟩) w200 w200).lo hk217) (fun w' hw' => r_fa fa25_3 rfl) <| AH.br [4] (by kernel_rfl) rfl ⟨Br.mk' rfl trivial ?_, trivial⟩
                refine SR.q' (r_ld (v := .int .i64 ((gt ((b.take j).foldl ins a) k).Given)) sca3 rfl ((((hm198).lo hk217).rd).cell hx197 rfl)) ?_
                refine SR.nil ⟨(Kp.refl w200 : Kp (fun b_ => A37 = some ⟨b_, 0, none⟩) w200 w200).lo hk217, _, rfl, ?_⟩
                refine AH.take 7 rfl (by kernel_rfl) trivial ((Kp.refl w200 : Kp (fun b_ => A37 = some ⟨b_, 0, none⟩) w200 w200).lo hk217) (fun w' hw' => r_add rfl rfl (by omega)) <| AH.br [8] (by kernel_rfl) rfl ⟨Br.mk' rfl trivial ?_, trivial⟩
                refine SR.q' (r_ixR tsl33 (((hm198).lo hk217).rd) rfl rfl (by omega)) ?_
                refine SR.nil ⟨(Kp.refl w200 : Kp (fun b_ => A37 = some ⟨b_, 0, none⟩) w200 w200).lo hk217, _, rfl, ?_⟩
                refine AH.take 9 rfl (by kernel_rfl) trivial ((Kp.refl w200 : Kp (fun b_ => A37 = some ⟨b_, 0, none⟩) w200 w200).lo hk217) (fun w' hw' => r_fa fa25_3 rfl) <| AH.br [10] (by kernel_rfl) rfl ⟨Br.mk' rfl trivial ?_, trivial⟩
                refine SR.storeO (o := 3) (vs := [.int .i64 (((gt ((b.take j).foldl ins a) k).Given) + ((gt b j).Given))]) (x1 := { ({ ({ (gt ((b.take j).foldl ins a) k) with Lent := ((gt ((b.take j).foldl ins a) k).Lent) + ((gt b j).Lent) }) with Copied := ((gt ((b.take j).foldl ins a) k).Copied) + ((gt b j).Copied) }) with Given := ((gt ((b.take j).foldl ins a) k).Given) + ((gt b j).Given) }) sca3.2 rfl (add_add _ _ _) rfl rfl ((hm198).lo hk217) hx197 rfl (Nat.le_of_ble_eq_true rfl) rfl ?_
                intro w220 hk221 hs222 hO223
                have hz224 := hk221.size
                have hB225 := hB219.step hk221 (fun i_ hi_ e' => by have := (((hm198).lo hk217)).base_le e'; first | omega | (exfalso; omega) | exact e' | exact .inl e' | exact .inr e')
                have hS226 := ((Kp.refl w200 : Kp (fun b_ => A37 = some ⟨b_, 0, none⟩) w200 w200).lo hk217).step hk221 (fun _ _ e => e)
                have hx227 : (((((b.take j).foldl ins a).set ((k : Int).toNat) ({ (gt ((b.take j).foldl ins a) k) with Lent := ((gt ((b.take j).foldl ins a) k).Lent) + ((gt b j).Lent) })).set ((k : Int).toNat) ({ ({ (gt ((b.take j).foldl ins a) k) with Lent := ((gt ((b.take j).foldl ins a) k).Lent) + ((gt b j).Lent) }) with Copied := ((gt ((b.take j).foldl ins a) k).Copied) + ((gt b j).Copied) })).set ((k : Int).toNat) ({ ({ ({ (gt ((b.take j).foldl ins a) k) with Lent := ((gt ((b.take j).foldl ins a) k).Lent) + ((gt b j).Lent) }) with Copied := ((gt ((b.take j).foldl ins a) k).Copied) + ((gt b j).Copied) }) with Given := ((gt ((b.take j).foldl ins a) k).Given) + ((gt b j).Given) }))[(k : Int).toNat]? = some ({ ({ ({ (gt ((b.take j).foldl ins a) k) with Lent := ((gt ((b.take j).foldl ins a) k).Lent) + ((gt b j).Lent) }) with Copied := ((gt ((b.take j).foldl ins a) k).Copied) + ((gt b j).Copied) }) with Given := ((gt ((b.take j).foldl ins a) k).Given) + ((gt b j).Given) }) := List.getElem?_set_self (List.getElem?_eq_some_iff.1 hx197).1
                refine SR.nil ⟨hS226, _, rfl, ?_⟩
                refine AH.done (by kernel_rfl) ?_
                exact ⟨⟨rfl, rfl, rfl, rfl, rfl, rfl, rfl, rfl, trivial⟩, hS226, (hO223), hx227⟩
              rintro f229 w230 ⟨hat232, hR231, hm228, hx227⟩
              rw [← sets_of_at hat232]
              have hz233 := hR231.size
              have hB234 := hB204.step hR231 (fun i_ hi_ e' => by have := ((hm198)).base_le e'; first | omega | (exfalso; omega) | exact e' | exact .inl e' | exact .inr e')
              refine W.regA (Kp (fun b_ => A37 = some ⟨b_, 0, none⟩) w230) (fun f' w' => At f' [(4, .slice none 0 0), (5, .bool false), (6, .slice A37 n37 c37), (20, .slice Ab nb cb), (21, .int .i64 (nb : Int)), (22, .int .i64 (j : Int))] ∧ (Kp (fun b_ => A37 = some ⟨b_, 0, none⟩) w230 w') ∧ (SlO w' w.heap.size encLibRow 5 25 A37 n37 c37 ((((((b.take j).foldl ins a).set ((k : Int).toNat) ({ (gt ((b.take j).foldl ins a) k) with Lent := ((gt ((b.take j).foldl ins a) k).Lent) + ((gt b j).Lent) })).set ((k : Int).toNat) ({ ({ (gt ((b.take j).foldl ins a) k) with Lent := ((gt ((b.take j).foldl ins a) k).Lent) + ((gt b j).Lent) }) with Copied := ((gt ((b.take j).foldl ins a) k).Copied) + ((gt b j).Copied) })).set ((k : Int).toNat) ({ ({ ({ (gt ((b.take j).foldl ins a) k) with Lent := ((gt ((b.take j).foldl ins a) k).Lent) + ((gt b j).Lent) }) with Copied := ((gt ((b.take j).foldl ins a) k).Copied) + ((gt b j).Copied) }) with Given := ((gt ((b.take j).foldl ins a) k).Given) + ((gt b j).Given) })).set ((k : Int).toNat) ({ ({ ({ ({ (gt ((b.take j).foldl ins a) k) with Lent := ((gt ((b.take j).foldl ins a) k).Lent) + ((gt b j).Lent) }) with Copied := ((gt ((b.take j).foldl ins a) k).Copied) + ((gt b j).Copied) }) with Given := ((gt ((b.take j).foldl ins a) k).Given) + ((gt b j).Given) }) with Fines := ((gt ((b.take j).foldl ins a) k).Fines) + ((gt b j).Fines) }))) ∧ (((((((b.take j).foldl ins a).set ((k : Int).toNat) ({ (gt ((b.take j).foldl ins a) k) with Lent := ((gt ((b.take j).foldl ins a) k).Lent) + ((gt b j).Lent) })).set ((k : Int).toNat) ({ ({ (gt ((b.take j).foldl ins a) k) with Lent := ((gt ((b.take j).foldl ins a) k).Lent) + ((gt b j).Lent) }) with Copied := ((gt ((b.take j).foldl ins a) k).Copied) + ((gt b j).Copied) })).set ((k : Int).toNat) ({ ({ ({ (gt ((b.take j).foldl ins a) k) with Lent := ((gt ((b.take j).foldl ins a) k).Lent) + ((gt b j).Lent) }) with Copied := ((gt ((b.take j).foldl ins a) k).Copied) + ((gt b j).Copied) }) with Given := ((gt ((b.take j).foldl ins a) k).Given) + ((gt b j).Given) })).set ((k : Int).toNat) ({ ({ ({ ({ (gt ((b.take j).foldl ins a) k) with Lent := ((gt ((b.take j).foldl ins a) k).Lent) + ((gt b j).Lent) }) with Copied := ((gt ((b.take j).foldl ins a) k).Copied) + ((gt b j).Copied) }) with Given := ((gt ((b.take j).foldl ins a) k).Given) + ((gt b j).Given) }) with Fines := ((gt ((b.take j).foldl ins a) k).Fines) + ((gt b j).Fines) }))[(k : Int).toNat]? = some ({ ({ ({ ({ (gt ((b.take j).foldl ins a) k) with Lent := ((gt ((b.take j).foldl ins a) k).Lent) + ((gt b j).Lent) }) with Copied := ((gt ((b.take j).foldl ins a) k).Copied) + ((gt b j).Copied) }) with Given := ((gt ((b.take j).foldl ins a) k).Given) + ((gt b j).Given) }) with Fines := ((gt ((b.take j).foldl ins a) k).Fines) + ((gt b j).Fines) }))) mo ?_ ?_
              · intro w246 hk247
                have hz248 := hk247.size
                have hB249 := hB234.lo hk247
                refine AH.take 0 rfl (by kernel_rfl) trivial ((Kp.refl w230 : Kp (fun b_ => A37 = some ⟨b_, 0, none⟩) w230 w230).lo hk247) (fun w' hw' => r_mv (v := .slice _ _ _) rfl) <| AH.take 1 rfl (by kernel_rfl) trivial ((Kp.refl w230 : Kp (fun b_ => A37 = some ⟨b_, 0, none⟩) w230 w230).lo hk247) (fun w' hw' => r_mv (v := .int .i64 _) rfl) <| AH.take 5 rfl (by kernel_rfl) trivial ((Kp.refl w230 : Kp (fun b_ => A37 = some ⟨b_, 0, none⟩) w230 w230).lo hk247) (fun w' hw' => r_fa fa25_4 rfl) <| AH.take 6 rfl (by kernel_rfl) trivial ((Kp.refl w230 : Kp (fun b_ => A37 = some ⟨b_, 0, none⟩) w230 w230).lo hk247) (fun w' hw' => r_ld (v := .int .i64 ((gt b j).Fines)) sca3 rfl ((((((((hm75).lo hk90).lo hk109).kp hR171 (fun e' => hd62 e')).kp hR201 (fun e' => hd62 e')).kp hR231 (fun e' => hd62 e')).kp hw' (fun e' => hd62 e')).cell rfl)) <| AH.br [2] (by kernel_rfl) rfl ⟨Br.mk' rfl trivial ?_, trivial⟩
                refine SR.q' (r_ixR tsl33 (((hm228).lo hk247).rd) rfl rfl (by omega)) ?_
                refine SR.nil ⟨(Kp.refl w230 : Kp (fun b_ => A37 = some ⟨b_, 0, none⟩) w230 w230).lo hk247, _, rfl, ?_⟩
                refine AH.take 3 rfl (by kernel_rfl) trivial ((Kp.refl w230 : Kp (fun b_ => A37 = some ⟨b_, 0, none⟩) w230 w230).lo hk247) (fun w' hw' => r_fa fa25_4 rfl) <| AH.br [4] (by kernel_rfl) rfl ⟨Br.mk' rfl trivial ?_, trivial⟩
                refine SR.q' (r_ld (v := .int .i64 ((gt ((b.take j).foldl ins a) k).Fines)) sca3 rfl ((((hm228).lo hk247).rd).cell hx227 rfl)) ?_
                refine SR.nil ⟨(Kp.refl w230 : Kp (fun b_ => A37 = some ⟨b_, 0, none⟩) w230 w230).lo hk247, _, rfl, ?_⟩
                refine AH.take 7 rfl (by kernel_rfl) trivial ((Kp.refl w230 : Kp (fun b_ => A37 = some ⟨b_, 0, none⟩) w230 w230).lo hk247) (fun w' hw' => r_add rfl rfl (by omega)) <| AH.br [8] (by kernel_rfl) rfl ⟨Br.mk' rfl trivial ?_, trivial⟩
                refine SR.q' (r_ixR tsl33 (((hm228).lo hk247).rd) rfl rfl (by omega)) ?_
                refine SR.nil ⟨(Kp.refl w230 : Kp (fun b_ => A37 = some ⟨b_, 0, none⟩) w230 w230).lo hk247, _, rfl, ?_⟩
                refine AH.take 9 rfl (by kernel_rfl) trivial ((Kp.refl w230 : Kp (fun b_ => A37 = some ⟨b_, 0, none⟩) w230 w230).lo hk247) (fun w' hw' => r_fa fa25_4 rfl) <| AH.br [10] (by kernel_rfl) rfl ⟨Br.mk' rfl trivial ?_, trivial⟩
                refine SR.storeO (o := 4) (vs := [.int .i64 (((gt ((b.take j).foldl ins a) k).Fines) + ((gt b j).Fines))]) (x1 := { ({ ({ ({ (gt ((b.take j).foldl ins a) k) with Lent := ((gt ((b.take j).foldl ins a) k).Lent) + ((gt b j).Lent) }) with Copied := ((gt ((b.take j).foldl ins a) k).Copied) + ((gt b j).Copied) }) with Given := ((gt ((b.take j).foldl ins a) k).Given) + ((gt b j).Given) }) with Fines := ((gt ((b.take j).foldl ins a) k).Fines) + ((gt b j).Fines) }) sca3.2 rfl (add_add _ _ _) rfl rfl ((hm228).lo hk247) hx227 rfl (Nat.le_of_ble_eq_true rfl) rfl ?_
                intro w250 hk251 hs252 hO253
                have hz254 := hk251.size
                have hB255 := hB249.step hk251 (fun i_ hi_ e' => by have := (((hm228).lo hk247)).base_le e'; first | omega | (exfalso; omega) | exact e' | exact .inl e' | exact .inr e')
                have hS256 := ((Kp.refl w230 : Kp (fun b_ => A37 = some ⟨b_, 0, none⟩) w230 w230).lo hk247).step hk251 (fun _ _ e => e)
                have hx257 : ((((((b.take j).foldl ins a).set ((k : Int).toNat) ({ (gt ((b.take j).foldl ins a) k) with Lent := ((gt ((b.take j).foldl ins a) k).Lent) + ((gt b j).Lent) })).set ((k : Int).toNat) ({ ({ (gt ((b.take j).foldl ins a) k) with Lent := ((gt ((b.take j).foldl ins a) k).Lent) + ((gt b j).Lent) }) with Copied := ((gt ((b.take j).foldl ins a) k).Copied) + ((gt b j).Copied) })).set ((k : Int).toNat) ({ ({ ({ (gt ((b.take j).foldl ins a) k) with Lent := ((gt ((b.take j).foldl ins a) k).Lent) + ((gt b j).Lent) }) with Copied := ((gt ((b.take j).foldl ins a) k).Copied) + ((gt b j).Copied) }) with Given := ((gt ((b.take j).foldl ins a) k).Given) + ((gt b j).Given) })).set ((k : Int).toNat) ({ ({ ({ ({ (gt ((b.take j).foldl ins a) k) with Lent := ((gt ((b.take j).foldl ins a) k).Lent) + ((gt b j).Lent) }) with Copied := ((gt ((b.take j).foldl ins a) k).Copied) + ((gt b j).Copied) }) with Given := ((gt ((b.take j).foldl ins a) k).Given) + ((gt b j).Given) }) with Fines := ((gt ((b.take j).foldl ins a) k).Fines) + ((gt b j).Fines) }))[(k : Int).toNat]? = some ({ ({ ({ ({ (gt ((b.take j).foldl ins a) k) with Lent := ((gt ((b.take j).foldl ins a) k).Lent) + ((gt b j).Lent) }) with Copied := ((gt ((b.take j).foldl ins a) k).Copied) + ((gt b j).Copied) }) with Given := ((gt ((b.take j).foldl ins a) k).Given) + ((gt b j).Given) }) with Fines := ((gt ((b.take j).foldl ins a) k).Fines) + ((gt b j).Fines) }) := List.getElem?_set_self (List.getElem?_eq_some_iff.1 hx227).1
                refine SR.nil ⟨hS256, _, rfl, ?_⟩
                refine AH.done (by kernel_rfl) ?_
                exact ⟨⟨rfl, rfl, rfl, rfl, rfl, rfl, trivial⟩, hS256, (hO253), hx257⟩
              rintro f259 w260 ⟨hat262, hR261, hm258, hx257⟩
              rw [← sets_of_at hat262]
              have hz263 := hR261.size
              have hB264 := hB234.step hR261 (fun i_ hi_ e' => by have := ((hm228)).base_le e'; first | omega | (exfalso; omega) | exact e' | exact .inl e' | exact .inr e')
              refine W.regS (SR.q' (r_add rfl rfl (by omega)) <| SR.q' (r_mv (v := .int .i64 _) rfl) <| SR.nil ?_)
              refine ⟨(j + 1, A37, n37, c37), _, rfl, ⟨rfl, rfl, rfl, rfl, rfl, rfl, trivial⟩, ⟨hB264, ((((((hm76).lo hk90).lo hk109).kp hR171 (fun b_ hb e' => by have := ((((hm74).lo hk90).lo hk109)).base_le e'; omega)).kp hR201 (fun b_ hb e' => by have := ((hm168)).base_le e'; omega)).kp hR231 (fun b_ hb e' => by have := ((hm198)).base_le e'; omega)).kp hR261 (fun b_ hb e' => by have := ((hm228)).base_le e'; omega), (SlO.eqv (hm258) (z_c_impl_MergeRows_265 a na hbda hlea b nb hbdb hleb h18 hq21 hq22 hq23 hq24 hq25 hq26 n30 hl35 hl36 j n37 c37 hi46 hl47 hq49 h50 hx52 hq53 k hi77 h93 h112 hq137 hq138 hx158 hq159 hx167 hx197 hx227 hx257)), ?_⟩, ?_⟩
              · exact (z_c_impl_MergeRows_266 a na hbda hlea b nb hbdb hleb h18 hq21 hq22 hq23 hq24 hq25 hq26 n30 hl35 hl36 j n37 c37 hi46 hl47 hq49 h50 hx52 hq53 k hi77 h93 h112 hq137 hq138 hx158 hq159 hx167 hx197 hx227 hx257)
              · exact (z_c_impl_MergeRows_267 a na hbda hlea b nb hbdb hleb h18 hq21 hq22 hq23 hq24 hq25 hq26 n30 hl35 hl36 j n37 c37 hi46 hl47 hq49 h50 hx52 hq53 k hi77 h93 h112 hq137 hq138 hx158 hq159 hx167 hx197 hx227 hx257)
      · refine W.exit (xin_here ?_)
        refine W.seq ?_
        refine W.seq ?_
        refine W.regS (SR.q' (r_mv (v := .slice _ _ _) rfl) <| SR.call ent20 (c_impl_AreLibRows w41 ((b.take j).foldl ins a) (((hO45).rd))) rfl ?_)
        rintro e w268 ⟨rfl, hk269⟩
        refine ⟨_, rfl, ?_⟩
        have hz270 := hk269.size
        have hB271 := hB42.lo hk269
        refine SR.q' (r_not rfl) <| SR.nil ?_
        refine W.cond_n rfl (fun h272 => ?_) (fun h272 => ?_)
        · refine W.seq ?_
          refine W.regS (SR.q' (r_as (v := .slice none 0 0) rfl) <| SR.q' (r_as (v := .bool false) rfl) <| SR.nil ?_)
          refine W.ret ?_
          refine ret2 rfl (v := .slice none 0 0) (v' := .bool _) rfl rfl ?_
          exact ⟨none, 0, 0, eR (eT2 rfl (eB (z_c_impl_MergeRows_274 a na hbda hlea b nb hbdb hleb h18 hq21 hq22 hq23 hq24 hq25 hq26 n30 hl35 hl36 j n37 c37 hi46 hl47 hq49 h50 h272))), (SlO.eqv (SlO.nil (e := 25) (enc := encLibRow) (fun _ => rfl) (by omega)) (z_c_impl_MergeRows_273 a na hbda hlea b nb hbdb hleb h18 hq21 hq22 hq23 hq24 hq25 hq26 n30 hl35 hl36 j n37 c37 hi46 hl47 hq49 h50 h272)), hB271⟩
        · refine W.skip ?_
          refine W.seq ?_
          refine W.regS (SR.q' (r_mv (v := .slice _ _ _) rfl) <| SR.q' (r_as (v := .slice _ _ _) rfl) <| SR.q' (r_as (v := .bool true) rfl) <| SR.nil ?_)
          refine W.ret ?_
          refine ret2 rfl (v := .slice _ _ _) (v' := .bool _) rfl rfl ?_
          exact ⟨A37, n37, c37, eR (eT2 rfl (eB (z_c_impl_MergeRows_276 a na hbda hlea b nb hbdb hleb h18 hq21 hq22 hq23 hq24 hq25 hq26 n30 hl35 hl36 j n37 c37 hi46 hl47 hq49 h50 h272))), (SlO.eqv (((hO45).lo hk269).down (by omega)) (z_c_impl_MergeRows_275 a na hbda hlea b nb hbdb hleb h18 hq21 hq22 hq23 hq24 hq25 hq26 n30 hl35 hl36 j n37 c37 hi46 hl47 hq49 h50 h272)), hB271⟩
end Go.Proofs.YtnbbfokkpkphoaaGreatDoor
