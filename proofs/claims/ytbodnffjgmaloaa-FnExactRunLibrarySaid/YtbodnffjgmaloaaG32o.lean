/- Walks, printed by a program of this claim's author. -/
import Derived.Test.YtbodnffjgmaloaaChecked
import Derived.Test.YtbodnffjgmaloaaUa
import Derived.Test.YtbodnffjgmaloaaFs
import Derived.Test.YtbodnffjgmaloaaFq
import Derived.Test.YtbodnffjgmaloaaUg
import Derived.Test.YtbodnffjgmaloaaG32n
namespace Go.Proofs.Ytbodnffjgmaloaa
open Go Go.RowKit Fw
set_option maxRecDepth 10000
set_option linter.unusedVariables false


theorem z_c_impl_RunLibrary_43 (x : Library) (nx_Maps : Nat) (hbdx_Maps : (nx_Maps : Int) ≤ 9223372036854775807) (hlex_Maps : nx_Maps = x.Maps.length) (nx_Away : Nat) (hbdx_Away : (nx_Away : Int) ≤ 9223372036854775807) (hlex_Away : nx_Away = x.Away.length) (S : List LibraryStep) (nS : Nat) (hbdS : (nS : Int) ≤ 9223372036854775807) (hleS : nS = S.length) (hp0 : (nx_Maps : Int) ≤ 1048576) (h35 : (¬ (LibOK x)) ∨ (40 < (nS : Int))) : ([] : List LMap) = ((runFL x S).1).Maps := by
  subst hleS
  first | (rw [runFL_no ‹_›]; done) | (rw [runFL_no ‹_›]; rfl) | (rw [runFL_yes ‹_› (And.left (And.right ‹_ ∧ runToL _ _ _ = _ ∧ _›)) (by omega)]; done) | (rw [runFL_yes ‹_› (And.left (And.right ‹_ ∧ runToL _ _ _ = _ ∧ _›)) (by omega)]; rfl)
theorem z_c_impl_RunLibrary_44 (x : Library) (nx_Maps : Nat) (hbdx_Maps : (nx_Maps : Int) ≤ 9223372036854775807) (hlex_Maps : nx_Maps = x.Maps.length) (nx_Away : Nat) (hbdx_Away : (nx_Away : Int) ≤ 9223372036854775807) (hlex_Away : nx_Away = x.Away.length) (S : List LibraryStep) (nS : Nat) (hbdS : (nS : Int) ≤ 9223372036854775807) (hleS : nS = S.length) (hp0 : (nx_Maps : Int) ≤ 1048576) (h35 : (¬ (LibOK x)) ∨ (40 < (nS : Int))) : ([] : List Away) = ((runFL x S).1).Away := by
  subst hleS
  first | (rw [runFL_no ‹_›]; done) | (rw [runFL_no ‹_›]; rfl) | (rw [runFL_yes ‹_› (And.left (And.right ‹_ ∧ runToL _ _ _ = _ ∧ _›)) (by omega)]; done) | (rw [runFL_yes ‹_› (And.left (And.right ‹_ ∧ runToL _ _ _ = _ ∧ _›)) (by omega)]; rfl)
theorem z_c_impl_RunLibrary_45 (x : Library) (nx_Maps : Nat) (hbdx_Maps : (nx_Maps : Int) ≤ 9223372036854775807) (hlex_Maps : nx_Maps = x.Maps.length) (nx_Away : Nat) (hbdx_Away : (nx_Away : Int) ≤ 9223372036854775807) (hlex_Away : nx_Away = x.Away.length) (S : List LibraryStep) (nS : Nat) (hbdS : (nS : Int) ≤ 9223372036854775807) (hleS : nS = S.length) (hp0 : (nx_Maps : Int) ≤ 1048576) (h35 : (¬ (LibOK x)) ∨ (40 < (nS : Int))) : 0 = ((runFL x S).1).Bought := by
  subst hleS
  first | (rw [runFL_no ‹_›]; done) | (rw [runFL_no ‹_›]; rfl) | (rw [runFL_yes ‹_› (And.left (And.right ‹_ ∧ runToL _ _ _ = _ ∧ _›)) (by omega)]; done) | (rw [runFL_yes ‹_› (And.left (And.right ‹_ ∧ runToL _ _ _ = _ ∧ _›)) (by omega)]; rfl)
theorem z_c_impl_RunLibrary_46 (x : Library) (nx_Maps : Nat) (hbdx_Maps : (nx_Maps : Int) ≤ 9223372036854775807) (hlex_Maps : nx_Maps = x.Maps.length) (nx_Away : Nat) (hbdx_Away : (nx_Away : Int) ≤ 9223372036854775807) (hlex_Away : nx_Away = x.Away.length) (S : List LibraryStep) (nS : Nat) (hbdS : (nS : Int) ≤ 9223372036854775807) (hleS : nS = S.length) (hp0 : (nx_Maps : Int) ≤ 1048576) (h35 : (¬ (LibOK x)) ∨ (40 < (nS : Int))) : 0 = ((runFL x S).1).Dropped := by
  subst hleS
  first | (rw [runFL_no ‹_›]; done) | (rw [runFL_no ‹_›]; rfl) | (rw [runFL_yes ‹_› (And.left (And.right ‹_ ∧ runToL _ _ _ = _ ∧ _›)) (by omega)]; done) | (rw [runFL_yes ‹_› (And.left (And.right ‹_ ∧ runToL _ _ _ = _ ∧ _›)) (by omega)]; rfl)
theorem z_c_impl_RunLibrary_47 (x : Library) (nx_Maps : Nat) (hbdx_Maps : (nx_Maps : Int) ≤ 9223372036854775807) (hlex_Maps : nx_Maps = x.Maps.length) (nx_Away : Nat) (hbdx_Away : (nx_Away : Int) ≤ 9223372036854775807) (hlex_Away : nx_Away = x.Away.length) (S : List LibraryStep) (nS : Nat) (hbdS : (nS : Int) ≤ 9223372036854775807) (hleS : nS = S.length) (hp0 : (nx_Maps : Int) ≤ 1048576) (h35 : (¬ (LibOK x)) ∨ (40 < (nS : Int))) : 0 = ((runFL x S).1).Mended := by
  subst hleS
  first | (rw [runFL_no ‹_›]; done) | (rw [runFL_no ‹_›]; rfl) | (rw [runFL_yes ‹_› (And.left (And.right ‹_ ∧ runToL _ _ _ = _ ∧ _›)) (by omega)]; done) | (rw [runFL_yes ‹_› (And.left (And.right ‹_ ∧ runToL _ _ _ = _ ∧ _›)) (by omega)]; rfl)
theorem z_c_impl_RunLibrary_48 (x : Library) (nx_Maps : Nat) (hbdx_Maps : (nx_Maps : Int) ≤ 9223372036854775807) (hlex_Maps : nx_Maps = x.Maps.length) (nx_Away : Nat) (hbdx_Away : (nx_Away : Int) ≤ 9223372036854775807) (hlex_Away : nx_Away = x.Away.length) (S : List LibraryStep) (nS : Nat) (hbdS : (nS : Int) ≤ 9223372036854775807) (hleS : nS = S.length) (hp0 : (nx_Maps : Int) ≤ 1048576) (h35 : (¬ (LibOK x)) ∨ (40 < (nS : Int))) : 0 = (runFL x S).2.1 := by
  subst hleS
  first | (rw [runFL_no ‹_›]; done) | (rw [runFL_no ‹_›]; rfl) | (rw [runFL_yes ‹_› (And.left (And.right ‹_ ∧ runToL _ _ _ = _ ∧ _›)) (by omega)]; done) | (rw [runFL_yes ‹_› (And.left (And.right ‹_ ∧ runToL _ _ _ = _ ∧ _›)) (by omega)]; rfl)
theorem z_c_impl_RunLibrary_49 (x : Library) (nx_Maps : Nat) (hbdx_Maps : (nx_Maps : Int) ≤ 9223372036854775807) (hlex_Maps : nx_Maps = x.Maps.length) (nx_Away : Nat) (hbdx_Away : (nx_Away : Int) ≤ 9223372036854775807) (hlex_Away : nx_Away = x.Away.length) (S : List LibraryStep) (nS : Nat) (hbdS : (nS : Int) ≤ 9223372036854775807) (hleS : nS = S.length) (hp0 : (nx_Maps : Int) ≤ 1048576) (h35 : (¬ (LibOK x)) ∨ (40 < (nS : Int))) : false = (runFL x S).2.2 := by
  subst hleS
  first | (rw [runFL_no ‹_›]; done) | (rw [runFL_no ‹_›]; rfl) | (rw [runFL_yes ‹_› (And.left (And.right ‹_ ∧ runToL _ _ _ = _ ∧ _›)) (by omega)]; done) | (rw [runFL_yes ‹_› (And.left (And.right ‹_ ∧ runToL _ _ _ = _ ∧ _›)) (by omega)]; rfl)
theorem z_c_impl_RunLibrary_96 (x : Library) (nx_Maps : Nat) (hbdx_Maps : (nx_Maps : Int) ≤ 9223372036854775807) (hlex_Maps : nx_Maps = x.Maps.length) (nx_Away : Nat) (hbdx_Away : (nx_Away : Int) ≤ 9223372036854775807) (hlex_Away : nx_Away = x.Away.length) (S : List LibraryStep) (nS : Nat) (hbdS : (nS : Int) ≤ 9223372036854775807) (hleS : nS = S.length) (hp0 : (nx_Maps : Int) ≤ 1048576) (h35 : ¬ ((¬ (LibOK x)) ∨ (40 < (nS : Int)))) (hq50 : LibOK x) (hq51 : ¬ (40 < (nS : Int))) (hq52 : MapsOK x.Maps ∧ x.Maps.length ≤ 8) (hq53 : x.Away.length ≤ 8) (hq54 : MapsOK x.Maps) (hq55 : x.Maps.length ≤ 8) (n60 : Nat) (hl70 : n60 = (x.Maps).length) (hl71 : (n60 : Int) ≤ 9223372036854775807) (n64 : Nat) (hl72 : n64 = (x.Away).length) (hl73 : (n64 : Int) ≤ 9223372036854775807) : 0 ≤ nS ∧ runToL x S 0 = (x, (0 : Int)) ∧ LibOK x ∧ 0 ≤ (0 : Int) ∧ (0 : Int) ≤ (0 : Int) := by
  exact ⟨Nat.zero_le _, rfl, ‹LibOK x›, by omega, by omega⟩
theorem z_c_impl_RunLibrary_194 (x : Library) (nx_Maps : Nat) (hbdx_Maps : (nx_Maps : Int) ≤ 9223372036854775807) (hlex_Maps : nx_Maps = x.Maps.length) (nx_Away : Nat) (hbdx_Away : (nx_Away : Int) ≤ 9223372036854775807) (hlex_Away : nx_Away = x.Away.length) (S : List LibraryStep) (nS : Nat) (hbdS : (nS : Int) ≤ 9223372036854775807) (hleS : nS = S.length) (hp0 : (nx_Maps : Int) ≤ 1048576) (h35 : ¬ ((¬ (LibOK x)) ∨ (40 < (nS : Int)))) (hq50 : LibOK x) (hq51 : ¬ (40 < (nS : Int))) (hq52 : MapsOK x.Maps ∧ x.Maps.length ≤ 8) (hq53 : x.Away.length ≤ 8) (hq54 : MapsOK x.Maps) (hq55 : x.Maps.length ≤ 8) (n60 : Nat) (hl70 : n60 = (x.Maps).length) (hl71 : (n60 : Int) ≤ 9223372036854775807) (n64 : Nat) (hl72 : n64 = (x.Away).length) (hl73 : (n64 : Int) ≤ 9223372036854775807) (k : Nat) (o : Library) (m : Int) (n94 : Nat) (c94 : Nat) (n95 : Nat) (c95 : Nat) (hi106 : k ≤ nS ∧ runToL x S k = (o, m) ∧ LibOK o ∧ 0 ≤ m ∧ m ≤ (k : Int)) (hl114 : n94 = (o.Maps).length) (hl116 : n95 = (o.Away).length) (hq118 : LibOK o) (hq119 : o.Maps.length ≤ 8 ∧ o.Away.length ≤ 8) (hq120 : 0 ≤ m ∧ m ≤ (k : Int)) (h121 : (k : Int) < (nS : Int)) (hx123 : S[k]? = some (gt S k)) (n148 : Nat) (hl158 : n148 = (((impl_Library_stepped o (gt S k)).1).Maps).length) (hl159 : (n148 : Int) ≤ 9223372036854775807) (n152 : Nat) (hl160 : n152 = (((impl_Library_stepped o (gt S k)).1).Away).length) (hl161 : (n152 : Int) ≤ 9223372036854775807) (h187 : ((impl_Library_stepped o (gt S k)).2) = true) : k + 1 ≤ nS ∧ runToL x S (k + 1) = (((impl_Library_stepped o (gt S k)).1), m + 1) ∧ LibOK ((impl_Library_stepped o (gt S k)).1) ∧ 0 ≤ m + 1 ∧ m + 1 ≤ (k + 1 : Int) := by
  have hh := ‹_ ∧ runToL _ _ _ = _ ∧ _›
  first | exact ⟨by omega, (runL_yes hh.2.1 ‹S[k]? = some _› ‹_›).1, (runL_yes hh.2.1 ‹S[k]? = some _› ‹_›).2, by omega, by omega⟩ | exact ⟨by omega, runL_no hh.2.1 ‹S[k]? = some _› ‹_›, hh.2.2.1, by omega, by omega⟩
theorem z_c_impl_RunLibrary_195 (x : Library) (nx_Maps : Nat) (hbdx_Maps : (nx_Maps : Int) ≤ 9223372036854775807) (hlex_Maps : nx_Maps = x.Maps.length) (nx_Away : Nat) (hbdx_Away : (nx_Away : Int) ≤ 9223372036854775807) (hlex_Away : nx_Away = x.Away.length) (S : List LibraryStep) (nS : Nat) (hbdS : (nS : Int) ≤ 9223372036854775807) (hleS : nS = S.length) (hp0 : (nx_Maps : Int) ≤ 1048576) (h35 : ¬ ((¬ (LibOK x)) ∨ (40 < (nS : Int)))) (hq50 : LibOK x) (hq51 : ¬ (40 < (nS : Int))) (hq52 : MapsOK x.Maps ∧ x.Maps.length ≤ 8) (hq53 : x.Away.length ≤ 8) (hq54 : MapsOK x.Maps) (hq55 : x.Maps.length ≤ 8) (n60 : Nat) (hl70 : n60 = (x.Maps).length) (hl71 : (n60 : Int) ≤ 9223372036854775807) (n64 : Nat) (hl72 : n64 = (x.Away).length) (hl73 : (n64 : Int) ≤ 9223372036854775807) (k : Nat) (o : Library) (m : Int) (n94 : Nat) (c94 : Nat) (n95 : Nat) (c95 : Nat) (hi106 : k ≤ nS ∧ runToL x S k = (o, m) ∧ LibOK o ∧ 0 ≤ m ∧ m ≤ (k : Int)) (hl114 : n94 = (o.Maps).length) (hl116 : n95 = (o.Away).length) (hq118 : LibOK o) (hq119 : o.Maps.length ≤ 8 ∧ o.Away.length ≤ 8) (hq120 : 0 ≤ m ∧ m ≤ (k : Int)) (h121 : (k : Int) < (nS : Int)) (hx123 : S[k]? = some (gt S k)) (n148 : Nat) (hl158 : n148 = (((impl_Library_stepped o (gt S k)).1).Maps).length) (hl159 : (n148 : Int) ≤ 9223372036854775807) (n152 : Nat) (hl160 : n152 = (((impl_Library_stepped o (gt S k)).1).Away).length) (hl161 : (n152 : Int) ≤ 9223372036854775807) (h187 : ((impl_Library_stepped o (gt S k)).2) = true) : nS - (k + 1) < nS - k := by
  omega
theorem z_c_impl_RunLibrary_196 (x : Library) (nx_Maps : Nat) (hbdx_Maps : (nx_Maps : Int) ≤ 9223372036854775807) (hlex_Maps : nx_Maps = x.Maps.length) (nx_Away : Nat) (hbdx_Away : (nx_Away : Int) ≤ 9223372036854775807) (hlex_Away : nx_Away = x.Away.length) (S : List LibraryStep) (nS : Nat) (hbdS : (nS : Int) ≤ 9223372036854775807) (hleS : nS = S.length) (hp0 : (nx_Maps : Int) ≤ 1048576) (h35 : ¬ ((¬ (LibOK x)) ∨ (40 < (nS : Int)))) (hq50 : LibOK x) (hq51 : ¬ (40 < (nS : Int))) (hq52 : MapsOK x.Maps ∧ x.Maps.length ≤ 8) (hq53 : x.Away.length ≤ 8) (hq54 : MapsOK x.Maps) (hq55 : x.Maps.length ≤ 8) (n60 : Nat) (hl70 : n60 = (x.Maps).length) (hl71 : (n60 : Int) ≤ 9223372036854775807) (n64 : Nat) (hl72 : n64 = (x.Away).length) (hl73 : (n64 : Int) ≤ 9223372036854775807) (k : Nat) (o : Library) (m : Int) (n94 : Nat) (c94 : Nat) (n95 : Nat) (c95 : Nat) (hi106 : k ≤ nS ∧ runToL x S k = (o, m) ∧ LibOK o ∧ 0 ≤ m ∧ m ≤ (k : Int)) (hl114 : n94 = (o.Maps).length) (hl116 : n95 = (o.Away).length) (hq118 : LibOK o) (hq119 : o.Maps.length ≤ 8 ∧ o.Away.length ≤ 8) (hq120 : 0 ≤ m ∧ m ≤ (k : Int)) (h121 : (k : Int) < (nS : Int)) (hx123 : S[k]? = some (gt S k)) (n148 : Nat) (hl158 : n148 = (((impl_Library_stepped o (gt S k)).1).Maps).length) (hl159 : (n148 : Int) ≤ 9223372036854775807) (n152 : Nat) (hl160 : n152 = (((impl_Library_stepped o (gt S k)).1).Away).length) (hl161 : (n152 : Int) ≤ 9223372036854775807) (h187 : ((impl_Library_stepped o (gt S k)).2) = false) : k + 1 ≤ nS ∧ runToL x S (k + 1) = (o, m) ∧ LibOK o ∧ 0 ≤ m ∧ m ≤ (k + 1 : Int) := by
  have hh := ‹_ ∧ runToL _ _ _ = _ ∧ _›
  first | exact ⟨by omega, (runL_yes hh.2.1 ‹S[k]? = some _› ‹_›).1, (runL_yes hh.2.1 ‹S[k]? = some _› ‹_›).2, by omega, by omega⟩ | exact ⟨by omega, runL_no hh.2.1 ‹S[k]? = some _› ‹_›, hh.2.2.1, by omega, by omega⟩
theorem z_c_impl_RunLibrary_197 (x : Library) (nx_Maps : Nat) (hbdx_Maps : (nx_Maps : Int) ≤ 9223372036854775807) (hlex_Maps : nx_Maps = x.Maps.length) (nx_Away : Nat) (hbdx_Away : (nx_Away : Int) ≤ 9223372036854775807) (hlex_Away : nx_Away = x.Away.length) (S : List LibraryStep) (nS : Nat) (hbdS : (nS : Int) ≤ 9223372036854775807) (hleS : nS = S.length) (hp0 : (nx_Maps : Int) ≤ 1048576) (h35 : ¬ ((¬ (LibOK x)) ∨ (40 < (nS : Int)))) (hq50 : LibOK x) (hq51 : ¬ (40 < (nS : Int))) (hq52 : MapsOK x.Maps ∧ x.Maps.length ≤ 8) (hq53 : x.Away.length ≤ 8) (hq54 : MapsOK x.Maps) (hq55 : x.Maps.length ≤ 8) (n60 : Nat) (hl70 : n60 = (x.Maps).length) (hl71 : (n60 : Int) ≤ 9223372036854775807) (n64 : Nat) (hl72 : n64 = (x.Away).length) (hl73 : (n64 : Int) ≤ 9223372036854775807) (k : Nat) (o : Library) (m : Int) (n94 : Nat) (c94 : Nat) (n95 : Nat) (c95 : Nat) (hi106 : k ≤ nS ∧ runToL x S k = (o, m) ∧ LibOK o ∧ 0 ≤ m ∧ m ≤ (k : Int)) (hl114 : n94 = (o.Maps).length) (hl116 : n95 = (o.Away).length) (hq118 : LibOK o) (hq119 : o.Maps.length ≤ 8 ∧ o.Away.length ≤ 8) (hq120 : 0 ≤ m ∧ m ≤ (k : Int)) (h121 : (k : Int) < (nS : Int)) (hx123 : S[k]? = some (gt S k)) (n148 : Nat) (hl158 : n148 = (((impl_Library_stepped o (gt S k)).1).Maps).length) (hl159 : (n148 : Int) ≤ 9223372036854775807) (n152 : Nat) (hl160 : n152 = (((impl_Library_stepped o (gt S k)).1).Away).length) (hl161 : (n152 : Int) ≤ 9223372036854775807) (h187 : ((impl_Library_stepped o (gt S k)).2) = false) : nS - (k + 1) < nS - k := by
  omega
theorem z_c_impl_RunLibrary_204 (x : Library) (nx_Maps : Nat) (hbdx_Maps : (nx_Maps : Int) ≤ 9223372036854775807) (hlex_Maps : nx_Maps = x.Maps.length) (nx_Away : Nat) (hbdx_Away : (nx_Away : Int) ≤ 9223372036854775807) (hlex_Away : nx_Away = x.Away.length) (S : List LibraryStep) (nS : Nat) (hbdS : (nS : Int) ≤ 9223372036854775807) (hleS : nS = S.length) (hp0 : (nx_Maps : Int) ≤ 1048576) (h35 : ¬ ((¬ (LibOK x)) ∨ (40 < (nS : Int)))) (hq50 : LibOK x) (hq51 : ¬ (40 < (nS : Int))) (hq52 : MapsOK x.Maps ∧ x.Maps.length ≤ 8) (hq53 : x.Away.length ≤ 8) (hq54 : MapsOK x.Maps) (hq55 : x.Maps.length ≤ 8) (n60 : Nat) (hl70 : n60 = (x.Maps).length) (hl71 : (n60 : Int) ≤ 9223372036854775807) (n64 : Nat) (hl72 : n64 = (x.Away).length) (hl73 : (n64 : Int) ≤ 9223372036854775807) (k : Nat) (o : Library) (m : Int) (n94 : Nat) (c94 : Nat) (n95 : Nat) (c95 : Nat) (hi106 : k ≤ nS ∧ runToL x S k = (o, m) ∧ LibOK o ∧ 0 ≤ m ∧ m ≤ (k : Int)) (hl114 : n94 = (o.Maps).length) (hl116 : n95 = (o.Away).length) (hq118 : LibOK o) (hq119 : o.Maps.length ≤ 8 ∧ o.Away.length ≤ 8) (hq120 : 0 ≤ m ∧ m ≤ (k : Int)) (h121 : ¬ ((k : Int) < (nS : Int))) : o.Maps = ((runFL x S).1).Maps := by
  subst hleS
  first | (rw [runFL_no ‹_›]; done) | (rw [runFL_no ‹_›]; rfl) | (rw [runFL_yes ‹_› (And.left (And.right ‹_ ∧ runToL _ _ _ = _ ∧ _›)) (by omega)]; done) | (rw [runFL_yes ‹_› (And.left (And.right ‹_ ∧ runToL _ _ _ = _ ∧ _›)) (by omega)]; rfl)
theorem z_c_impl_RunLibrary_205 (x : Library) (nx_Maps : Nat) (hbdx_Maps : (nx_Maps : Int) ≤ 9223372036854775807) (hlex_Maps : nx_Maps = x.Maps.length) (nx_Away : Nat) (hbdx_Away : (nx_Away : Int) ≤ 9223372036854775807) (hlex_Away : nx_Away = x.Away.length) (S : List LibraryStep) (nS : Nat) (hbdS : (nS : Int) ≤ 9223372036854775807) (hleS : nS = S.length) (hp0 : (nx_Maps : Int) ≤ 1048576) (h35 : ¬ ((¬ (LibOK x)) ∨ (40 < (nS : Int)))) (hq50 : LibOK x) (hq51 : ¬ (40 < (nS : Int))) (hq52 : MapsOK x.Maps ∧ x.Maps.length ≤ 8) (hq53 : x.Away.length ≤ 8) (hq54 : MapsOK x.Maps) (hq55 : x.Maps.length ≤ 8) (n60 : Nat) (hl70 : n60 = (x.Maps).length) (hl71 : (n60 : Int) ≤ 9223372036854775807) (n64 : Nat) (hl72 : n64 = (x.Away).length) (hl73 : (n64 : Int) ≤ 9223372036854775807) (k : Nat) (o : Library) (m : Int) (n94 : Nat) (c94 : Nat) (n95 : Nat) (c95 : Nat) (hi106 : k ≤ nS ∧ runToL x S k = (o, m) ∧ LibOK o ∧ 0 ≤ m ∧ m ≤ (k : Int)) (hl114 : n94 = (o.Maps).length) (hl116 : n95 = (o.Away).length) (hq118 : LibOK o) (hq119 : o.Maps.length ≤ 8 ∧ o.Away.length ≤ 8) (hq120 : 0 ≤ m ∧ m ≤ (k : Int)) (h121 : ¬ ((k : Int) < (nS : Int))) : o.Away = ((runFL x S).1).Away := by
  subst hleS
  first | (rw [runFL_no ‹_›]; done) | (rw [runFL_no ‹_›]; rfl) | (rw [runFL_yes ‹_› (And.left (And.right ‹_ ∧ runToL _ _ _ = _ ∧ _›)) (by omega)]; done) | (rw [runFL_yes ‹_› (And.left (And.right ‹_ ∧ runToL _ _ _ = _ ∧ _›)) (by omega)]; rfl)
theorem z_c_impl_RunLibrary_206 (x : Library) (nx_Maps : Nat) (hbdx_Maps : (nx_Maps : Int) ≤ 9223372036854775807) (hlex_Maps : nx_Maps = x.Maps.length) (nx_Away : Nat) (hbdx_Away : (nx_Away : Int) ≤ 9223372036854775807) (hlex_Away : nx_Away = x.Away.length) (S : List LibraryStep) (nS : Nat) (hbdS : (nS : Int) ≤ 9223372036854775807) (hleS : nS = S.length) (hp0 : (nx_Maps : Int) ≤ 1048576) (h35 : ¬ ((¬ (LibOK x)) ∨ (40 < (nS : Int)))) (hq50 : LibOK x) (hq51 : ¬ (40 < (nS : Int))) (hq52 : MapsOK x.Maps ∧ x.Maps.length ≤ 8) (hq53 : x.Away.length ≤ 8) (hq54 : MapsOK x.Maps) (hq55 : x.Maps.length ≤ 8) (n60 : Nat) (hl70 : n60 = (x.Maps).length) (hl71 : (n60 : Int) ≤ 9223372036854775807) (n64 : Nat) (hl72 : n64 = (x.Away).length) (hl73 : (n64 : Int) ≤ 9223372036854775807) (k : Nat) (o : Library) (m : Int) (n94 : Nat) (c94 : Nat) (n95 : Nat) (c95 : Nat) (hi106 : k ≤ nS ∧ runToL x S k = (o, m) ∧ LibOK o ∧ 0 ≤ m ∧ m ≤ (k : Int)) (hl114 : n94 = (o.Maps).length) (hl116 : n95 = (o.Away).length) (hq118 : LibOK o) (hq119 : o.Maps.length ≤ 8 ∧ o.Away.length ≤ 8) (hq120 : 0 ≤ m ∧ m ≤ (k : Int)) (h121 : ¬ ((k : Int) < (nS : Int))) : o.Bought = ((runFL x S).1).Bought := by
  subst hleS
  first | (rw [runFL_no ‹_›]; done) | (rw [runFL_no ‹_›]; rfl) | (rw [runFL_yes ‹_› (And.left (And.right ‹_ ∧ runToL _ _ _ = _ ∧ _›)) (by omega)]; done) | (rw [runFL_yes ‹_› (And.left (And.right ‹_ ∧ runToL _ _ _ = _ ∧ _›)) (by omega)]; rfl)
theorem z_c_impl_RunLibrary_207 (x : Library) (nx_Maps : Nat) (hbdx_Maps : (nx_Maps : Int) ≤ 9223372036854775807) (hlex_Maps : nx_Maps = x.Maps.length) (nx_Away : Nat) (hbdx_Away : (nx_Away : Int) ≤ 9223372036854775807) (hlex_Away : nx_Away = x.Away.length) (S : List LibraryStep) (nS : Nat) (hbdS : (nS : Int) ≤ 9223372036854775807) (hleS : nS = S.length) (hp0 : (nx_Maps : Int) ≤ 1048576) (h35 : ¬ ((¬ (LibOK x)) ∨ (40 < (nS : Int)))) (hq50 : LibOK x) (hq51 : ¬ (40 < (nS : Int))) (hq52 : MapsOK x.Maps ∧ x.Maps.length ≤ 8) (hq53 : x.Away.length ≤ 8) (hq54 : MapsOK x.Maps) (hq55 : x.Maps.length ≤ 8) (n60 : Nat) (hl70 : n60 = (x.Maps).length) (hl71 : (n60 : Int) ≤ 9223372036854775807) (n64 : Nat) (hl72 : n64 = (x.Away).length) (hl73 : (n64 : Int) ≤ 9223372036854775807) (k : Nat) (o : Library) (m : Int) (n94 : Nat) (c94 : Nat) (n95 : Nat) (c95 : Nat) (hi106 : k ≤ nS ∧ runToL x S k = (o, m) ∧ LibOK o ∧ 0 ≤ m ∧ m ≤ (k : Int)) (hl114 : n94 = (o.Maps).length) (hl116 : n95 = (o.Away).length) (hq118 : LibOK o) (hq119 : o.Maps.length ≤ 8 ∧ o.Away.length ≤ 8) (hq120 : 0 ≤ m ∧ m ≤ (k : Int)) (h121 : ¬ ((k : Int) < (nS : Int))) : o.Dropped = ((runFL x S).1).Dropped := by
  subst hleS
  first | (rw [runFL_no ‹_›]; done) | (rw [runFL_no ‹_›]; rfl) | (rw [runFL_yes ‹_› (And.left (And.right ‹_ ∧ runToL _ _ _ = _ ∧ _›)) (by omega)]; done) | (rw [runFL_yes ‹_› (And.left (And.right ‹_ ∧ runToL _ _ _ = _ ∧ _›)) (by omega)]; rfl)
theorem z_c_impl_RunLibrary_208 (x : Library) (nx_Maps : Nat) (hbdx_Maps : (nx_Maps : Int) ≤ 9223372036854775807) (hlex_Maps : nx_Maps = x.Maps.length) (nx_Away : Nat) (hbdx_Away : (nx_Away : Int) ≤ 9223372036854775807) (hlex_Away : nx_Away = x.Away.length) (S : List LibraryStep) (nS : Nat) (hbdS : (nS : Int) ≤ 9223372036854775807) (hleS : nS = S.length) (hp0 : (nx_Maps : Int) ≤ 1048576) (h35 : ¬ ((¬ (LibOK x)) ∨ (40 < (nS : Int)))) (hq50 : LibOK x) (hq51 : ¬ (40 < (nS : Int))) (hq52 : MapsOK x.Maps ∧ x.Maps.length ≤ 8) (hq53 : x.Away.length ≤ 8) (hq54 : MapsOK x.Maps) (hq55 : x.Maps.length ≤ 8) (n60 : Nat) (hl70 : n60 = (x.Maps).length) (hl71 : (n60 : Int) ≤ 9223372036854775807) (n64 : Nat) (hl72 : n64 = (x.Away).length) (hl73 : (n64 : Int) ≤ 9223372036854775807) (k : Nat) (o : Library) (m : Int) (n94 : Nat) (c94 : Nat) (n95 : Nat) (c95 : Nat) (hi106 : k ≤ nS ∧ runToL x S k = (o, m) ∧ LibOK o ∧ 0 ≤ m ∧ m ≤ (k : Int)) (hl114 : n94 = (o.Maps).length) (hl116 : n95 = (o.Away).length) (hq118 : LibOK o) (hq119 : o.Maps.length ≤ 8 ∧ o.Away.length ≤ 8) (hq120 : 0 ≤ m ∧ m ≤ (k : Int)) (h121 : ¬ ((k : Int) < (nS : Int))) : o.Mended = ((runFL x S).1).Mended := by
  subst hleS
  first | (rw [runFL_no ‹_›]; done) | (rw [runFL_no ‹_›]; rfl) | (rw [runFL_yes ‹_› (And.left (And.right ‹_ ∧ runToL _ _ _ = _ ∧ _›)) (by omega)]; done) | (rw [runFL_yes ‹_› (And.left (And.right ‹_ ∧ runToL _ _ _ = _ ∧ _›)) (by omega)]; rfl)
theorem z_c_impl_RunLibrary_209 (x : Library) (nx_Maps : Nat) (hbdx_Maps : (nx_Maps : Int) ≤ 9223372036854775807) (hlex_Maps : nx_Maps = x.Maps.length) (nx_Away : Nat) (hbdx_Away : (nx_Away : Int) ≤ 9223372036854775807) (hlex_Away : nx_Away = x.Away.length) (S : List LibraryStep) (nS : Nat) (hbdS : (nS : Int) ≤ 9223372036854775807) (hleS : nS = S.length) (hp0 : (nx_Maps : Int) ≤ 1048576) (h35 : ¬ ((¬ (LibOK x)) ∨ (40 < (nS : Int)))) (hq50 : LibOK x) (hq51 : ¬ (40 < (nS : Int))) (hq52 : MapsOK x.Maps ∧ x.Maps.length ≤ 8) (hq53 : x.Away.length ≤ 8) (hq54 : MapsOK x.Maps) (hq55 : x.Maps.length ≤ 8) (n60 : Nat) (hl70 : n60 = (x.Maps).length) (hl71 : (n60 : Int) ≤ 9223372036854775807) (n64 : Nat) (hl72 : n64 = (x.Away).length) (hl73 : (n64 : Int) ≤ 9223372036854775807) (k : Nat) (o : Library) (m : Int) (n94 : Nat) (c94 : Nat) (n95 : Nat) (c95 : Nat) (hi106 : k ≤ nS ∧ runToL x S k = (o, m) ∧ LibOK o ∧ 0 ≤ m ∧ m ≤ (k : Int)) (hl114 : n94 = (o.Maps).length) (hl116 : n95 = (o.Away).length) (hq118 : LibOK o) (hq119 : o.Maps.length ≤ 8 ∧ o.Away.length ≤ 8) (hq120 : 0 ≤ m ∧ m ≤ (k : Int)) (h121 : ¬ ((k : Int) < (nS : Int))) : m = (runFL x S).2.1 := by
  subst hleS
  first | (rw [runFL_no ‹_›]; done) | (rw [runFL_no ‹_›]; rfl) | (rw [runFL_yes ‹_› (And.left (And.right ‹_ ∧ runToL _ _ _ = _ ∧ _›)) (by omega)]; done) | (rw [runFL_yes ‹_› (And.left (And.right ‹_ ∧ runToL _ _ _ = _ ∧ _›)) (by omega)]; rfl)
theorem z_c_impl_RunLibrary_210 (x : Library) (nx_Maps : Nat) (hbdx_Maps : (nx_Maps : Int) ≤ 9223372036854775807) (hlex_Maps : nx_Maps = x.Maps.length) (nx_Away : Nat) (hbdx_Away : (nx_Away : Int) ≤ 9223372036854775807) (hlex_Away : nx_Away = x.Away.length) (S : List LibraryStep) (nS : Nat) (hbdS : (nS : Int) ≤ 9223372036854775807) (hleS : nS = S.length) (hp0 : (nx_Maps : Int) ≤ 1048576) (h35 : ¬ ((¬ (LibOK x)) ∨ (40 < (nS : Int)))) (hq50 : LibOK x) (hq51 : ¬ (40 < (nS : Int))) (hq52 : MapsOK x.Maps ∧ x.Maps.length ≤ 8) (hq53 : x.Away.length ≤ 8) (hq54 : MapsOK x.Maps) (hq55 : x.Maps.length ≤ 8) (n60 : Nat) (hl70 : n60 = (x.Maps).length) (hl71 : (n60 : Int) ≤ 9223372036854775807) (n64 : Nat) (hl72 : n64 = (x.Away).length) (hl73 : (n64 : Int) ≤ 9223372036854775807) (k : Nat) (o : Library) (m : Int) (n94 : Nat) (c94 : Nat) (n95 : Nat) (c95 : Nat) (hi106 : k ≤ nS ∧ runToL x S k = (o, m) ∧ LibOK o ∧ 0 ≤ m ∧ m ≤ (k : Int)) (hl114 : n94 = (o.Maps).length) (hl116 : n95 = (o.Away).length) (hq118 : LibOK o) (hq119 : o.Maps.length ≤ 8 ∧ o.Away.length ≤ 8) (hq120 : 0 ≤ m ∧ m ≤ (k : Int)) (h121 : ¬ ((k : Int) < (nS : Int))) : true = (runFL x S).2.2 := by
  subst hleS
  first | (rw [runFL_no ‹_›]; done) | (rw [runFL_no ‹_›]; rfl) | (rw [runFL_yes ‹_› (And.left (And.right ‹_ ∧ runToL _ _ _ = _ ∧ _›)) (by omega)]; done) | (rw [runFL_yes ‹_› (And.left (And.right ‹_ ∧ runToL _ _ _ = _ ∧ _›)) (by omega)]; rfl)
theorem c_impl_RunLibrary (w : World) (x : Library) {Ax_Maps : Option Addr} {nx_Maps cx_Maps Bx_Maps : Nat} (hx_Maps : SlR w Bx_Maps encLMap 3 Ax_Maps nx_Maps cx_Maps x.Maps) {Ax_Away : Option Addr} {nx_Away cx_Away Bx_Away : Nat} (hx_Away : SlR w Bx_Away encAway 2 Ax_Away nx_Away cx_Away x.Away) {AS : Option Addr} {nS cS BS : Nat}  (S : List LibraryStep) (hS : SlR w BS encLibraryStep 4 AS nS cS S) (hp0 : (nx_Maps : Int) ≤ 1048576) : Calls Try.prog 40 #[.agg (List.toArray [.slice Ax_Maps nx_Maps cx_Maps, .slice Ax_Away nx_Away cx_Away, .int .i64 x.Bought, .int .i64 x.Dropped, .int .i64 x.Mended]), .slice AS nS cS] w fun e w' => ∃ (A1' : Option Addr) (n1' c1' : Nat) (A2' : Option Addr) (n2' c2' : Nat), e = .returned (.tuple (List.toArray [.agg (List.toArray [.slice A1' n1' c1', .slice A2' n2' c2', .int .i64 (((runFL x S).1).Bought), .int .i64 (((runFL x S).1).Dropped), .int .i64 (((runFL x S).1).Mended)]), .int .i64 ((runFL x S).2.1), .bool ((runFL x S).2.2)])) ∧ SlO w' w.heap.size encLMap 3 73 A1' n1' c1' (((runFL x S).1).Maps) ∧ SlO w' w.heap.size encAway 2 77 A2' n2' c2' (((runFL x S).1).Away) ∧ (∀ b_, A1' = some ⟨b_, 0, none⟩ → ¬ A2' = some ⟨b_, 0, none⟩) ∧ Lo w w' := by
  refine calls_W 43 Try.func40 rfl rfl rfl ?_
  have hbdx_Maps := hx_Maps.bound
  have hlex_Maps := hx_Maps.len
  have hBbx_Maps := hx_Maps.bd
  have hbdx_Away := hx_Away.bound
  have hlex_Away := hx_Away.len
  have hBbx_Away := hx_Away.bd
  have hbdS := hS.bound
  have hleS := hS.len
  have hBbS := hS.bd
  refine W.seq ?_
  refine W.regS (SR.box (v := .agg (List.toArray _)) (l := [.slice Ax_Maps nx_Maps cx_Maps, .slice Ax_Away nx_Away cx_Away, .int .i64 x.Bought, .int .i64 x.Dropped, .int .i64 x.Mended]) rfl rfl ?_)
  intro g1 w2 hg3 hk4 hs5 hb6
  have hz7 := hk4.size
  have hB8 := (Lo.refl w).lo hk4
  refine SR.alloc (l := [.slice none 0 0, .slice none 0 0, .int .i64 0, .int .i64 0, .int .i64 0]) tz31 rfl ?_
  intro g9 w10 hg11 hk12 hs13 hb14
  have hz15 := hk12.size
  have hB16 := hB8.lo hk12
  refine SR.q' (r_as (v := .int .i64 0) rfl) <| SR.q' (r_as (v := .bool false) rfl) <| SR.nil ?_
  refine W.seq ?_
  refine W.seq ?_
  have hm17 := ((hS).lo hk4).lo hk12
  have hm18 := ((hx_Maps).lo hk4).lo hk12
  have hm19 := ((hx_Away).lo hk4).lo hk12
  refine W.regJS (fun f' w' => At f' [(1, .slice AS nS cS), (2, .pointer (some ((⟨g1, 0, none⟩ : Addr)))), (4, .pointer (some ((⟨g9, 0, none⟩ : Addr)))), (5, .int .i64 0), (6, .bool false), (20, .bool (decide ((¬ (LibOK x)) ∨ (40 < (nS : Int)))))] ∧ Lo w10 w') ?_ ?_
  · refine SR.q' (r_lda (l := [.slice Ax_Maps nx_Maps cx_Maps, .slice Ax_Away nx_Away cx_Away, .int .i64 x.Bought, .int .i64 x.Dropped, .int .i64 x.Mended]) agg31 rfl (fun _ _ hu => ((hb6).lo hk12).cell hu) rfl) <| SR.call ent15 (c_impl_IsLibrary w10 x ((hm18)) ((hm19)) (by omega)) rfl ?_
    rintro e w20 ⟨rfl, hk21⟩
    refine ⟨_, rfl, ?_⟩
    have hz22 := hk21.size
    have hB23 := hB16.lo hk21
    refine SR.q' (r_not rfl) <| SR.q' (r_mv (v := .bool _) rfl) <| SR.splitN (fun h24 => ?_) (fun h24 => ?_)
    · refine SR.s' rfl <| SR.s' rfl <| SR.s' rfl <| SR.q' (r_pick true rfl (v := .bool true) rfl) <| SR.nil ?_
      exact ⟨_, rfl, ⟨⟨rfl, rfl, rfl, rfl, rfl, (eDT ((jmf h24).1 trivial)), trivial⟩, (hk21)⟩⟩
    · have hq25 := And.left h24
      have hq26 := lib_len h24
      have hq27 := And.left hq25
      have hq28 := And.right hq25
      refine SR.g' rfl (r_mv (v := .slice _ _ _) rfl) <| SR.g' rfl (r_len und57 rfl) <| SR.g' rfl (r_gt rfl rfl) <| SR.q' (r_pick false rfl (v := .bool _) rfl) <| SR.nil ?_
      exact ⟨_, rfl, ⟨⟨rfl, rfl, rfl, rfl, rfl, (eDD (jmt h24)), trivial⟩, (hk21)⟩⟩
  rintro f29 w30 ⟨hat31, hk32⟩
  rw [← sets_of_at hat31]
  have hz33 := hk32.size
  have hB34 := hB16.lo hk32
  refine W.cond_d rfl (fun h35 => ?_) (fun h35 => ?_)
  · refine W.seq ?_
    have hm36 := ((hb6).lo hk12).lo hk32
    refine W.regS (SR.q' (r_build (vs := []) rfl (bld31_)) <| SR.store (o := 0) (vs := [.slice none 0 0, .slice none 0 0, .int .i64 0, .int .i64 0, .int .i64 0]) agg31.2 rfl rfl rfl rfl ((hb14).lo hk32) (Nat.le_of_ble_eq_true rfl) rfl ?_)
    intro w37 hk38 hs39 hb40
    have hz41 := hk38.size
    have hB42 := hB34.new hk38 (by omega)
    refine SR.q' (r_as (v := .int .i64 0) rfl) <| SR.q' (r_as (v := .bool false) rfl) <| SR.nil ?_
    refine W.ret ?_
    refine retCTT rfl rfl agg31 (hb40) rfl (v := .int .i64 _) rfl (v' := .bool _) rfl ?_
    exact ⟨none, 0, 0, none, 0, 0, eR (eT3 (eA (eC rfl (eC rfl (eC (eI (z_c_impl_RunLibrary_45 x nx_Maps hbdx_Maps hlex_Maps nx_Away hbdx_Away hlex_Away S nS hbdS hleS hp0 h35)) (eC (eI (z_c_impl_RunLibrary_46 x nx_Maps hbdx_Maps hlex_Maps nx_Away hbdx_Away hlex_Away S nS hbdS hleS hp0 h35)) (eC (eI (z_c_impl_RunLibrary_47 x nx_Maps hbdx_Maps hlex_Maps nx_Away hbdx_Away hlex_Away S nS hbdS hleS hp0 h35)) rfl)))))) (eI (z_c_impl_RunLibrary_48 x nx_Maps hbdx_Maps hlex_Maps nx_Away hbdx_Away hlex_Away S nS hbdS hleS hp0 h35)) (eB (z_c_impl_RunLibrary_49 x nx_Maps hbdx_Maps hlex_Maps nx_Away hbdx_Away hlex_Away S nS hbdS hleS hp0 h35))), (SlO.eqv (SlO.nil (e := 73) (enc := encLMap) (fun _ => rfl) (by omega)) (z_c_impl_RunLibrary_43 x nx_Maps hbdx_Maps hlex_Maps nx_Away hbdx_Away hlex_Away S nS hbdS hleS hp0 h35)), (SlO.eqv (SlO.nil (e := 77) (enc := encAway) (fun _ => rfl) (by omega)) (z_c_impl_RunLibrary_44 x nx_Maps hbdx_Maps hlex_Maps nx_Away hbdx_Away hlex_Away S nS hbdS hleS hp0 h35)), (fun b_ h => by cases h), hB42⟩
  · have hq50 : LibOK x := (Classical.not_not.1 (not_or.1 h35).1)
    have hq51 : ¬ (40 < (nS : Int)) := (not_or.1 h35).2
    have hq52 := And.left hq50
    have hq53 := lib_len hq50
    have hq54 := And.left hq52
    have hq55 := And.right hq52
    refine W.skip ?_
    refine W.seq ?_
    have hm56 := ((hb6).lo hk12).lo hk32
    refine W.regS (SR.q' (r_lda (l := [.slice Ax_Maps nx_Maps cx_Maps, .slice Ax_Away nx_Away cx_Away, .int .i64 x.Bought, .int .i64 x.Dropped, .int .i64 x.Mended]) agg31 rfl (fun _ _ hu => (hm56).cell hu) rfl) <| SR.call ent78 (c__impl_Library__own w30 x (((hm18).lo hk32)) (((hm19).lo hk32)) (by omega) (by omega)) rfl ?_)
    rintro e w57 ⟨A59, n60, c61, A63, n64, c65, rfl, hO62, hO66, hd67, hk58⟩
    refine ⟨_, rfl, ?_⟩
    have hz68 := hk58.size
    have hB69 := hB34.lo hk58
    have hl70 := hO62.len
    have hl71 := hO62.rd.bound
    have hl72 := hO66.len
    have hl73 := hO66.rd.bound
    refine SR.alloc (l := [.slice none 0 0, .slice none 0 0, .int .i64 0, .int .i64 0, .int .i64 0]) tz31 rfl ?_
    intro g74 w75 hg76 hk77 hs78 hb79
    have hz80 := hk77.size
    have hB81 := hB69.lo hk77
    have hd82 : ¬ A59 = some ⟨g74, 0, none⟩ := fun e' => by have := (hO62).base_le e'; omega
    have hd83 : ¬ A63 = some ⟨g74, 0, none⟩ := fun e' => by have := (hO66).base_le e'; omega
    refine SR.store (o := 0) (vs := [.slice A59 n60 c61, .slice A63 n64 c65, .int .i64 x.Bought, .int .i64 x.Dropped, .int .i64 x.Mended]) agg31.2 rfl rfl rfl rfl (hb79) (Nat.le_of_ble_eq_true rfl) rfl ?_
    intro w84 hk85 hs86 hb87
    have hz88 := hk85.size
    have hB89 := hB81.new hk85 (by omega)
    refine SR.q' (r_as (v := .int .i64 0) rfl) <| SR.nil ?_
    refine W.seq ?_
    refine W.seq ?_
    have hm90 := ((((hm17).lo hk32).lo hk58).lo hk77).kp hk85 (fun b_ hb e' => by have e'' : b_ = g74 := e'; omega)
    have hm91 := ((((hb14).lo hk32).lo hk58).lo hk77).kp hk85 (fun e' => by have e'' : g9 = g74 := e'; omega)
    have hm92 := ((hO62).lo hk77).kp hk85 (fun b_ hb e' => hd82 (by have e'' : b_ = g74 := e'; rw [← e'']; exact hb))
    have hm93 := ((hO66).lo hk77).kp hk85 (fun b_ hb e' => hd83 (by have e'' : b_ = g74 := e'; rw [← e'']; exact hb))
    refine W.regS (SR.q' (r_mv (v := .slice _ _ _) rfl) <| SR.q' (r_len und57 rfl) <| SR.q' (r_mv (v := .int .i64 0) rfl) <| SR.nil ?_)
    refine W.block ?_
    refine W.loop (σ := Nat × Library × Int × (Option Addr) × Nat × Nat × (Option Addr) × Nat × Nat) (fun g => [(4, .pointer (some ((⟨g9, 0, none⟩ : Addr)))), (5, .int .i64 0), (6, .bool false), (7, .pointer (some ((⟨g74, 0, none⟩ : Addr)))), (8, .int .i64 g.2.2.1), (24, .slice AS nS cS), (25, .int .i64 (nS : Int)), (26, .int .i64 (g.1 : Int))]) (fun g w' => (Lo w w') ∧ (Blk w' g9 31 [.slice none 0 0, .slice none 0 0, .int .i64 0, .int .i64 0, .int .i64 0]) ∧ (Blk w' g74 31 [.slice g.2.2.2.1 g.2.2.2.2.1 g.2.2.2.2.2.1, .slice g.2.2.2.2.2.2.1 g.2.2.2.2.2.2.2.1 g.2.2.2.2.2.2.2.2, .int .i64 g.2.1.Bought, .int .i64 g.2.1.Dropped, .int .i64 g.2.1.Mended]) ∧ (SlR w' BS encLibraryStep 4 AS nS cS S) ∧ (SlO w' w.heap.size encLMap 3 73 g.2.2.2.1 g.2.2.2.2.1 g.2.2.2.2.2.1 g.2.1.Maps) ∧ (SlO w' w.heap.size encAway 2 77 g.2.2.2.2.2.2.1 g.2.2.2.2.2.2.2.1 g.2.2.2.2.2.2.2.2 g.2.1.Away) ∧ (¬ g.2.2.2.1 = some ⟨g9, 0, none⟩) ∧ (¬ g.2.2.2.1 = some ⟨g74, 0, none⟩) ∧ (∀ b_, g.2.2.2.1 = some ⟨b_, 0, none⟩ → ¬ g.2.2.2.2.2.2.1 = some ⟨b_, 0, none⟩) ∧ (¬ g.2.2.2.2.2.2.1 = some ⟨g9, 0, none⟩) ∧ (¬ g.2.2.2.2.2.2.1 = some ⟨g74, 0, none⟩) ∧ (g.1 ≤ nS ∧ runToL x S g.1 = (g.2.1, g.2.2.1) ∧ LibOK g.2.1 ∧ 0 ≤ g.2.2.1 ∧ g.2.2.1 ≤ (g.1 : Int))) (fun g => nS - g.1) (0, x, (0 : Int), A59, n60, c61, A63, n64, c65) ?_ ?_ ?_
    · exact ⟨rfl, rfl, rfl, rfl, rfl, rfl, rfl, rfl, trivial⟩
    · show (Lo w w84) ∧ (Blk w84 g9 31 [.slice none 0 0, .slice none 0 0, .int .i64 0, .int .i64 0, .int .i64 0]) ∧ (Blk w84 g74 31 [.slice A59 n60 c61, .slice A63 n64 c65, .int .i64 x.Bought, .int .i64 x.Dropped, .int .i64 x.Mended]) ∧ (SlR w84 BS encLibraryStep 4 AS nS cS S) ∧ (SlO w84 w.heap.size encLMap 3 73 A59 n60 c61 x.Maps) ∧ (SlO w84 w.heap.size encAway 2 77 A63 n64 c65 x.Away) ∧ (¬ A59 = some ⟨g9, 0, none⟩) ∧ (¬ A59 = some ⟨g74, 0, none⟩) ∧ (∀ b_, A59 = some ⟨b_, 0, none⟩ → ¬ A63 = some ⟨b_, 0, none⟩) ∧ (¬ A63 = some ⟨g9, 0, none⟩) ∧ (¬ A63 = some ⟨g74, 0, none⟩) ∧ (0 ≤ nS ∧ runToL x S 0 = (x, (0 : Int)) ∧ LibOK x ∧ 0 ≤ (0 : Int) ∧ (0 : Int) ≤ (0 : Int))
      exact ⟨hB89, hm91, (hb87), hm90, ((hm92).down (by omega)), ((hm93).down (by omega)), (fun e' => by have := (hm92).base_le e'; omega), hd82, hd67, (fun e' => by have := (hm93).base_le e'; omega), hd83, (z_c_impl_RunLibrary_96 x nx_Maps hbdx_Maps hlex_Maps nx_Away hbdx_Away hlex_Away S nS hbdS hleS hp0 h35 hq50 hq51 hq52 hq53 hq54 hq55 n60 hl70 hl71 n64 hl72 hl73)⟩
    · rintro ⟨k, o, m, A94, n94, c94, A95, n95, c95⟩ f97 w98 hP100
      obtain ⟨hB99, hm101, hm102, hm103, hO104, hO105, hd107, hd108, hd109, hd110, hd111, hi106⟩ : (Lo w w98) ∧ (Blk w98 g9 31 [.slice none 0 0, .slice none 0 0, .int .i64 0, .int .i64 0, .int .i64 0]) ∧ (Blk w98 g74 31 [.slice A94 n94 c94, .slice A95 n95 c95, .int .i64 o.Bought, .int .i64 o.Dropped, .int .i64 o.Mended]) ∧ (SlR w98 BS encLibraryStep 4 AS nS cS S) ∧ (SlO w98 w.heap.size encLMap 3 73 A94 n94 c94 o.Maps) ∧ (SlO w98 w.heap.size encAway 2 77 A95 n95 c95 o.Away) ∧ (¬ A94 = some ⟨g9, 0, none⟩) ∧ (¬ A94 = some ⟨g74, 0, none⟩) ∧ (∀ b_, A94 = some ⟨b_, 0, none⟩ → ¬ A95 = some ⟨b_, 0, none⟩) ∧ (¬ A95 = some ⟨g9, 0, none⟩) ∧ (¬ A95 = some ⟨g74, 0, none⟩) ∧ (k ≤ nS ∧ runToL x S k = (o, m) ∧ LibOK o ∧ 0 ≤ m ∧ m ≤ (k : Int)) := hP100
      refine (?_ : W _ _ _ _ _ (act _ (sets f97 [(4, .pointer (some ((⟨g9, 0, none⟩ : Addr)))), (5, .int .i64 0), (6, .bool false), (7, .pointer (some ((⟨g74, 0, none⟩ : Addr)))), (8, .int .i64 m), (24, .slice AS nS cS), (25, .int .i64 (nS : Int)), (26, .int .i64 (k : Int))])) _)
      have hzw98 := hB99.size
      have hl112 := hm101.lt
      have hl113 := hm102.lt
      have hl114 := hO104.len
      have hl115 := hO104.rd.bound
      have hl116 := hO105.len
      have hl117 := hO105.rd.bound
      have hq118 : LibOK o := hi106.2.2.1
      have hq119 : o.Maps.length ≤ 8 ∧ o.Away.length ≤ 8 := And.intro (lib_rng hi106.2.2.1).1 (lib_rng hi106.2.2.1).2.1
      have hq120 : 0 ≤ m ∧ m ≤ (k : Int) := hi106.2.2.2
      refine W.seq ?_
      refine W.regS (SR.q' (r_lt rfl rfl) <| SR.nil ?_)
      refine W.seq ?_
      refine W.cond_d rfl (fun h121 => ?_) (fun h121 => ?_)
      · refine W.skip ?_
        refine W.seq ?_
        refine W.block ?_
        refine W.seq ?_
        have hx123 := (hm103).elem (i := k) (by omega)
        refine W.regS (SR.q' (r_ixR tsl57 (hm103) rfl rfl (by omega)) <| SR.q' (r_lda (l := encLibraryStep (gt S k)) agg49 rfl (fun _ _ hu => (hm103).cell hx123 hu) ((hm103).esz _)) <| SR.alloc (l := [.int .i64 0, .int .i64 0, .int .i64 0, .int .i64 0]) tz49 rfl ?_)
        intro g124 w125 hg126 hk127 hs128 hb129
        have hz130 := hk127.size
        have hB131 := hB99.lo hk127
        have hd132 : ¬ A94 = some ⟨g124, 0, none⟩ := fun e' => by have := (hO104).base_le e'; omega
        have hd133 : ¬ A95 = some ⟨g124, 0, none⟩ := fun e' => by have := (hO105).base_le e'; omega
        refine SR.store (o := 0) (vs := [.int .i64 ((gt S k).Kind), .int .i64 ((gt S k).Id), .int .i64 ((gt S k).Reader), .int .i64 ((gt S k).Value)]) agg49.2 rfl rfl rfl rfl (hb129) (Nat.le_of_ble_eq_true rfl) rfl ?_
        intro w134 hk135 hs136 hb137
        have hz138 := hk135.size
        have hB139 := hB131.new hk135 (by omega)
        refine SR.nil ?_
        refine W.seq ?_
        have hm140 := ((hm101).lo hk127).kp hk135 (fun e' => by have e'' : g9 = g124 := e'; omega)
        have hm141 := ((hm102).lo hk127).kp hk135 (fun e' => by have e'' : g74 = g124 := e'; omega)
        have hm142 := ((hO104).lo hk127).kp hk135 (fun b_ hb e' => hd132 (by have e'' : b_ = g124 := e'; rw [← e'']; exact hb))
        have hm143 := ((hO105).lo hk127).kp hk135 (fun b_ hb e' => hd133 (by have e'' : b_ = g124 := e'; rw [← e'']; exact hb))
        have hm144 := ((hm103).lo hk127).kp hk135 (fun b_ hb e' => by have e'' : b_ = g124 := e'; omega)
        refine W.regS (SR.q' (r_lda (l := [.slice A94 n94 c94, .slice A95 n95 c95, .int .i64 o.Bought, .int .i64 o.Dropped, .int .i64 o.Mended]) agg31 rfl (fun _ _ hu => (hm141).cell hu) rfl) <| SR.q' (r_lda (l := [.int .i64 ((gt S k).Kind), .int .i64 ((gt S k).Id), .int .i64 ((gt S k).Reader), .int .i64 ((gt S k).Value)]) agg49 rfl (fun _ _ hu => (hb137).cell hu) rfl) <| SR.call ent69 (c__impl_Library__stepped w134 o (((hm142).rd)) (((hm143).rd)) (gt S k) (by omega) (by omega)) rfl ?_)
        rintro e w145 ⟨A147, n148, c149, A151, n152, c153, rfl, hO150, hO154, hd155, hk146⟩
        refine ⟨_, rfl, ?_⟩
        have hz156 := hk146.size
        have hB157 := hB139.lo hk146
        have hl158 := hO150.len
        have hl159 := hO150.rd.bound
        have hl160 := hO154.len
        have hl161 := hO154.rd.bound
        refine SR.q' (r_mv (v := .tuple (List.toArray _)) rfl) <| SR.q' (r_ext (v := .agg (List.toArray _)) rfl rfl) <| SR.q' (r_ext (v := .bool _) rfl rfl) <| SR.alloc (l := [.slice none 0 0, .slice none 0 0, .int .i64 0, .int .i64 0, .int .i64 0]) tz31 rfl ?_
        intro g162 w163 hg164 hk165 hs166 hb167
        have hz168 := hk165.size
        have hB169 := hB157.lo hk165
        have hd170 : ¬ A94 = some ⟨g162, 0, none⟩ := fun e' => by have := ((hm142).lo hk146).base_le e'; omega
        have hd171 : ¬ A95 = some ⟨g162, 0, none⟩ := fun e' => by have := ((hm143).lo hk146).base_le e'; omega
        have hd172 : ¬ A147 = some ⟨g162, 0, none⟩ := fun e' => by have := (hO150).base_le e'; omega
        have hd173 : ¬ A151 = some ⟨g162, 0, none⟩ := fun e' => by have := (hO154).base_le e'; omega
        refine SR.store (o := 0) (vs := [.slice A147 n148 c149, .slice A151 n152 c153, .int .i64 (((impl_Library_stepped o (gt S k)).1).Bought), .int .i64 (((impl_Library_stepped o (gt S k)).1).Dropped), .int .i64 (((impl_Library_stepped o (gt S k)).1).Mended)]) agg31.2 rfl rfl rfl rfl (hb167) (Nat.le_of_ble_eq_true rfl) rfl ?_
        intro w174 hk175 hs176 hb177
        have hz178 := hk175.size
        have hB179 := hB169.new hk175 (by omega)
        refine SR.q' (r_as (v := .bool _) rfl) <| SR.nil ?_
        refine W.seq ?_
        have hm180 := (((hm140).lo hk146).lo hk165).kp hk175 (fun e' => by have e'' : g9 = g162 := e'; omega)
        have hm181 := (((hm141).lo hk146).lo hk165).kp hk175 (fun e' => by have e'' : g74 = g162 := e'; omega)
        have hm182 := (((hm142).lo hk146).lo hk165).kp hk175 (fun b_ hb e' => hd170 (by have e'' : b_ = g162 := e'; rw [← e'']; exact hb))
        have hm183 := (((hm143).lo hk146).lo hk165).kp hk175 (fun b_ hb e' => hd171 (by have e'' : b_ = g162 := e'; rw [← e'']; exact hb))
        have hm184 := ((hO150).lo hk165).kp hk175 (fun b_ hb e' => hd172 (by have e'' : b_ = g162 := e'; rw [← e'']; exact hb))
        have hm185 := ((hO154).lo hk165).kp hk175 (fun b_ hb e' => hd173 (by have e'' : b_ = g162 := e'; rw [← e'']; exact hb))
        have hm186 := (((hm144).lo hk146).lo hk165).kp hk175 (fun b_ hb e' => by have e'' : b_ = g162 := e'; omega)
        refine W.regS (SR.q' (r_mv (v := .bool _) rfl) <| SR.nil ?_)
        refine W.cond_b rfl (fun h187 => ?_) (fun h187 => ?_)
        · refine W.seq ?_
          refine W.regS (SR.q' (r_lda (l := [.slice A147 n148 c149, .slice A151 n152 c153, .int .i64 (((impl_Library_stepped o (gt S k)).1).Bought), .int .i64 (((impl_Library_stepped o (gt S k)).1).Dropped), .int .i64 (((impl_Library_stepped o (gt S k)).1).Mended)]) agg31 rfl (fun _ _ hu => (hb177).cell hu) rfl) <| SR.store (o := 0) (vs := [.slice A147 n148 c149, .slice A151 n152 c153, .int .i64 (((impl_Library_stepped o (gt S k)).1).Bought), .int .i64 (((impl_Library_stepped o (gt S k)).1).Dropped), .int .i64 (((impl_Library_stepped o (gt S k)).1).Mended)]) agg31.2 rfl rfl rfl rfl (hm181) (Nat.le_of_ble_eq_true rfl) rfl ?_)
          intro w188 hk189 hs190 hb191
          have hz192 := hk189.size
          have hB193 := hB179.new hk189 (by omega)
          refine SR.nil ?_
          refine W.regS (SR.q' (r_mv (v := .int .i64 _) rfl) <| SR.q' (r_add rfl rfl (by omega)) <| SR.q' (r_as (v := .int .i64 _) rfl) <| SR.nil ?_)
          refine W.regS (SR.q' (r_add rfl rfl (by omega)) <| SR.q' (r_mv (v := .int .i64 _) rfl) <| SR.nil ?_)
          refine ⟨(k + 1, ((impl_Library_stepped o (gt S k)).1), m + 1, A147, n148, c149, A151, n152, c153), _, rfl, ⟨rfl, rfl, rfl, rfl, rfl, rfl, rfl, rfl, trivial⟩, (show (Lo w w188) ∧ (Blk w188 g9 31 [.slice none 0 0, .slice none 0 0, .int .i64 0, .int .i64 0, .int .i64 0]) ∧ (Blk w188 g74 31 [.slice A147 n148 c149, .slice A151 n152 c153, .int .i64 (((impl_Library_stepped o (gt S k)).1).Bought), .int .i64 (((impl_Library_stepped o (gt S k)).1).Dropped), .int .i64 (((impl_Library_stepped o (gt S k)).1).Mended)]) ∧ (SlR w188 BS encLibraryStep 4 AS nS cS S) ∧ (SlO w188 w.heap.size encLMap 3 73 A147 n148 c149 (((impl_Library_stepped o (gt S k)).1).Maps)) ∧ (SlO w188 w.heap.size encAway 2 77 A151 n152 c153 (((impl_Library_stepped o (gt S k)).1).Away)) ∧ (¬ A147 = some ⟨g9, 0, none⟩) ∧ (¬ A147 = some ⟨g74, 0, none⟩) ∧ (∀ b_, A147 = some ⟨b_, 0, none⟩ → ¬ A151 = some ⟨b_, 0, none⟩) ∧ (¬ A151 = some ⟨g9, 0, none⟩) ∧ (¬ A151 = some ⟨g74, 0, none⟩) ∧ (k + 1 ≤ nS ∧ runToL x S (k + 1) = (((impl_Library_stepped o (gt S k)).1), m + 1) ∧ LibOK ((impl_Library_stepped o (gt S k)).1) ∧ 0 ≤ m + 1 ∧ m + 1 ≤ (k + 1 : Int)) from ⟨hB193, (hm180).kp hk189 (fun e' => by have e'' : g9 = g74 := e'; omega), (hb191), (hm186).kp hk189 (fun b_ hb e' => by have e'' : b_ = g74 := e'; omega), (((hm184).kp hk189 (fun b_ hb e' => by have e'' : b_ = g74 := e'; have := (hm184).base_le hb; omega)).down (by omega)), (((hm185).kp hk189 (fun b_ hb e' => by have e'' : b_ = g74 := e'; have := (hm185).base_le hb; omega)).down (by omega)), (fun e' => by have := ((hm184).kp hk189 (fun b_ hb e' => by have e'' : b_ = g74 := e'; have := (hm184).base_le hb; omega)).base_le e'; omega), (fun e' => by have := ((hm184).kp hk189 (fun b_ hb e' => by have e'' : b_ = g74 := e'; have := (hm184).base_le hb; omega)).base_le e'; omega), hd155, (fun e' => by have := ((hm185).kp hk189 (fun b_ hb e' => by have e'' : b_ = g74 := e'; have := (hm185).base_le hb; omega)).base_le e'; omega), (fun e' => by have := ((hm185).kp hk189 (fun b_ hb e' => by have e'' : b_ = g74 := e'; have := (hm185).base_le hb; omega)).base_le e'; omega), ?_⟩), ?_⟩
          · exact (z_c_impl_RunLibrary_194 x nx_Maps hbdx_Maps hlex_Maps nx_Away hbdx_Away hlex_Away S nS hbdS hleS hp0 h35 hq50 hq51 hq52 hq53 hq54 hq55 n60 hl70 hl71 n64 hl72 hl73 k o m n94 c94 n95 c95 hi106 hl114 hl116 hq118 hq119 hq120 h121 hx123 n148 hl158 hl159 n152 hl160 hl161 h187)
          · exact (z_c_impl_RunLibrary_195 x nx_Maps hbdx_Maps hlex_Maps nx_Away hbdx_Away hlex_Away S nS hbdS hleS hp0 h35 hq50 hq51 hq52 hq53 hq54 hq55 n60 hl70 hl71 n64 hl72 hl73 k o m n94 c94 n95 c95 hi106 hl114 hl116 hq118 hq119 hq120 h121 hx123 n148 hl158 hl159 n152 hl160 hl161 h187)
        · refine W.skip ?_
          refine W.regS (SR.q' (r_add rfl rfl (by omega)) <| SR.q' (r_mv (v := .int .i64 _) rfl) <| SR.nil ?_)
          refine ⟨(k + 1, o, m, A94, n94, c94, A95, n95, c95), _, rfl, ⟨rfl, rfl, rfl, rfl, rfl, rfl, rfl, rfl, trivial⟩, (show (Lo w w174) ∧ (Blk w174 g9 31 [.slice none 0 0, .slice none 0 0, .int .i64 0, .int .i64 0, .int .i64 0]) ∧ (Blk w174 g74 31 [.slice A94 n94 c94, .slice A95 n95 c95, .int .i64 o.Bought, .int .i64 o.Dropped, .int .i64 o.Mended]) ∧ (SlR w174 BS encLibraryStep 4 AS nS cS S) ∧ (SlO w174 w.heap.size encLMap 3 73 A94 n94 c94 o.Maps) ∧ (SlO w174 w.heap.size encAway 2 77 A95 n95 c95 o.Away) ∧ (¬ A94 = some ⟨g9, 0, none⟩) ∧ (¬ A94 = some ⟨g74, 0, none⟩) ∧ (∀ b_, A94 = some ⟨b_, 0, none⟩ → ¬ A95 = some ⟨b_, 0, none⟩) ∧ (¬ A95 = some ⟨g9, 0, none⟩) ∧ (¬ A95 = some ⟨g74, 0, none⟩) ∧ (k + 1 ≤ nS ∧ runToL x S (k + 1) = (o, m) ∧ LibOK o ∧ 0 ≤ m ∧ m ≤ (k + 1 : Int)) from ⟨hB179, hm180, (hm181), hm186, (hm182), (hm183), hd107, hd108, hd109, hd110, hd111, ?_⟩), ?_⟩
          · exact (z_c_impl_RunLibrary_196 x nx_Maps hbdx_Maps hlex_Maps nx_Away hbdx_Away hlex_Away S nS hbdS hleS hp0 h35 hq50 hq51 hq52 hq53 hq54 hq55 n60 hl70 hl71 n64 hl72 hl73 k o m n94 c94 n95 c95 hi106 hl114 hl116 hq118 hq119 hq120 h121 hx123 n148 hl158 hl159 n152 hl160 hl161 h187)
          · exact (z_c_impl_RunLibrary_197 x nx_Maps hbdx_Maps hlex_Maps nx_Away hbdx_Away hlex_Away S nS hbdS hleS hp0 h35 hq50 hq51 hq52 hq53 hq54 hq55 n60 hl70 hl71 n64 hl72 hl73 k o m n94 c94 n95 c95 hi106 hl114 hl116 hq118 hq119 hq120 h121 hx123 n148 hl158 hl159 n152 hl160 hl161 h187)
      · refine W.exit (xin_here ?_)
        refine W.seq ?_
        refine W.regS (SR.q' (r_lda (l := [.slice A94 n94 c94, .slice A95 n95 c95, .int .i64 o.Bought, .int .i64 o.Dropped, .int .i64 o.Mended]) agg31 rfl (fun _ _ hu => (hm102).cell hu) rfl) <| SR.q' (r_mv (v := .int .i64 _) rfl) <| SR.store (o := 0) (vs := [.slice A94 n94 c94, .slice A95 n95 c95, .int .i64 o.Bought, .int .i64 o.Dropped, .int .i64 o.Mended]) agg31.2 rfl rfl rfl rfl (hm101) (Nat.le_of_ble_eq_true rfl) rfl ?_)
        intro w198 hk199 hs200 hb201
        have hz202 := hk199.size
        have hB203 := hB99.new hk199 (by omega)
        refine SR.q' (r_as (v := .int .i64 _) rfl) <| SR.q' (r_as (v := .bool true) rfl) <| SR.nil ?_
        refine W.ret ?_
        refine retCTT rfl rfl agg31 (hb201) rfl (v := .int .i64 _) rfl (v' := .bool _) rfl ?_
        exact ⟨A94, n94, c94, A95, n95, c95, eR (eT3 (eA (eC rfl (eC rfl (eC (eI (z_c_impl_RunLibrary_206 x nx_Maps hbdx_Maps hlex_Maps nx_Away hbdx_Away hlex_Away S nS hbdS hleS hp0 h35 hq50 hq51 hq52 hq53 hq54 hq55 n60 hl70 hl71 n64 hl72 hl73 k o m n94 c94 n95 c95 hi106 hl114 hl116 hq118 hq119 hq120 h121)) (eC (eI (z_c_impl_RunLibrary_207 x nx_Maps hbdx_Maps hlex_Maps nx_Away hbdx_Away hlex_Away S nS hbdS hleS hp0 h35 hq50 hq51 hq52 hq53 hq54 hq55 n60 hl70 hl71 n64 hl72 hl73 k o m n94 c94 n95 c95 hi106 hl114 hl116 hq118 hq119 hq120 h121)) (eC (eI (z_c_impl_RunLibrary_208 x nx_Maps hbdx_Maps hlex_Maps nx_Away hbdx_Away hlex_Away S nS hbdS hleS hp0 h35 hq50 hq51 hq52 hq53 hq54 hq55 n60 hl70 hl71 n64 hl72 hl73 k o m n94 c94 n95 c95 hi106 hl114 hl116 hq118 hq119 hq120 h121)) rfl)))))) (eI (z_c_impl_RunLibrary_209 x nx_Maps hbdx_Maps hlex_Maps nx_Away hbdx_Away hlex_Away S nS hbdS hleS hp0 h35 hq50 hq51 hq52 hq53 hq54 hq55 n60 hl70 hl71 n64 hl72 hl73 k o m n94 c94 n95 c95 hi106 hl114 hl116 hq118 hq119 hq120 h121)) (eB (z_c_impl_RunLibrary_210 x nx_Maps hbdx_Maps hlex_Maps nx_Away hbdx_Away hlex_Away S nS hbdS hleS hp0 h35 hq50 hq51 hq52 hq53 hq54 hq55 n60 hl70 hl71 n64 hl72 hl73 k o m n94 c94 n95 c95 hi106 hl114 hl116 hq118 hq119 hq120 h121))), (SlO.eqv (((hO104).kp hk199 (fun b_ hb e' => hd107 (by have e'' : b_ = g9 := e'; rw [← e'']; exact hb))).down (by omega)) (z_c_impl_RunLibrary_204 x nx_Maps hbdx_Maps hlex_Maps nx_Away hbdx_Away hlex_Away S nS hbdS hleS hp0 h35 hq50 hq51 hq52 hq53 hq54 hq55 n60 hl70 hl71 n64 hl72 hl73 k o m n94 c94 n95 c95 hi106 hl114 hl116 hq118 hq119 hq120 h121)), (SlO.eqv (((hO105).kp hk199 (fun b_ hb e' => hd110 (by have e'' : b_ = g9 := e'; rw [← e'']; exact hb))).down (by omega)) (z_c_impl_RunLibrary_205 x nx_Maps hbdx_Maps hlex_Maps nx_Away hbdx_Away hlex_Away S nS hbdS hleS hp0 h35 hq50 hq51 hq52 hq53 hq54 hq55 n60 hl70 hl71 n64 hl72 hl73 k o m n94 c94 n95 c95 hi106 hl114 hl116 hq118 hq119 hq120 h121)), hd109, hB203⟩

theorem z_c_spec_RunLibrary_43 (x : Library) (nx_Maps : Nat) (hbdx_Maps : (nx_Maps : Int) ≤ 9223372036854775807) (hlex_Maps : nx_Maps = x.Maps.length) (nx_Away : Nat) (hbdx_Away : (nx_Away : Int) ≤ 9223372036854775807) (hlex_Away : nx_Away = x.Away.length) (S : List LibraryStep) (nS : Nat) (hbdS : (nS : Int) ≤ 9223372036854775807) (hleS : nS = S.length) (hp0 : StepsIn S) (h35 : (¬ (LibOK x)) ∨ (40 < (nS : Int))) : ([] : List LMap) = ((runFL x S).1).Maps := by
  subst hleS
  first | (rw [runFL_no ‹_›]; done) | (rw [runFL_no ‹_›]; rfl) | (rw [runFL_yes ‹_› (And.left (And.right ‹_ ∧ runToL _ _ _ = _ ∧ _›)) (by omega)]; done) | (rw [runFL_yes ‹_› (And.left (And.right ‹_ ∧ runToL _ _ _ = _ ∧ _›)) (by omega)]; rfl)
theorem z_c_spec_RunLibrary_44 (x : Library) (nx_Maps : Nat) (hbdx_Maps : (nx_Maps : Int) ≤ 9223372036854775807) (hlex_Maps : nx_Maps = x.Maps.length) (nx_Away : Nat) (hbdx_Away : (nx_Away : Int) ≤ 9223372036854775807) (hlex_Away : nx_Away = x.Away.length) (S : List LibraryStep) (nS : Nat) (hbdS : (nS : Int) ≤ 9223372036854775807) (hleS : nS = S.length) (hp0 : StepsIn S) (h35 : (¬ (LibOK x)) ∨ (40 < (nS : Int))) : ([] : List Away) = ((runFL x S).1).Away := by
  subst hleS
  first | (rw [runFL_no ‹_›]; done) | (rw [runFL_no ‹_›]; rfl) | (rw [runFL_yes ‹_› (And.left (And.right ‹_ ∧ runToL _ _ _ = _ ∧ _›)) (by omega)]; done) | (rw [runFL_yes ‹_› (And.left (And.right ‹_ ∧ runToL _ _ _ = _ ∧ _›)) (by omega)]; rfl)
theorem z_c_spec_RunLibrary_45 (x : Library) (nx_Maps : Nat) (hbdx_Maps : (nx_Maps : Int) ≤ 9223372036854775807) (hlex_Maps : nx_Maps = x.Maps.length) (nx_Away : Nat) (hbdx_Away : (nx_Away : Int) ≤ 9223372036854775807) (hlex_Away : nx_Away = x.Away.length) (S : List LibraryStep) (nS : Nat) (hbdS : (nS : Int) ≤ 9223372036854775807) (hleS : nS = S.length) (hp0 : StepsIn S) (h35 : (¬ (LibOK x)) ∨ (40 < (nS : Int))) : 0 = ((runFL x S).1).Bought := by
  subst hleS
  first | (rw [runFL_no ‹_›]; done) | (rw [runFL_no ‹_›]; rfl) | (rw [runFL_yes ‹_› (And.left (And.right ‹_ ∧ runToL _ _ _ = _ ∧ _›)) (by omega)]; done) | (rw [runFL_yes ‹_› (And.left (And.right ‹_ ∧ runToL _ _ _ = _ ∧ _›)) (by omega)]; rfl)
theorem z_c_spec_RunLibrary_46 (x : Library) (nx_Maps : Nat) (hbdx_Maps : (nx_Maps : Int) ≤ 9223372036854775807) (hlex_Maps : nx_Maps = x.Maps.length) (nx_Away : Nat) (hbdx_Away : (nx_Away : Int) ≤ 9223372036854775807) (hlex_Away : nx_Away = x.Away.length) (S : List LibraryStep) (nS : Nat) (hbdS : (nS : Int) ≤ 9223372036854775807) (hleS : nS = S.length) (hp0 : StepsIn S) (h35 : (¬ (LibOK x)) ∨ (40 < (nS : Int))) : 0 = ((runFL x S).1).Dropped := by
  subst hleS
  first | (rw [runFL_no ‹_›]; done) | (rw [runFL_no ‹_›]; rfl) | (rw [runFL_yes ‹_› (And.left (And.right ‹_ ∧ runToL _ _ _ = _ ∧ _›)) (by omega)]; done) | (rw [runFL_yes ‹_› (And.left (And.right ‹_ ∧ runToL _ _ _ = _ ∧ _›)) (by omega)]; rfl)
theorem z_c_spec_RunLibrary_47 (x : Library) (nx_Maps : Nat) (hbdx_Maps : (nx_Maps : Int) ≤ 9223372036854775807) (hlex_Maps : nx_Maps = x.Maps.length) (nx_Away : Nat) (hbdx_Away : (nx_Away : Int) ≤ 9223372036854775807) (hlex_Away : nx_Away = x.Away.length) (S : List LibraryStep) (nS : Nat) (hbdS : (nS : Int) ≤ 9223372036854775807) (hleS : nS = S.length) (hp0 : StepsIn S) (h35 : (¬ (LibOK x)) ∨ (40 < (nS : Int))) : 0 = ((runFL x S).1).Mended := by
  subst hleS
  first | (rw [runFL_no ‹_›]; done) | (rw [runFL_no ‹_›]; rfl) | (rw [runFL_yes ‹_› (And.left (And.right ‹_ ∧ runToL _ _ _ = _ ∧ _›)) (by omega)]; done) | (rw [runFL_yes ‹_› (And.left (And.right ‹_ ∧ runToL _ _ _ = _ ∧ _›)) (by omega)]; rfl)
theorem z_c_spec_RunLibrary_48 (x : Library) (nx_Maps : Nat) (hbdx_Maps : (nx_Maps : Int) ≤ 9223372036854775807) (hlex_Maps : nx_Maps = x.Maps.length) (nx_Away : Nat) (hbdx_Away : (nx_Away : Int) ≤ 9223372036854775807) (hlex_Away : nx_Away = x.Away.length) (S : List LibraryStep) (nS : Nat) (hbdS : (nS : Int) ≤ 9223372036854775807) (hleS : nS = S.length) (hp0 : StepsIn S) (h35 : (¬ (LibOK x)) ∨ (40 < (nS : Int))) : 0 = (runFL x S).2.1 := by
  subst hleS
  first | (rw [runFL_no ‹_›]; done) | (rw [runFL_no ‹_›]; rfl) | (rw [runFL_yes ‹_› (And.left (And.right ‹_ ∧ runToL _ _ _ = _ ∧ _›)) (by omega)]; done) | (rw [runFL_yes ‹_› (And.left (And.right ‹_ ∧ runToL _ _ _ = _ ∧ _›)) (by omega)]; rfl)
theorem z_c_spec_RunLibrary_49 (x : Library) (nx_Maps : Nat) (hbdx_Maps : (nx_Maps : Int) ≤ 9223372036854775807) (hlex_Maps : nx_Maps = x.Maps.length) (nx_Away : Nat) (hbdx_Away : (nx_Away : Int) ≤ 9223372036854775807) (hlex_Away : nx_Away = x.Away.length) (S : List LibraryStep) (nS : Nat) (hbdS : (nS : Int) ≤ 9223372036854775807) (hleS : nS = S.length) (hp0 : StepsIn S) (h35 : (¬ (LibOK x)) ∨ (40 < (nS : Int))) : false = (runFL x S).2.2 := by
  subst hleS
  first | (rw [runFL_no ‹_›]; done) | (rw [runFL_no ‹_›]; rfl) | (rw [runFL_yes ‹_› (And.left (And.right ‹_ ∧ runToL _ _ _ = _ ∧ _›)) (by omega)]; done) | (rw [runFL_yes ‹_› (And.left (And.right ‹_ ∧ runToL _ _ _ = _ ∧ _›)) (by omega)]; rfl)
theorem z_c_spec_RunLibrary_96 (x : Library) (nx_Maps : Nat) (hbdx_Maps : (nx_Maps : Int) ≤ 9223372036854775807) (hlex_Maps : nx_Maps = x.Maps.length) (nx_Away : Nat) (hbdx_Away : (nx_Away : Int) ≤ 9223372036854775807) (hlex_Away : nx_Away = x.Away.length) (S : List LibraryStep) (nS : Nat) (hbdS : (nS : Int) ≤ 9223372036854775807) (hleS : nS = S.length) (hp0 : StepsIn S) (h35 : ¬ ((¬ (LibOK x)) ∨ (40 < (nS : Int)))) (hq50 : LibOK x) (hq51 : ¬ (40 < (nS : Int))) (hq52 : MapsOK x.Maps ∧ x.Maps.length ≤ 8) (hq53 : x.Away.length ≤ 8) (hq54 : MapsOK x.Maps) (hq55 : x.Maps.length ≤ 8) (n60 : Nat) (hl70 : n60 = (x.Maps).length) (hl71 : (n60 : Int) ≤ 9223372036854775807) (n64 : Nat) (hl72 : n64 = (x.Away).length) (hl73 : (n64 : Int) ≤ 9223372036854775807) : 0 ≤ nS ∧ runToL x S 0 = (x, (0 : Int)) ∧ LibOK x ∧ 0 ≤ (0 : Int) ∧ (0 : Int) ≤ (0 : Int) := by
  exact ⟨Nat.zero_le _, rfl, ‹LibOK x›, by omega, by omega⟩
theorem z_c_spec_RunLibrary_130 (x : Library) (nx_Maps : Nat) (hbdx_Maps : (nx_Maps : Int) ≤ 9223372036854775807) (hlex_Maps : nx_Maps = x.Maps.length) (nx_Away : Nat) (hbdx_Away : (nx_Away : Int) ≤ 9223372036854775807) (hlex_Away : nx_Away = x.Away.length) (S : List LibraryStep) (nS : Nat) (hbdS : (nS : Int) ≤ 9223372036854775807) (hleS : nS = S.length) (hp0 : StepsIn S) (h35 : ¬ ((¬ (LibOK x)) ∨ (40 < (nS : Int)))) (hq50 : LibOK x) (hq51 : ¬ (40 < (nS : Int))) (hq52 : MapsOK x.Maps ∧ x.Maps.length ≤ 8) (hq53 : x.Away.length ≤ 8) (hq54 : MapsOK x.Maps) (hq55 : x.Maps.length ≤ 8) (n60 : Nat) (hl70 : n60 = (x.Maps).length) (hl71 : (n60 : Int) ≤ 9223372036854775807) (n64 : Nat) (hl72 : n64 = (x.Away).length) (hl73 : (n64 : Int) ≤ 9223372036854775807) (k : Nat) (o : Library) (m : Int) (n94 : Nat) (c94 : Nat) (n95 : Nat) (c95 : Nat) (hi106 : k ≤ nS ∧ runToL x S k = (o, m) ∧ LibOK o ∧ 0 ≤ m ∧ m ≤ (k : Int)) (hl114 : n94 = (o.Maps).length) (hl116 : n95 = (o.Away).length) (hq118 : LibOK o) (hq119 : o.Maps.length ≤ 8 ∧ o.Away.length ≤ 8) (hq120 : 0 ≤ m ∧ m ≤ (k : Int)) (h121 : (k : Int) < (nS : Int)) (hx123 : S[k]? = some (gt S k)) (h128 : (!(spec_l32Step o (gt S k))) = true) (hq129 : (spec_l32Step o (gt S k)) = false) : k + 1 ≤ nS ∧ runToL x S (k + 1) = (o, m) ∧ LibOK o ∧ 0 ≤ m ∧ m ≤ (k + 1 : Int) := by
  have hh := ‹_ ∧ runToL _ _ _ = _ ∧ _›
  first | exact ⟨by omega, (runL_yesS hp0 hh.2.1 hh.2.2.1 ‹S[k]? = some _› ‹_› ‹_›).1, (runL_yesS hp0 hh.2.1 hh.2.2.1 ‹S[k]? = some _› ‹_› ‹_›).2, by omega, by omega⟩ | exact ⟨by omega, runL_noS3 hh.2.1 hh.2.2.1 ‹S[k]? = some _› ‹(!_) = true›, hh.2.2.1, by omega, by omega⟩ | exact ⟨by omega, runL_noS2 hp0 hh.2.1 hh.2.2.1 ‹S[k]? = some _› ‹_› ‹_›, hh.2.2.1, by omega, by omega⟩
theorem z_c_spec_RunLibrary_131 (x : Library) (nx_Maps : Nat) (hbdx_Maps : (nx_Maps : Int) ≤ 9223372036854775807) (hlex_Maps : nx_Maps = x.Maps.length) (nx_Away : Nat) (hbdx_Away : (nx_Away : Int) ≤ 9223372036854775807) (hlex_Away : nx_Away = x.Away.length) (S : List LibraryStep) (nS : Nat) (hbdS : (nS : Int) ≤ 9223372036854775807) (hleS : nS = S.length) (hp0 : StepsIn S) (h35 : ¬ ((¬ (LibOK x)) ∨ (40 < (nS : Int)))) (hq50 : LibOK x) (hq51 : ¬ (40 < (nS : Int))) (hq52 : MapsOK x.Maps ∧ x.Maps.length ≤ 8) (hq53 : x.Away.length ≤ 8) (hq54 : MapsOK x.Maps) (hq55 : x.Maps.length ≤ 8) (n60 : Nat) (hl70 : n60 = (x.Maps).length) (hl71 : (n60 : Int) ≤ 9223372036854775807) (n64 : Nat) (hl72 : n64 = (x.Away).length) (hl73 : (n64 : Int) ≤ 9223372036854775807) (k : Nat) (o : Library) (m : Int) (n94 : Nat) (c94 : Nat) (n95 : Nat) (c95 : Nat) (hi106 : k ≤ nS ∧ runToL x S k = (o, m) ∧ LibOK o ∧ 0 ≤ m ∧ m ≤ (k : Int)) (hl114 : n94 = (o.Maps).length) (hl116 : n95 = (o.Away).length) (hq118 : LibOK o) (hq119 : o.Maps.length ≤ 8 ∧ o.Away.length ≤ 8) (hq120 : 0 ≤ m ∧ m ≤ (k : Int)) (h121 : (k : Int) < (nS : Int)) (hx123 : S[k]? = some (gt S k)) (h128 : (!(spec_l32Step o (gt S k))) = true) (hq129 : (spec_l32Step o (gt S k)) = false) : nS - (k + 1) < nS - k := by
  omega
theorem z_c_spec_RunLibrary_252 (x : Library) (nx_Maps : Nat) (hbdx_Maps : (nx_Maps : Int) ≤ 9223372036854775807) (hlex_Maps : nx_Maps = x.Maps.length) (nx_Away : Nat) (hbdx_Away : (nx_Away : Int) ≤ 9223372036854775807) (hlex_Away : nx_Away = x.Away.length) (S : List LibraryStep) (nS : Nat) (hbdS : (nS : Int) ≤ 9223372036854775807) (hleS : nS = S.length) (hp0 : StepsIn S) (h35 : ¬ ((¬ (LibOK x)) ∨ (40 < (nS : Int)))) (hq50 : LibOK x) (hq51 : ¬ (40 < (nS : Int))) (hq52 : MapsOK x.Maps ∧ x.Maps.length ≤ 8) (hq53 : x.Away.length ≤ 8) (hq54 : MapsOK x.Maps) (hq55 : x.Maps.length ≤ 8) (n60 : Nat) (hl70 : n60 = (x.Maps).length) (hl71 : (n60 : Int) ≤ 9223372036854775807) (n64 : Nat) (hl72 : n64 = (x.Away).length) (hl73 : (n64 : Int) ≤ 9223372036854775807) (k : Nat) (o : Library) (m : Int) (n94 : Nat) (c94 : Nat) (n95 : Nat) (c95 : Nat) (hi106 : k ≤ nS ∧ runToL x S k = (o, m) ∧ LibOK o ∧ 0 ≤ m ∧ m ≤ (k : Int)) (hl114 : n94 = (o.Maps).length) (hl116 : n95 = (o.Away).length) (hq118 : LibOK o) (hq119 : o.Maps.length ≤ 8 ∧ o.Away.length ≤ 8) (hq120 : 0 ≤ m ∧ m ≤ (k : Int)) (h121 : (k : Int) < (nS : Int)) (hx123 : S[k]? = some (gt S k)) (h128 : (!(spec_l32Step o (gt S k))) = false) (hq132 : (spec_l32Step o (gt S k)) = true) (n140 : Nat) (n144 : Nat) (hl151 : n140 = (((spec_l32Make o (gt S k)).1).Maps).length) (hl152 : (n140 : Int) ≤ 9223372036854775807) (hl153 : n144 = (((spec_l32Make o (gt S k)).1).Away).length) (hl154 : (n144 : Int) ≤ 9223372036854775807) (h245 : ((spec_l32Make o (gt S k)).2) = true) : k + 1 ≤ nS ∧ runToL x S (k + 1) = (((spec_l32Make o (gt S k)).1), m + 1) ∧ LibOK ((spec_l32Make o (gt S k)).1) ∧ 0 ≤ m + 1 ∧ m + 1 ≤ (k + 1 : Int) := by
  have hh := ‹_ ∧ runToL _ _ _ = _ ∧ _›
  first | exact ⟨by omega, (runL_yesS hp0 hh.2.1 hh.2.2.1 ‹S[k]? = some _› ‹_› ‹_›).1, (runL_yesS hp0 hh.2.1 hh.2.2.1 ‹S[k]? = some _› ‹_› ‹_›).2, by omega, by omega⟩ | exact ⟨by omega, runL_noS3 hh.2.1 hh.2.2.1 ‹S[k]? = some _› ‹(!_) = true›, hh.2.2.1, by omega, by omega⟩ | exact ⟨by omega, runL_noS2 hp0 hh.2.1 hh.2.2.1 ‹S[k]? = some _› ‹_› ‹_›, hh.2.2.1, by omega, by omega⟩
theorem z_c_spec_RunLibrary_253 (x : Library) (nx_Maps : Nat) (hbdx_Maps : (nx_Maps : Int) ≤ 9223372036854775807) (hlex_Maps : nx_Maps = x.Maps.length) (nx_Away : Nat) (hbdx_Away : (nx_Away : Int) ≤ 9223372036854775807) (hlex_Away : nx_Away = x.Away.length) (S : List LibraryStep) (nS : Nat) (hbdS : (nS : Int) ≤ 9223372036854775807) (hleS : nS = S.length) (hp0 : StepsIn S) (h35 : ¬ ((¬ (LibOK x)) ∨ (40 < (nS : Int)))) (hq50 : LibOK x) (hq51 : ¬ (40 < (nS : Int))) (hq52 : MapsOK x.Maps ∧ x.Maps.length ≤ 8) (hq53 : x.Away.length ≤ 8) (hq54 : MapsOK x.Maps) (hq55 : x.Maps.length ≤ 8) (n60 : Nat) (hl70 : n60 = (x.Maps).length) (hl71 : (n60 : Int) ≤ 9223372036854775807) (n64 : Nat) (hl72 : n64 = (x.Away).length) (hl73 : (n64 : Int) ≤ 9223372036854775807) (k : Nat) (o : Library) (m : Int) (n94 : Nat) (c94 : Nat) (n95 : Nat) (c95 : Nat) (hi106 : k ≤ nS ∧ runToL x S k = (o, m) ∧ LibOK o ∧ 0 ≤ m ∧ m ≤ (k : Int)) (hl114 : n94 = (o.Maps).length) (hl116 : n95 = (o.Away).length) (hq118 : LibOK o) (hq119 : o.Maps.length ≤ 8 ∧ o.Away.length ≤ 8) (hq120 : 0 ≤ m ∧ m ≤ (k : Int)) (h121 : (k : Int) < (nS : Int)) (hx123 : S[k]? = some (gt S k)) (h128 : (!(spec_l32Step o (gt S k))) = false) (hq132 : (spec_l32Step o (gt S k)) = true) (n140 : Nat) (n144 : Nat) (hl151 : n140 = (((spec_l32Make o (gt S k)).1).Maps).length) (hl152 : (n140 : Int) ≤ 9223372036854775807) (hl153 : n144 = (((spec_l32Make o (gt S k)).1).Away).length) (hl154 : (n144 : Int) ≤ 9223372036854775807) (h245 : ((spec_l32Make o (gt S k)).2) = true) : nS - (k + 1) < nS - k := by
  omega
theorem z_c_spec_RunLibrary_254 (x : Library) (nx_Maps : Nat) (hbdx_Maps : (nx_Maps : Int) ≤ 9223372036854775807) (hlex_Maps : nx_Maps = x.Maps.length) (nx_Away : Nat) (hbdx_Away : (nx_Away : Int) ≤ 9223372036854775807) (hlex_Away : nx_Away = x.Away.length) (S : List LibraryStep) (nS : Nat) (hbdS : (nS : Int) ≤ 9223372036854775807) (hleS : nS = S.length) (hp0 : StepsIn S) (h35 : ¬ ((¬ (LibOK x)) ∨ (40 < (nS : Int)))) (hq50 : LibOK x) (hq51 : ¬ (40 < (nS : Int))) (hq52 : MapsOK x.Maps ∧ x.Maps.length ≤ 8) (hq53 : x.Away.length ≤ 8) (hq54 : MapsOK x.Maps) (hq55 : x.Maps.length ≤ 8) (n60 : Nat) (hl70 : n60 = (x.Maps).length) (hl71 : (n60 : Int) ≤ 9223372036854775807) (n64 : Nat) (hl72 : n64 = (x.Away).length) (hl73 : (n64 : Int) ≤ 9223372036854775807) (k : Nat) (o : Library) (m : Int) (n94 : Nat) (c94 : Nat) (n95 : Nat) (c95 : Nat) (hi106 : k ≤ nS ∧ runToL x S k = (o, m) ∧ LibOK o ∧ 0 ≤ m ∧ m ≤ (k : Int)) (hl114 : n94 = (o.Maps).length) (hl116 : n95 = (o.Away).length) (hq118 : LibOK o) (hq119 : o.Maps.length ≤ 8 ∧ o.Away.length ≤ 8) (hq120 : 0 ≤ m ∧ m ≤ (k : Int)) (h121 : (k : Int) < (nS : Int)) (hx123 : S[k]? = some (gt S k)) (h128 : (!(spec_l32Step o (gt S k))) = false) (hq132 : (spec_l32Step o (gt S k)) = true) (n140 : Nat) (n144 : Nat) (hl151 : n140 = (((spec_l32Make o (gt S k)).1).Maps).length) (hl152 : (n140 : Int) ≤ 9223372036854775807) (hl153 : n144 = (((spec_l32Make o (gt S k)).1).Away).length) (hl154 : (n144 : Int) ≤ 9223372036854775807) (h245 : ((spec_l32Make o (gt S k)).2) = false) : k + 1 ≤ nS ∧ runToL x S (k + 1) = (o, m) ∧ LibOK o ∧ 0 ≤ m ∧ m ≤ (k + 1 : Int) := by
  have hh := ‹_ ∧ runToL _ _ _ = _ ∧ _›
  first | exact ⟨by omega, (runL_yesS hp0 hh.2.1 hh.2.2.1 ‹S[k]? = some _› ‹_› ‹_›).1, (runL_yesS hp0 hh.2.1 hh.2.2.1 ‹S[k]? = some _› ‹_› ‹_›).2, by omega, by omega⟩ | exact ⟨by omega, runL_noS3 hh.2.1 hh.2.2.1 ‹S[k]? = some _› ‹(!_) = true›, hh.2.2.1, by omega, by omega⟩ | exact ⟨by omega, runL_noS2 hp0 hh.2.1 hh.2.2.1 ‹S[k]? = some _› ‹_› ‹_›, hh.2.2.1, by omega, by omega⟩
theorem z_c_spec_RunLibrary_255 (x : Library) (nx_Maps : Nat) (hbdx_Maps : (nx_Maps : Int) ≤ 9223372036854775807) (hlex_Maps : nx_Maps = x.Maps.length) (nx_Away : Nat) (hbdx_Away : (nx_Away : Int) ≤ 9223372036854775807) (hlex_Away : nx_Away = x.Away.length) (S : List LibraryStep) (nS : Nat) (hbdS : (nS : Int) ≤ 9223372036854775807) (hleS : nS = S.length) (hp0 : StepsIn S) (h35 : ¬ ((¬ (LibOK x)) ∨ (40 < (nS : Int)))) (hq50 : LibOK x) (hq51 : ¬ (40 < (nS : Int))) (hq52 : MapsOK x.Maps ∧ x.Maps.length ≤ 8) (hq53 : x.Away.length ≤ 8) (hq54 : MapsOK x.Maps) (hq55 : x.Maps.length ≤ 8) (n60 : Nat) (hl70 : n60 = (x.Maps).length) (hl71 : (n60 : Int) ≤ 9223372036854775807) (n64 : Nat) (hl72 : n64 = (x.Away).length) (hl73 : (n64 : Int) ≤ 9223372036854775807) (k : Nat) (o : Library) (m : Int) (n94 : Nat) (c94 : Nat) (n95 : Nat) (c95 : Nat) (hi106 : k ≤ nS ∧ runToL x S k = (o, m) ∧ LibOK o ∧ 0 ≤ m ∧ m ≤ (k : Int)) (hl114 : n94 = (o.Maps).length) (hl116 : n95 = (o.Away).length) (hq118 : LibOK o) (hq119 : o.Maps.length ≤ 8 ∧ o.Away.length ≤ 8) (hq120 : 0 ≤ m ∧ m ≤ (k : Int)) (h121 : (k : Int) < (nS : Int)) (hx123 : S[k]? = some (gt S k)) (h128 : (!(spec_l32Step o (gt S k))) = false) (hq132 : (spec_l32Step o (gt S k)) = true) (n140 : Nat) (n144 : Nat) (hl151 : n140 = (((spec_l32Make o (gt S k)).1).Maps).length) (hl152 : (n140 : Int) ≤ 9223372036854775807) (hl153 : n144 = (((spec_l32Make o (gt S k)).1).Away).length) (hl154 : (n144 : Int) ≤ 9223372036854775807) (h245 : ((spec_l32Make o (gt S k)).2) = false) : nS - (k + 1) < nS - k := by
  omega
theorem z_c_spec_RunLibrary_262 (x : Library) (nx_Maps : Nat) (hbdx_Maps : (nx_Maps : Int) ≤ 9223372036854775807) (hlex_Maps : nx_Maps = x.Maps.length) (nx_Away : Nat) (hbdx_Away : (nx_Away : Int) ≤ 9223372036854775807) (hlex_Away : nx_Away = x.Away.length) (S : List LibraryStep) (nS : Nat) (hbdS : (nS : Int) ≤ 9223372036854775807) (hleS : nS = S.length) (hp0 : StepsIn S) (h35 : ¬ ((¬ (LibOK x)) ∨ (40 < (nS : Int)))) (hq50 : LibOK x) (hq51 : ¬ (40 < (nS : Int))) (hq52 : MapsOK x.Maps ∧ x.Maps.length ≤ 8) (hq53 : x.Away.length ≤ 8) (hq54 : MapsOK x.Maps) (hq55 : x.Maps.length ≤ 8) (n60 : Nat) (hl70 : n60 = (x.Maps).length) (hl71 : (n60 : Int) ≤ 9223372036854775807) (n64 : Nat) (hl72 : n64 = (x.Away).length) (hl73 : (n64 : Int) ≤ 9223372036854775807) (k : Nat) (o : Library) (m : Int) (n94 : Nat) (c94 : Nat) (n95 : Nat) (c95 : Nat) (hi106 : k ≤ nS ∧ runToL x S k = (o, m) ∧ LibOK o ∧ 0 ≤ m ∧ m ≤ (k : Int)) (hl114 : n94 = (o.Maps).length) (hl116 : n95 = (o.Away).length) (hq118 : LibOK o) (hq119 : o.Maps.length ≤ 8 ∧ o.Away.length ≤ 8) (hq120 : 0 ≤ m ∧ m ≤ (k : Int)) (h121 : ¬ ((k : Int) < (nS : Int))) : o.Maps = ((runFL x S).1).Maps := by
  subst hleS
  first | (rw [runFL_no ‹_›]; done) | (rw [runFL_no ‹_›]; rfl) | (rw [runFL_yes ‹_› (And.left (And.right ‹_ ∧ runToL _ _ _ = _ ∧ _›)) (by omega)]; done) | (rw [runFL_yes ‹_› (And.left (And.right ‹_ ∧ runToL _ _ _ = _ ∧ _›)) (by omega)]; rfl)
theorem z_c_spec_RunLibrary_263 (x : Library) (nx_Maps : Nat) (hbdx_Maps : (nx_Maps : Int) ≤ 9223372036854775807) (hlex_Maps : nx_Maps = x.Maps.length) (nx_Away : Nat) (hbdx_Away : (nx_Away : Int) ≤ 9223372036854775807) (hlex_Away : nx_Away = x.Away.length) (S : List LibraryStep) (nS : Nat) (hbdS : (nS : Int) ≤ 9223372036854775807) (hleS : nS = S.length) (hp0 : StepsIn S) (h35 : ¬ ((¬ (LibOK x)) ∨ (40 < (nS : Int)))) (hq50 : LibOK x) (hq51 : ¬ (40 < (nS : Int))) (hq52 : MapsOK x.Maps ∧ x.Maps.length ≤ 8) (hq53 : x.Away.length ≤ 8) (hq54 : MapsOK x.Maps) (hq55 : x.Maps.length ≤ 8) (n60 : Nat) (hl70 : n60 = (x.Maps).length) (hl71 : (n60 : Int) ≤ 9223372036854775807) (n64 : Nat) (hl72 : n64 = (x.Away).length) (hl73 : (n64 : Int) ≤ 9223372036854775807) (k : Nat) (o : Library) (m : Int) (n94 : Nat) (c94 : Nat) (n95 : Nat) (c95 : Nat) (hi106 : k ≤ nS ∧ runToL x S k = (o, m) ∧ LibOK o ∧ 0 ≤ m ∧ m ≤ (k : Int)) (hl114 : n94 = (o.Maps).length) (hl116 : n95 = (o.Away).length) (hq118 : LibOK o) (hq119 : o.Maps.length ≤ 8 ∧ o.Away.length ≤ 8) (hq120 : 0 ≤ m ∧ m ≤ (k : Int)) (h121 : ¬ ((k : Int) < (nS : Int))) : o.Away = ((runFL x S).1).Away := by
  subst hleS
  first | (rw [runFL_no ‹_›]; done) | (rw [runFL_no ‹_›]; rfl) | (rw [runFL_yes ‹_› (And.left (And.right ‹_ ∧ runToL _ _ _ = _ ∧ _›)) (by omega)]; done) | (rw [runFL_yes ‹_› (And.left (And.right ‹_ ∧ runToL _ _ _ = _ ∧ _›)) (by omega)]; rfl)
theorem z_c_spec_RunLibrary_264 (x : Library) (nx_Maps : Nat) (hbdx_Maps : (nx_Maps : Int) ≤ 9223372036854775807) (hlex_Maps : nx_Maps = x.Maps.length) (nx_Away : Nat) (hbdx_Away : (nx_Away : Int) ≤ 9223372036854775807) (hlex_Away : nx_Away = x.Away.length) (S : List LibraryStep) (nS : Nat) (hbdS : (nS : Int) ≤ 9223372036854775807) (hleS : nS = S.length) (hp0 : StepsIn S) (h35 : ¬ ((¬ (LibOK x)) ∨ (40 < (nS : Int)))) (hq50 : LibOK x) (hq51 : ¬ (40 < (nS : Int))) (hq52 : MapsOK x.Maps ∧ x.Maps.length ≤ 8) (hq53 : x.Away.length ≤ 8) (hq54 : MapsOK x.Maps) (hq55 : x.Maps.length ≤ 8) (n60 : Nat) (hl70 : n60 = (x.Maps).length) (hl71 : (n60 : Int) ≤ 9223372036854775807) (n64 : Nat) (hl72 : n64 = (x.Away).length) (hl73 : (n64 : Int) ≤ 9223372036854775807) (k : Nat) (o : Library) (m : Int) (n94 : Nat) (c94 : Nat) (n95 : Nat) (c95 : Nat) (hi106 : k ≤ nS ∧ runToL x S k = (o, m) ∧ LibOK o ∧ 0 ≤ m ∧ m ≤ (k : Int)) (hl114 : n94 = (o.Maps).length) (hl116 : n95 = (o.Away).length) (hq118 : LibOK o) (hq119 : o.Maps.length ≤ 8 ∧ o.Away.length ≤ 8) (hq120 : 0 ≤ m ∧ m ≤ (k : Int)) (h121 : ¬ ((k : Int) < (nS : Int))) : o.Bought = ((runFL x S).1).Bought := by
  subst hleS
  first | (rw [runFL_no ‹_›]; done) | (rw [runFL_no ‹_›]; rfl) | (rw [runFL_yes ‹_› (And.left (And.right ‹_ ∧ runToL _ _ _ = _ ∧ _›)) (by omega)]; done) | (rw [runFL_yes ‹_› (And.left (And.right ‹_ ∧ runToL _ _ _ = _ ∧ _›)) (by omega)]; rfl)
theorem z_c_spec_RunLibrary_265 (x : Library) (nx_Maps : Nat) (hbdx_Maps : (nx_Maps : Int) ≤ 9223372036854775807) (hlex_Maps : nx_Maps = x.Maps.length) (nx_Away : Nat) (hbdx_Away : (nx_Away : Int) ≤ 9223372036854775807) (hlex_Away : nx_Away = x.Away.length) (S : List LibraryStep) (nS : Nat) (hbdS : (nS : Int) ≤ 9223372036854775807) (hleS : nS = S.length) (hp0 : StepsIn S) (h35 : ¬ ((¬ (LibOK x)) ∨ (40 < (nS : Int)))) (hq50 : LibOK x) (hq51 : ¬ (40 < (nS : Int))) (hq52 : MapsOK x.Maps ∧ x.Maps.length ≤ 8) (hq53 : x.Away.length ≤ 8) (hq54 : MapsOK x.Maps) (hq55 : x.Maps.length ≤ 8) (n60 : Nat) (hl70 : n60 = (x.Maps).length) (hl71 : (n60 : Int) ≤ 9223372036854775807) (n64 : Nat) (hl72 : n64 = (x.Away).length) (hl73 : (n64 : Int) ≤ 9223372036854775807) (k : Nat) (o : Library) (m : Int) (n94 : Nat) (c94 : Nat) (n95 : Nat) (c95 : Nat) (hi106 : k ≤ nS ∧ runToL x S k = (o, m) ∧ LibOK o ∧ 0 ≤ m ∧ m ≤ (k : Int)) (hl114 : n94 = (o.Maps).length) (hl116 : n95 = (o.Away).length) (hq118 : LibOK o) (hq119 : o.Maps.length ≤ 8 ∧ o.Away.length ≤ 8) (hq120 : 0 ≤ m ∧ m ≤ (k : Int)) (h121 : ¬ ((k : Int) < (nS : Int))) : o.Dropped = ((runFL x S).1).Dropped := by
  subst hleS
  first | (rw [runFL_no ‹_›]; done) | (rw [runFL_no ‹_›]; rfl) | (rw [runFL_yes ‹_› (And.left (And.right ‹_ ∧ runToL _ _ _ = _ ∧ _›)) (by omega)]; done) | (rw [runFL_yes ‹_› (And.left (And.right ‹_ ∧ runToL _ _ _ = _ ∧ _›)) (by omega)]; rfl)
theorem z_c_spec_RunLibrary_266 (x : Library) (nx_Maps : Nat) (hbdx_Maps : (nx_Maps : Int) ≤ 9223372036854775807) (hlex_Maps : nx_Maps = x.Maps.length) (nx_Away : Nat) (hbdx_Away : (nx_Away : Int) ≤ 9223372036854775807) (hlex_Away : nx_Away = x.Away.length) (S : List LibraryStep) (nS : Nat) (hbdS : (nS : Int) ≤ 9223372036854775807) (hleS : nS = S.length) (hp0 : StepsIn S) (h35 : ¬ ((¬ (LibOK x)) ∨ (40 < (nS : Int)))) (hq50 : LibOK x) (hq51 : ¬ (40 < (nS : Int))) (hq52 : MapsOK x.Maps ∧ x.Maps.length ≤ 8) (hq53 : x.Away.length ≤ 8) (hq54 : MapsOK x.Maps) (hq55 : x.Maps.length ≤ 8) (n60 : Nat) (hl70 : n60 = (x.Maps).length) (hl71 : (n60 : Int) ≤ 9223372036854775807) (n64 : Nat) (hl72 : n64 = (x.Away).length) (hl73 : (n64 : Int) ≤ 9223372036854775807) (k : Nat) (o : Library) (m : Int) (n94 : Nat) (c94 : Nat) (n95 : Nat) (c95 : Nat) (hi106 : k ≤ nS ∧ runToL x S k = (o, m) ∧ LibOK o ∧ 0 ≤ m ∧ m ≤ (k : Int)) (hl114 : n94 = (o.Maps).length) (hl116 : n95 = (o.Away).length) (hq118 : LibOK o) (hq119 : o.Maps.length ≤ 8 ∧ o.Away.length ≤ 8) (hq120 : 0 ≤ m ∧ m ≤ (k : Int)) (h121 : ¬ ((k : Int) < (nS : Int))) : o.Mended = ((runFL x S).1).Mended := by
  subst hleS
  first | (rw [runFL_no ‹_›]; done) | (rw [runFL_no ‹_›]; rfl) | (rw [runFL_yes ‹_› (And.left (And.right ‹_ ∧ runToL _ _ _ = _ ∧ _›)) (by omega)]; done) | (rw [runFL_yes ‹_› (And.left (And.right ‹_ ∧ runToL _ _ _ = _ ∧ _›)) (by omega)]; rfl)
theorem z_c_spec_RunLibrary_267 (x : Library) (nx_Maps : Nat) (hbdx_Maps : (nx_Maps : Int) ≤ 9223372036854775807) (hlex_Maps : nx_Maps = x.Maps.length) (nx_Away : Nat) (hbdx_Away : (nx_Away : Int) ≤ 9223372036854775807) (hlex_Away : nx_Away = x.Away.length) (S : List LibraryStep) (nS : Nat) (hbdS : (nS : Int) ≤ 9223372036854775807) (hleS : nS = S.length) (hp0 : StepsIn S) (h35 : ¬ ((¬ (LibOK x)) ∨ (40 < (nS : Int)))) (hq50 : LibOK x) (hq51 : ¬ (40 < (nS : Int))) (hq52 : MapsOK x.Maps ∧ x.Maps.length ≤ 8) (hq53 : x.Away.length ≤ 8) (hq54 : MapsOK x.Maps) (hq55 : x.Maps.length ≤ 8) (n60 : Nat) (hl70 : n60 = (x.Maps).length) (hl71 : (n60 : Int) ≤ 9223372036854775807) (n64 : Nat) (hl72 : n64 = (x.Away).length) (hl73 : (n64 : Int) ≤ 9223372036854775807) (k : Nat) (o : Library) (m : Int) (n94 : Nat) (c94 : Nat) (n95 : Nat) (c95 : Nat) (hi106 : k ≤ nS ∧ runToL x S k = (o, m) ∧ LibOK o ∧ 0 ≤ m ∧ m ≤ (k : Int)) (hl114 : n94 = (o.Maps).length) (hl116 : n95 = (o.Away).length) (hq118 : LibOK o) (hq119 : o.Maps.length ≤ 8 ∧ o.Away.length ≤ 8) (hq120 : 0 ≤ m ∧ m ≤ (k : Int)) (h121 : ¬ ((k : Int) < (nS : Int))) : m = (runFL x S).2.1 := by
  subst hleS
  first | (rw [runFL_no ‹_›]; done) | (rw [runFL_no ‹_›]; rfl) | (rw [runFL_yes ‹_› (And.left (And.right ‹_ ∧ runToL _ _ _ = _ ∧ _›)) (by omega)]; done) | (rw [runFL_yes ‹_› (And.left (And.right ‹_ ∧ runToL _ _ _ = _ ∧ _›)) (by omega)]; rfl)
theorem z_c_spec_RunLibrary_268 (x : Library) (nx_Maps : Nat) (hbdx_Maps : (nx_Maps : Int) ≤ 9223372036854775807) (hlex_Maps : nx_Maps = x.Maps.length) (nx_Away : Nat) (hbdx_Away : (nx_Away : Int) ≤ 9223372036854775807) (hlex_Away : nx_Away = x.Away.length) (S : List LibraryStep) (nS : Nat) (hbdS : (nS : Int) ≤ 9223372036854775807) (hleS : nS = S.length) (hp0 : StepsIn S) (h35 : ¬ ((¬ (LibOK x)) ∨ (40 < (nS : Int)))) (hq50 : LibOK x) (hq51 : ¬ (40 < (nS : Int))) (hq52 : MapsOK x.Maps ∧ x.Maps.length ≤ 8) (hq53 : x.Away.length ≤ 8) (hq54 : MapsOK x.Maps) (hq55 : x.Maps.length ≤ 8) (n60 : Nat) (hl70 : n60 = (x.Maps).length) (hl71 : (n60 : Int) ≤ 9223372036854775807) (n64 : Nat) (hl72 : n64 = (x.Away).length) (hl73 : (n64 : Int) ≤ 9223372036854775807) (k : Nat) (o : Library) (m : Int) (n94 : Nat) (c94 : Nat) (n95 : Nat) (c95 : Nat) (hi106 : k ≤ nS ∧ runToL x S k = (o, m) ∧ LibOK o ∧ 0 ≤ m ∧ m ≤ (k : Int)) (hl114 : n94 = (o.Maps).length) (hl116 : n95 = (o.Away).length) (hq118 : LibOK o) (hq119 : o.Maps.length ≤ 8 ∧ o.Away.length ≤ 8) (hq120 : 0 ≤ m ∧ m ≤ (k : Int)) (h121 : ¬ ((k : Int) < (nS : Int))) : true = (runFL x S).2.2 := by
  subst hleS
  first | (rw [runFL_no ‹_›]; done) | (rw [runFL_no ‹_›]; rfl) | (rw [runFL_yes ‹_› (And.left (And.right ‹_ ∧ runToL _ _ _ = _ ∧ _›)) (by omega)]; done) | (rw [runFL_yes ‹_› (And.left (And.right ‹_ ∧ runToL _ _ _ = _ ∧ _›)) (by omega)]; rfl)
theorem c_spec_RunLibrary (w : World) (x : Library) {Ax_Maps : Option Addr} {nx_Maps cx_Maps Bx_Maps : Nat} (hx_Maps : SlR w Bx_Maps encLMap 3 Ax_Maps nx_Maps cx_Maps x.Maps) {Ax_Away : Option Addr} {nx_Away cx_Away Bx_Away : Nat} (hx_Away : SlR w Bx_Away encAway 2 Ax_Away nx_Away cx_Away x.Away) {AS : Option Addr} {nS cS BS : Nat}  (S : List LibraryStep) (hS : SlR w BS encLibraryStep 4 AS nS cS S) (hp0 : StepsIn S) : Calls Try.prog 41 #[.agg (List.toArray [.slice Ax_Maps nx_Maps cx_Maps, .slice Ax_Away nx_Away cx_Away, .int .i64 x.Bought, .int .i64 x.Dropped, .int .i64 x.Mended]), .slice AS nS cS] w fun e w' => ∃ (A1' : Option Addr) (n1' c1' : Nat) (A2' : Option Addr) (n2' c2' : Nat), e = .returned (.tuple (List.toArray [.agg (List.toArray [.slice A1' n1' c1', .slice A2' n2' c2', .int .i64 (((runFL x S).1).Bought), .int .i64 (((runFL x S).1).Dropped), .int .i64 (((runFL x S).1).Mended)]), .int .i64 ((runFL x S).2.1), .bool ((runFL x S).2.2)])) ∧ SlO w' w.heap.size encLMap 3 73 A1' n1' c1' (((runFL x S).1).Maps) ∧ SlO w' w.heap.size encAway 2 77 A2' n2' c2' (((runFL x S).1).Away) ∧ (∀ b_, A1' = some ⟨b_, 0, none⟩ → ¬ A2' = some ⟨b_, 0, none⟩) ∧ Lo w w' := by
  refine calls_W 51 Try.func41 rfl rfl rfl ?_
  have hbdx_Maps := hx_Maps.bound
  have hlex_Maps := hx_Maps.len
  have hBbx_Maps := hx_Maps.bd
  have hbdx_Away := hx_Away.bound
  have hlex_Away := hx_Away.len
  have hBbx_Away := hx_Away.bd
  have hbdS := hS.bound
  have hleS := hS.len
  have hBbS := hS.bd
  refine W.seq ?_
  refine W.regS (SR.box (v := .agg (List.toArray _)) (l := [.slice Ax_Maps nx_Maps cx_Maps, .slice Ax_Away nx_Away cx_Away, .int .i64 x.Bought, .int .i64 x.Dropped, .int .i64 x.Mended]) rfl rfl ?_)
  intro g1 w2 hg3 hk4 hs5 hb6
  have hz7 := hk4.size
  have hB8 := (Lo.refl w).lo hk4
  refine SR.alloc (l := [.slice none 0 0, .slice none 0 0, .int .i64 0, .int .i64 0, .int .i64 0]) tz31 rfl ?_
  intro g9 w10 hg11 hk12 hs13 hb14
  have hz15 := hk12.size
  have hB16 := hB8.lo hk12
  refine SR.q' (r_as (v := .int .i64 0) rfl) <| SR.q' (r_as (v := .bool false) rfl) <| SR.nil ?_
  refine W.seq ?_
  refine W.seq ?_
  have hm17 := ((hS).lo hk4).lo hk12
  have hm18 := ((hx_Maps).lo hk4).lo hk12
  have hm19 := ((hx_Away).lo hk4).lo hk12
  refine W.regJS (fun f' w' => At f' [(1, .slice AS nS cS), (2, .pointer (some ((⟨g1, 0, none⟩ : Addr)))), (4, .pointer (some ((⟨g9, 0, none⟩ : Addr)))), (5, .int .i64 0), (6, .bool false), (19, .bool (decide ((¬ (LibOK x)) ∨ (40 < (nS : Int)))))] ∧ Lo w10 w') ?_ ?_
  · refine SR.q' (r_lda (l := [.slice Ax_Maps nx_Maps cx_Maps, .slice Ax_Away nx_Away cx_Away, .int .i64 x.Bought, .int .i64 x.Dropped, .int .i64 x.Mended]) agg31 rfl (fun _ _ hu => ((hb6).lo hk12).cell hu) rfl) <| SR.call ent48 (c_spec_l32Good w10 x ((hm18)) ((hm19))) rfl ?_
    rintro e w20 ⟨rfl, hk21⟩
    refine ⟨_, rfl, ?_⟩
    have hz22 := hk21.size
    have hB23 := hB16.lo hk21
    refine SR.q' (r_not rfl) <| SR.q' (r_mv (v := .bool _) rfl) <| SR.splitN (fun h24 => ?_) (fun h24 => ?_)
    · refine SR.s' rfl <| SR.s' rfl <| SR.s' rfl <| SR.q' (r_pick true rfl (v := .bool true) rfl) <| SR.nil ?_
      exact ⟨_, rfl, ⟨⟨rfl, rfl, rfl, rfl, rfl, (eDT ((jmf h24).1 trivial)), trivial⟩, (hk21)⟩⟩
    · have hq25 := And.left h24
      have hq26 := lib_len h24
      have hq27 := And.left hq25
      have hq28 := And.right hq25
      refine SR.g' rfl (r_mv (v := .slice _ _ _) rfl) <| SR.g' rfl (r_len und57 rfl) <| SR.g' rfl (r_gt rfl rfl) <| SR.q' (r_pick false rfl (v := .bool _) rfl) <| SR.nil ?_
      exact ⟨_, rfl, ⟨⟨rfl, rfl, rfl, rfl, rfl, (eDD (jmt h24)), trivial⟩, (hk21)⟩⟩
  rintro f29 w30 ⟨hat31, hk32⟩
  rw [← sets_of_at hat31]
  have hz33 := hk32.size
  have hB34 := hB16.lo hk32
  refine W.cond_d rfl (fun h35 => ?_) (fun h35 => ?_)
  · refine W.seq ?_
    have hm36 := ((hb6).lo hk12).lo hk32
    refine W.regS (SR.q' (r_build (vs := []) rfl (bld31_)) <| SR.store (o := 0) (vs := [.slice none 0 0, .slice none 0 0, .int .i64 0, .int .i64 0, .int .i64 0]) agg31.2 rfl rfl rfl rfl ((hb14).lo hk32) (Nat.le_of_ble_eq_true rfl) rfl ?_)
    intro w37 hk38 hs39 hb40
    have hz41 := hk38.size
    have hB42 := hB34.new hk38 (by omega)
    refine SR.q' (r_as (v := .int .i64 0) rfl) <| SR.q' (r_as (v := .bool false) rfl) <| SR.nil ?_
    refine W.ret ?_
    refine retCTT rfl rfl agg31 (hb40) rfl (v := .int .i64 _) rfl (v' := .bool _) rfl ?_
    exact ⟨none, 0, 0, none, 0, 0, eR (eT3 (eA (eC rfl (eC rfl (eC (eI (z_c_spec_RunLibrary_45 x nx_Maps hbdx_Maps hlex_Maps nx_Away hbdx_Away hlex_Away S nS hbdS hleS hp0 h35)) (eC (eI (z_c_spec_RunLibrary_46 x nx_Maps hbdx_Maps hlex_Maps nx_Away hbdx_Away hlex_Away S nS hbdS hleS hp0 h35)) (eC (eI (z_c_spec_RunLibrary_47 x nx_Maps hbdx_Maps hlex_Maps nx_Away hbdx_Away hlex_Away S nS hbdS hleS hp0 h35)) rfl)))))) (eI (z_c_spec_RunLibrary_48 x nx_Maps hbdx_Maps hlex_Maps nx_Away hbdx_Away hlex_Away S nS hbdS hleS hp0 h35)) (eB (z_c_spec_RunLibrary_49 x nx_Maps hbdx_Maps hlex_Maps nx_Away hbdx_Away hlex_Away S nS hbdS hleS hp0 h35))), (SlO.eqv (SlO.nil (e := 73) (enc := encLMap) (fun _ => rfl) (by omega)) (z_c_spec_RunLibrary_43 x nx_Maps hbdx_Maps hlex_Maps nx_Away hbdx_Away hlex_Away S nS hbdS hleS hp0 h35)), (SlO.eqv (SlO.nil (e := 77) (enc := encAway) (fun _ => rfl) (by omega)) (z_c_spec_RunLibrary_44 x nx_Maps hbdx_Maps hlex_Maps nx_Away hbdx_Away hlex_Away S nS hbdS hleS hp0 h35)), (fun b_ h => by cases h), hB42⟩
  · have hq50 : LibOK x := (Classical.not_not.1 (not_or.1 h35).1)
    have hq51 : ¬ (40 < (nS : Int)) := (not_or.1 h35).2
    have hq52 := And.left hq50
    have hq53 := lib_len hq50
    have hq54 := And.left hq52
    have hq55 := And.right hq52
    refine W.skip ?_
    refine W.seq ?_
    have hm56 := ((hb6).lo hk12).lo hk32
    refine W.regS (SR.q' (r_lda (l := [.slice Ax_Maps nx_Maps cx_Maps, .slice Ax_Away nx_Away cx_Away, .int .i64 x.Bought, .int .i64 x.Dropped, .int .i64 x.Mended]) agg31 rfl (fun _ _ hu => (hm56).cell hu) rfl) <| SR.call ent79 (c_spec_l32Own w30 x (((hm18).lo hk32)) (((hm19).lo hk32)) (by omega) (by omega)) rfl ?_)
    rintro e w57 ⟨A59, n60, c61, A63, n64, c65, rfl, hO62, hO66, hd67, hk58⟩
    refine ⟨_, rfl, ?_⟩
    have hz68 := hk58.size
    have hB69 := hB34.lo hk58
    have hl70 := hO62.len
    have hl71 := hO62.rd.bound
    have hl72 := hO66.len
    have hl73 := hO66.rd.bound
    refine SR.alloc (l := [.slice none 0 0, .slice none 0 0, .int .i64 0, .int .i64 0, .int .i64 0]) tz31 rfl ?_
    intro g74 w75 hg76 hk77 hs78 hb79
    have hz80 := hk77.size
    have hB81 := hB69.lo hk77
    have hd82 : ¬ A59 = some ⟨g74, 0, none⟩ := fun e' => by have := (hO62).base_le e'; omega
    have hd83 : ¬ A63 = some ⟨g74, 0, none⟩ := fun e' => by have := (hO66).base_le e'; omega
    refine SR.store (o := 0) (vs := [.slice A59 n60 c61, .slice A63 n64 c65, .int .i64 x.Bought, .int .i64 x.Dropped, .int .i64 x.Mended]) agg31.2 rfl rfl rfl rfl (hb79) (Nat.le_of_ble_eq_true rfl) rfl ?_
    intro w84 hk85 hs86 hb87
    have hz88 := hk85.size
    have hB89 := hB81.new hk85 (by omega)
    refine SR.q' (r_as (v := .int .i64 0) rfl) <| SR.nil ?_
    refine W.seq ?_
    refine W.seq ?_
    have hm90 := ((((hm17).lo hk32).lo hk58).lo hk77).kp hk85 (fun b_ hb e' => by have e'' : b_ = g74 := e'; omega)
    have hm91 := ((((hb14).lo hk32).lo hk58).lo hk77).kp hk85 (fun e' => by have e'' : g9 = g74 := e'; omega)
    have hm92 := ((hO62).lo hk77).kp hk85 (fun b_ hb e' => hd82 (by have e'' : b_ = g74 := e'; rw [← e'']; exact hb))
    have hm93 := ((hO66).lo hk77).kp hk85 (fun b_ hb e' => hd83 (by have e'' : b_ = g74 := e'; rw [← e'']; exact hb))
    refine W.regS (SR.q' (r_as (v := .int .i64 0) rfl) <| SR.nil ?_)
    refine W.block ?_
    refine W.loop (σ := Nat × Library × Int × (Option Addr) × Nat × Nat × (Option Addr) × Nat × Nat) (fun g => [(1, .slice AS nS cS), (4, .pointer (some ((⟨g9, 0, none⟩ : Addr)))), (5, .int .i64 0), (6, .bool false), (7, .pointer (some ((⟨g74, 0, none⟩ : Addr)))), (8, .int .i64 g.2.2.1), (9, .int .i64 (g.1 : Int))]) (fun g w' => (Lo w w') ∧ (SlR w' BS encLibraryStep 4 AS nS cS S) ∧ (Blk w' g9 31 [.slice none 0 0, .slice none 0 0, .int .i64 0, .int .i64 0, .int .i64 0]) ∧ (Blk w' g74 31 [.slice g.2.2.2.1 g.2.2.2.2.1 g.2.2.2.2.2.1, .slice g.2.2.2.2.2.2.1 g.2.2.2.2.2.2.2.1 g.2.2.2.2.2.2.2.2, .int .i64 g.2.1.Bought, .int .i64 g.2.1.Dropped, .int .i64 g.2.1.Mended]) ∧ (SlO w' w.heap.size encLMap 3 73 g.2.2.2.1 g.2.2.2.2.1 g.2.2.2.2.2.1 g.2.1.Maps) ∧ (SlO w' w.heap.size encAway 2 77 g.2.2.2.2.2.2.1 g.2.2.2.2.2.2.2.1 g.2.2.2.2.2.2.2.2 g.2.1.Away) ∧ (¬ g.2.2.2.1 = some ⟨g9, 0, none⟩) ∧ (¬ g.2.2.2.1 = some ⟨g74, 0, none⟩) ∧ (∀ b_, g.2.2.2.1 = some ⟨b_, 0, none⟩ → ¬ g.2.2.2.2.2.2.1 = some ⟨b_, 0, none⟩) ∧ (¬ g.2.2.2.2.2.2.1 = some ⟨g9, 0, none⟩) ∧ (¬ g.2.2.2.2.2.2.1 = some ⟨g74, 0, none⟩) ∧ (g.1 ≤ nS ∧ runToL x S g.1 = (g.2.1, g.2.2.1) ∧ LibOK g.2.1 ∧ 0 ≤ g.2.2.1 ∧ g.2.2.1 ≤ (g.1 : Int))) (fun g => nS - g.1) (0, x, (0 : Int), A59, n60, c61, A63, n64, c65) ?_ ?_ ?_
    · exact ⟨rfl, rfl, rfl, rfl, rfl, rfl, rfl, trivial⟩
    · show (Lo w w84) ∧ (SlR w84 BS encLibraryStep 4 AS nS cS S) ∧ (Blk w84 g9 31 [.slice none 0 0, .slice none 0 0, .int .i64 0, .int .i64 0, .int .i64 0]) ∧ (Blk w84 g74 31 [.slice A59 n60 c61, .slice A63 n64 c65, .int .i64 x.Bought, .int .i64 x.Dropped, .int .i64 x.Mended]) ∧ (SlO w84 w.heap.size encLMap 3 73 A59 n60 c61 x.Maps) ∧ (SlO w84 w.heap.size encAway 2 77 A63 n64 c65 x.Away) ∧ (¬ A59 = some ⟨g9, 0, none⟩) ∧ (¬ A59 = some ⟨g74, 0, none⟩) ∧ (∀ b_, A59 = some ⟨b_, 0, none⟩ → ¬ A63 = some ⟨b_, 0, none⟩) ∧ (¬ A63 = some ⟨g9, 0, none⟩) ∧ (¬ A63 = some ⟨g74, 0, none⟩) ∧ (0 ≤ nS ∧ runToL x S 0 = (x, (0 : Int)) ∧ LibOK x ∧ 0 ≤ (0 : Int) ∧ (0 : Int) ≤ (0 : Int))
      exact ⟨hB89, hm90, hm91, (hb87), ((hm92).down (by omega)), ((hm93).down (by omega)), (fun e' => by have := (hm92).base_le e'; omega), hd82, hd67, (fun e' => by have := (hm93).base_le e'; omega), hd83, (z_c_spec_RunLibrary_96 x nx_Maps hbdx_Maps hlex_Maps nx_Away hbdx_Away hlex_Away S nS hbdS hleS hp0 h35 hq50 hq51 hq52 hq53 hq54 hq55 n60 hl70 hl71 n64 hl72 hl73)⟩
    · rintro ⟨k, o, m, A94, n94, c94, A95, n95, c95⟩ f97 w98 hP100
      obtain ⟨hB99, hm101, hm102, hm103, hO104, hO105, hd107, hd108, hd109, hd110, hd111, hi106⟩ : (Lo w w98) ∧ (SlR w98 BS encLibraryStep 4 AS nS cS S) ∧ (Blk w98 g9 31 [.slice none 0 0, .slice none 0 0, .int .i64 0, .int .i64 0, .int .i64 0]) ∧ (Blk w98 g74 31 [.slice A94 n94 c94, .slice A95 n95 c95, .int .i64 o.Bought, .int .i64 o.Dropped, .int .i64 o.Mended]) ∧ (SlO w98 w.heap.size encLMap 3 73 A94 n94 c94 o.Maps) ∧ (SlO w98 w.heap.size encAway 2 77 A95 n95 c95 o.Away) ∧ (¬ A94 = some ⟨g9, 0, none⟩) ∧ (¬ A94 = some ⟨g74, 0, none⟩) ∧ (∀ b_, A94 = some ⟨b_, 0, none⟩ → ¬ A95 = some ⟨b_, 0, none⟩) ∧ (¬ A95 = some ⟨g9, 0, none⟩) ∧ (¬ A95 = some ⟨g74, 0, none⟩) ∧ (k ≤ nS ∧ runToL x S k = (o, m) ∧ LibOK o ∧ 0 ≤ m ∧ m ≤ (k : Int)) := hP100
      refine (?_ : W _ _ _ _ _ (act _ (sets f97 [(1, .slice AS nS cS), (4, .pointer (some ((⟨g9, 0, none⟩ : Addr)))), (5, .int .i64 0), (6, .bool false), (7, .pointer (some ((⟨g74, 0, none⟩ : Addr)))), (8, .int .i64 m), (9, .int .i64 (k : Int))])) _)
      have hzw98 := hB99.size
      have hl112 := hm102.lt
      have hl113 := hm103.lt
      have hl114 := hO104.len
      have hl115 := hO104.rd.bound
      have hl116 := hO105.len
      have hl117 := hO105.rd.bound
      have hq118 : LibOK o := hi106.2.2.1
      have hq119 : o.Maps.length ≤ 8 ∧ o.Away.length ≤ 8 := And.intro (lib_rng hi106.2.2.1).1 (lib_rng hi106.2.2.1).2.1
      have hq120 : 0 ≤ m ∧ m ≤ (k : Int) := hi106.2.2.2
      refine W.seq ?_
      refine W.seq ?_
      refine W.regS (SR.q' (r_mv (v := .int .i64 _) rfl) <| SR.q' (r_mv (v := .slice _ _ _) rfl) <| SR.q' (r_len und57 rfl) <| SR.q' (r_lt rfl rfl) <| SR.nil ?_)
      refine W.cond_d rfl (fun h121 => ?_) (fun h121 => ?_)
      · refine W.skip ?_
        refine W.seq ?_
        refine W.block ?_
        refine W.seq ?_
        refine W.seq ?_
        refine W.regD mo (by kernel_rfl) (QR.q' (fun w' hw' => r_lda (l := [.slice A94 n94 c94, .slice A95 n95 c95, .int .i64 o.Bought, .int .i64 o.Dropped, .int .i64 o.Mended]) agg31 rfl (fun _ _ hu => ((hm103).lo hw').cell hu) rfl) <| QR.q' (fun w' hw' => r_mv (v := .slice _ _ _) rfl) <| QR.q' (fun w' hw' => r_mv (v := .int .i64 _) rfl) <| ?_)
        have hx123 := (hm101).elem (i := k) (by omega)
        refine QR.q' (fun w' hw' => r_ixR tsl57 (((hm101).lo hw')) rfl rfl (by omega)) <| QR.q' (fun w' hw' => r_lda (l := encLibraryStep (gt S k)) agg49 rfl (fun _ _ hu => (((hm101).lo hw')).cell hx123 hu) ((((hm101).lo hw')).esz _)) <| QR.call ent67 (fun w' hw' => (c_spec_l32Step w' o ((((hO104).lo hw').rd)) ((((hO105).lo hw').rd)) (gt S k)).mono fun _ _ h => ⟨h.1, hw'.trans h.2⟩) rfl <| QR.q' (fun w' hw' => r_not rfl) <| QR.nil ?_
        intro w124 hk125
        have hz126 := hk125.size
        have hB127 := hB99.lo hk125
        refine W.cond_b rfl (fun h128 => ?_) (fun h128 => ?_)
        · have hq129 := bnot_t h128
          refine W.exit (xin_here ?_)
          refine W.regS (SR.q' (r_mv (v := .int .i64 _) rfl) <| SR.q' (r_add rfl rfl (by omega)) <| SR.q' (r_as (v := .int .i64 _) rfl) <| SR.nil ?_)
          refine ⟨(k + 1, o, m, A94, n94, c94, A95, n95, c95), _, rfl, ⟨rfl, rfl, rfl, rfl, rfl, rfl, rfl, trivial⟩, (show (Lo w w124) ∧ (SlR w124 BS encLibraryStep 4 AS nS cS S) ∧ (Blk w124 g9 31 [.slice none 0 0, .slice none 0 0, .int .i64 0, .int .i64 0, .int .i64 0]) ∧ (Blk w124 g74 31 [.slice A94 n94 c94, .slice A95 n95 c95, .int .i64 o.Bought, .int .i64 o.Dropped, .int .i64 o.Mended]) ∧ (SlO w124 w.heap.size encLMap 3 73 A94 n94 c94 o.Maps) ∧ (SlO w124 w.heap.size encAway 2 77 A95 n95 c95 o.Away) ∧ (¬ A94 = some ⟨g9, 0, none⟩) ∧ (¬ A94 = some ⟨g74, 0, none⟩) ∧ (∀ b_, A94 = some ⟨b_, 0, none⟩ → ¬ A95 = some ⟨b_, 0, none⟩) ∧ (¬ A95 = some ⟨g9, 0, none⟩) ∧ (¬ A95 = some ⟨g74, 0, none⟩) ∧ (k + 1 ≤ nS ∧ runToL x S (k + 1) = (o, m) ∧ LibOK o ∧ 0 ≤ m ∧ m ≤ (k + 1 : Int)) from ⟨hB127, (hm101).lo hk125, (hm102).lo hk125, ((hm103).lo hk125), ((hO104).lo hk125), ((hO105).lo hk125), hd107, hd108, hd109, hd110, hd111, ?_⟩), ?_⟩
          · exact (z_c_spec_RunLibrary_130 x nx_Maps hbdx_Maps hlex_Maps nx_Away hbdx_Away hlex_Away S nS hbdS hleS hp0 h35 hq50 hq51 hq52 hq53 hq54 hq55 n60 hl70 hl71 n64 hl72 hl73 k o m n94 c94 n95 c95 hi106 hl114 hl116 hq118 hq119 hq120 h121 hx123 h128 hq129)
          · exact (z_c_spec_RunLibrary_131 x nx_Maps hbdx_Maps hlex_Maps nx_Away hbdx_Away hlex_Away S nS hbdS hleS hp0 h35 hq50 hq51 hq52 hq53 hq54 hq55 n60 hl70 hl71 n64 hl72 hl73 k o m n94 c94 n95 c95 hi106 hl114 hl116 hq118 hq119 hq120 h121 hx123 h128 hq129)
        · have hq132 := bnot_f h128
          refine W.skip ?_
          refine W.seq ?_
          refine W.regA (Lo w124) (fun f' w' => ∃ (A139 : Option Addr), ∃ (n140 : Nat), ∃ (c141 : Nat), ∃ (A143 : Option Addr), ∃ (n144 : Nat), ∃ (c145 : Nat), ∃ (g155 : Nat), At f' [(1, .slice AS nS cS), (4, .pointer (some ((⟨g9, 0, none⟩ : Addr)))), (5, .int .i64 0), (6, .bool false), (7, .pointer (some ((⟨g74, 0, none⟩ : Addr)))), (8, .int .i64 m), (9, .int .i64 (k : Int)), (10, .pointer (some ((⟨g155, 0, none⟩ : Addr)))), (11, .bool ((spec_l32Make o (gt S k)).2))] ∧ (Lo w124 w') ∧ (SlO w' w124.heap.size encLMap 3 73 A139 n140 c141 (((spec_l32Make o (gt S k)).1).Maps)) ∧ (SlO w' w124.heap.size encAway 2 77 A143 n144 c145 (((spec_l32Make o (gt S k)).1).Away)) ∧ (Blk w' g155 31 [.slice A139 n140 c141, .slice A143 n144 c145, .int .i64 (((spec_l32Make o (gt S k)).1).Bought), .int .i64 (((spec_l32Make o (gt S k)).1).Dropped), .int .i64 (((spec_l32Make o (gt S k)).1).Mended)]) ∧ (w124.heap.size ≤ g155 ∧ g155 < w'.heap.size) ∧ (¬ A94 = some ⟨g155, 0, none⟩) ∧ (¬ A95 = some ⟨g155, 0, none⟩) ∧ (¬ A139 = some ⟨g155, 0, none⟩) ∧ (¬ A143 = some ⟨g155, 0, none⟩) ∧ (∀ b_, A139 = some ⟨b_, 0, none⟩ → ¬ A94 = some ⟨b_, 0, none⟩) ∧ (∀ b_, A139 = some ⟨b_, 0, none⟩ → ¬ A95 = some ⟨b_, 0, none⟩) ∧ (∀ b_, A139 = some ⟨b_, 0, none⟩ → ¬ A143 = some ⟨b_, 0, none⟩) ∧ (∀ b_, A143 = some ⟨b_, 0, none⟩ → ¬ A94 = some ⟨b_, 0, none⟩) ∧ (∀ b_, A143 = some ⟨b_, 0, none⟩ → ¬ A95 = some ⟨b_, 0, none⟩) ∧ (n140 = (((spec_l32Make o (gt S k)).1).Maps).length) ∧ ((n140 : Int) ≤ 9223372036854775807) ∧ (n144 = (((spec_l32Make o (gt S k)).1).Away).length) ∧ ((n144 : Int) ≤ 9223372036854775807)) mo ?_ ?_
          · intro w133 hk134
            have hz135 := hk134.size
            have hB136 := hB127.lo hk134
            refine AH.take 0 rfl (by kernel_rfl) trivial (hk134) (fun w' hw' => r_lda (l := [.slice A94 n94 c94, .slice A95 n95 c95, .int .i64 o.Bought, .int .i64 o.Dropped, .int .i64 o.Mended]) agg31 rfl (fun _ _ hu => (((hm103).lo hk125).lo hw').cell hu) rfl) <| AH.take 1 rfl (by kernel_rfl) trivial (hk134) (fun w' hw' => r_mv (v := .slice _ _ _) rfl) <| AH.take 2 rfl (by kernel_rfl) trivial (hk134) (fun w' hw' => r_mv (v := .int .i64 _) rfl) <| AH.take 3 rfl (by kernel_rfl) trivial (hk134) (fun w' hw' => r_ixR tsl57 ((((hm101).lo hk125).lo hw')) rfl rfl (by omega)) <| AH.take 4 rfl (by kernel_rfl) trivial (hk134) (fun w' hw' => r_lda (l := encLibraryStep (gt S k)) agg49 rfl (fun _ _ hu => ((((hm101).lo hk125).lo hw')).cell hx123 hu) (((((hm101).lo hk125).lo hw')).esz _)) <| AH.br [5, 9] (by kernel_rfl) rfl ⟨Br.mk' rfl trivial ?_, Br.mk' rfl trivial ?_, trivial⟩
            · refine SR.call ent68 (c_spec_l32Make w133 o (((((hO104).lo hk125).lo hk134).rd)) (((((hO105).lo hk125).lo hk134).rd)) (gt S k) (by assumption) (by assumption)) rfl ?_
              rintro e w137 ⟨A139, n140, c141, A143, n144, c145, rfl, hO142, hO146, hd147, hk138⟩
              refine ⟨_, rfl, ?_⟩
              have hz148 := hk138.size
              have hB149 := hB136.lo hk138
              have hS150 := (hk134).lo hk138
              have hl151 := hO142.len
              have hl152 := hO142.rd.bound
              have hl153 := hO146.len
              have hl154 := hO146.rd.bound
              refine SR.nil ⟨hS150, _, rfl, ?_⟩
              refine AH.take 6 rfl (by kernel_rfl) trivial (hS150) (fun w' hw' => r_mv (v := .tuple (List.toArray _)) rfl) <| AH.take 7 rfl (by kernel_rfl) trivial (hS150) (fun w' hw' => r_ext (v := .agg (List.toArray _)) rfl rfl) <| AH.take 8 rfl (by kernel_rfl) trivial (hS150) (fun w' hw' => r_ext (v := .bool _) rfl rfl) <| AH.br [9] (by kernel_rfl) rfl ⟨Br.mk' rfl trivial ?_, trivial⟩
              refine SR.alloc (l := [.slice none 0 0, .slice none 0 0, .int .i64 0, .int .i64 0, .int .i64 0]) tz31 rfl ?_
              intro g155 w156 hg157 hk158 hs159 hb160
              have hz161 := hk158.size
              have hB162 := hB149.lo hk158
              have hS163 := (hS150).lo hk158
              have hd164 : ¬ A94 = some ⟨g155, 0, none⟩ := fun e' => by have := ((((hO104).lo hk125).lo hk134).lo hk138).base_le e'; omega
              have hd165 : ¬ A95 = some ⟨g155, 0, none⟩ := fun e' => by have := ((((hO105).lo hk125).lo hk134).lo hk138).base_le e'; omega
              have hd166 : ¬ A139 = some ⟨g155, 0, none⟩ := fun e' => by have := (hO142).base_le e'; omega
              have hd167 : ¬ A143 = some ⟨g155, 0, none⟩ := fun e' => by have := (hO146).base_le e'; omega
              refine SR.nil ⟨hS163, _, rfl, ?_⟩
              refine AH.br [10] (by kernel_rfl) rfl ⟨Br.mk' rfl trivial ?_, trivial⟩
              refine SR.store (o := 0) (vs := [.slice A139 n140 c141, .slice A143 n144 c145, .int .i64 (((spec_l32Make o (gt S k)).1).Bought), .int .i64 (((spec_l32Make o (gt S k)).1).Dropped), .int .i64 (((spec_l32Make o (gt S k)).1).Mended)]) agg31.2 rfl rfl rfl rfl (hb160) (Nat.le_of_ble_eq_true rfl) rfl ?_
              intro w168 hk169 hs170 hb171
              have hz172 := hk169.size
              have hB173 := hB162.new hk169 (by omega)
              have hS174 := (hS163).new hk169 (by omega)
              refine SR.nil ⟨hS174, _, rfl, ?_⟩
              refine AH.take 11 rfl (by kernel_rfl) trivial (hS174) (fun w' hw' => r_as (v := .bool _) rfl) <| AH.done (by kernel_rfl) ?_
              exact ⟨A139, n140, c141, A143, n144, c145, g155, ⟨rfl, rfl, rfl, rfl, rfl, rfl, rfl, rfl, rfl, trivial⟩, hS174, ((((hO142).lo hk158).kp hk169 (fun b_ hb e' => hd166 (by have e'' : b_ = g155 := e'; rw [← e'']; exact hb))).down (by omega)), ((((hO146).lo hk158).kp hk169 (fun b_ hb e' => hd167 (by have e'' : b_ = g155 := e'; rw [← e'']; exact hb))).down (by omega)), (hb171), ⟨by omega, (hb171).lt⟩, hd164, hd165, hd166, hd167, (fun b_ h h' => by have h1 := (((hO142).lo hk158).kp hk169 (fun b_ hb e' => hd166 (by have e'' : b_ = g155 := e'; rw [← e'']; exact hb))).base_le h; have h2 := (((hO104).lo hk125).lo hk134).base_le h'; omega), (fun b_ h h' => by have h1 := (((hO142).lo hk158).kp hk169 (fun b_ hb e' => hd166 (by have e'' : b_ = g155 := e'; rw [← e'']; exact hb))).base_le h; have h2 := (((hO105).lo hk125).lo hk134).base_le h'; omega), hd147, (fun b_ h h' => by have h1 := (((hO146).lo hk158).kp hk169 (fun b_ hb e' => hd167 (by have e'' : b_ = g155 := e'; rw [← e'']; exact hb))).base_le h; have h2 := (((hO104).lo hk125).lo hk134).base_le h'; omega), (fun b_ h h' => by have h1 := (((hO146).lo hk158).kp hk169 (fun b_ hb e' => hd167 (by have e'' : b_ = g155 := e'; rw [← e'']; exact hb))).base_le h; have h2 := (((hO105).lo hk125).lo hk134).base_le h'; omega), hl151, hl152, hl153, hl154⟩
            · refine SR.alloc (l := [.slice none 0 0, .slice none 0 0, .int .i64 0, .int .i64 0, .int .i64 0]) tz31 rfl ?_
              intro g188 w189 hg190 hk191 hs192 hb193
              have hz194 := hk191.size
              have hB195 := hB136.lo hk191
              have hS196 := (hk134).lo hk191
              have hd197 : ¬ A94 = some ⟨g188, 0, none⟩ := fun e' => by have := (((hO104).lo hk125).lo hk134).base_le e'; omega
              have hd198 : ¬ A95 = some ⟨g188, 0, none⟩ := fun e' => by have := (((hO105).lo hk125).lo hk134).base_le e'; omega
              refine SR.nil ⟨hS196, _, rfl, ?_⟩
              refine AH.br [5] (by kernel_rfl) rfl ⟨Br.mk' rfl trivial ?_, trivial⟩
              refine SR.call ent68 (c_spec_l32Make w189 o ((((((hO104).lo hk125).lo hk134).lo hk191).rd)) ((((((hO105).lo hk125).lo hk134).lo hk191).rd)) (gt S k) (by assumption) (by assumption)) rfl ?_
              rintro e w199 ⟨A201, n202, c203, A205, n206, c207, rfl, hO204, hO208, hd209, hk200⟩
              refine ⟨_, rfl, ?_⟩
              have hz210 := hk200.size
              have hB211 := hB195.lo hk200
              have hS212 := (hS196).lo hk200
              have hl213 := hO204.len
              have hl214 := hO204.rd.bound
              have hl215 := hO208.len
              have hl216 := hO208.rd.bound
              refine SR.nil ⟨hS212, _, rfl, ?_⟩
              refine AH.take 6 rfl (by kernel_rfl) trivial (hS212) (fun w' hw' => r_mv (v := .tuple (List.toArray _)) rfl) <| AH.take 7 rfl (by kernel_rfl) trivial (hS212) (fun w' hw' => r_ext (v := .agg (List.toArray _)) rfl rfl) <| AH.take 8 rfl (by kernel_rfl) trivial (hS212) (fun w' hw' => r_ext (v := .bool _) rfl rfl) <| AH.br [10] (by kernel_rfl) rfl ⟨Br.mk' rfl trivial ?_, trivial⟩
              refine SR.store (o := 0) (vs := [.slice A201 n202 c203, .slice A205 n206 c207, .int .i64 (((spec_l32Make o (gt S k)).1).Bought), .int .i64 (((spec_l32Make o (gt S k)).1).Dropped), .int .i64 (((spec_l32Make o (gt S k)).1).Mended)]) agg31.2 rfl rfl rfl rfl ((hb193).lo hk200) (Nat.le_of_ble_eq_true rfl) rfl ?_
              intro w217 hk218 hs219 hb220
              have hz221 := hk218.size
              have hB222 := hB211.new hk218 (by omega)
              have hS223 := (hS212).new hk218 (by omega)
              refine SR.nil ⟨hS223, _, rfl, ?_⟩
              refine AH.take 11 rfl (by kernel_rfl) trivial (hS223) (fun w' hw' => r_as (v := .bool _) rfl) <| AH.done (by kernel_rfl) ?_
              exact ⟨A201, n202, c203, A205, n206, c207, g188, ⟨rfl, rfl, rfl, rfl, rfl, rfl, rfl, rfl, rfl, trivial⟩, hS223, (((hO204).kp hk218 (fun b_ hb e' => by have e'' : b_ = g188 := e'; have := (hO204).base_le hb; omega)).down (by omega)), (((hO208).kp hk218 (fun b_ hb e' => by have e'' : b_ = g188 := e'; have := (hO208).base_le hb; omega)).down (by omega)), (hb220), ⟨by omega, (hb220).lt⟩, hd197, hd198, (fun e' => by have := ((hO204).kp hk218 (fun b_ hb e' => by have e'' : b_ = g188 := e'; have := (hO204).base_le hb; omega)).base_le e'; omega), (fun e' => by have := ((hO208).kp hk218 (fun b_ hb e' => by have e'' : b_ = g188 := e'; have := (hO208).base_le hb; omega)).base_le e'; omega), (fun b_ h h' => by have h1 := ((hO204).kp hk218 (fun b_ hb e' => by have e'' : b_ = g188 := e'; have := (hO204).base_le hb; omega)).base_le h; have h2 := ((((hO104).lo hk125).lo hk134).lo hk191).base_le h'; omega), (fun b_ h h' => by have h1 := ((hO204).kp hk218 (fun b_ hb e' => by have e'' : b_ = g188 := e'; have := (hO204).base_le hb; omega)).base_le h; have h2 := ((((hO105).lo hk125).lo hk134).lo hk191).base_le h'; omega), hd209, (fun b_ h h' => by have h1 := ((hO208).kp hk218 (fun b_ hb e' => by have e'' : b_ = g188 := e'; have := (hO208).base_le hb; omega)).base_le h; have h2 := ((((hO104).lo hk125).lo hk134).lo hk191).base_le h'; omega), (fun b_ h h' => by have h1 := ((hO208).kp hk218 (fun b_ hb e' => by have e'' : b_ = g188 := e'; have := (hO208).base_le hb; omega)).base_le h; have h2 := ((((hO105).lo hk125).lo hk134).lo hk191).base_le h'; omega), hl213, hl214, hl215, hl216⟩
          rintro f234 w235 ⟨A139, n140, c141, A143, n144, c145, g155, hat237, hR236, hm175, hm176, hm177, hg178, hd179, hd180, hd181, hd182, hd183, hd184, hd185, hd186, hd187, hl151, hl152, hl153, hl154⟩
          rw [← sets_of_at hat237]
          have hz238 := hR236.size
          have hB239 := hB127.lo hR236
          refine W.seq ?_
          have hm240 := ((hm101).lo hk125).lo hR236
          have hm241 := ((hm102).lo hk125).lo hR236
          have hm242 := ((hm103).lo hk125).lo hR236
          have hm243 := ((hO104).lo hk125).lo hR236
          have hm244 := ((hO105).lo hk125).lo hR236
          refine W.regS (SR.q' (r_mv (v := .bool _) rfl) <| SR.nil ?_)
          refine W.cond_b rfl (fun h245 => ?_) (fun h245 => ?_)
          · refine W.seq ?_
            refine W.regS (SR.q' (r_lda (l := [.slice A139 n140 c141, .slice A143 n144 c145, .int .i64 (((spec_l32Make o (gt S k)).1).Bought), .int .i64 (((spec_l32Make o (gt S k)).1).Dropped), .int .i64 (((spec_l32Make o (gt S k)).1).Mended)]) agg31 rfl (fun _ _ hu => (hm177).cell hu) rfl) <| SR.store (o := 0) (vs := [.slice A139 n140 c141, .slice A143 n144 c145, .int .i64 (((spec_l32Make o (gt S k)).1).Bought), .int .i64 (((spec_l32Make o (gt S k)).1).Dropped), .int .i64 (((spec_l32Make o (gt S k)).1).Mended)]) agg31.2 rfl rfl rfl rfl (hm242) (Nat.le_of_ble_eq_true rfl) rfl ?_)
            intro w246 hk247 hs248 hb249
            have hz250 := hk247.size
            have hB251 := hB239.new hk247 (by omega)
            refine SR.nil ?_
            refine W.regS (SR.q' (r_mv (v := .int .i64 _) rfl) <| SR.q' (r_add rfl rfl (by omega)) <| SR.q' (r_as (v := .int .i64 _) rfl) <| SR.nil ?_)
            refine W.regS (SR.q' (r_mv (v := .int .i64 _) rfl) <| SR.q' (r_add rfl rfl (by omega)) <| SR.q' (r_as (v := .int .i64 _) rfl) <| SR.nil ?_)
            refine ⟨(k + 1, ((spec_l32Make o (gt S k)).1), m + 1, A139, n140, c141, A143, n144, c145), _, rfl, ⟨rfl, rfl, rfl, rfl, rfl, rfl, rfl, trivial⟩, (show (Lo w w246) ∧ (SlR w246 BS encLibraryStep 4 AS nS cS S) ∧ (Blk w246 g9 31 [.slice none 0 0, .slice none 0 0, .int .i64 0, .int .i64 0, .int .i64 0]) ∧ (Blk w246 g74 31 [.slice A139 n140 c141, .slice A143 n144 c145, .int .i64 (((spec_l32Make o (gt S k)).1).Bought), .int .i64 (((spec_l32Make o (gt S k)).1).Dropped), .int .i64 (((spec_l32Make o (gt S k)).1).Mended)]) ∧ (SlO w246 w.heap.size encLMap 3 73 A139 n140 c141 (((spec_l32Make o (gt S k)).1).Maps)) ∧ (SlO w246 w.heap.size encAway 2 77 A143 n144 c145 (((spec_l32Make o (gt S k)).1).Away)) ∧ (¬ A139 = some ⟨g9, 0, none⟩) ∧ (¬ A139 = some ⟨g74, 0, none⟩) ∧ (∀ b_, A139 = some ⟨b_, 0, none⟩ → ¬ A143 = some ⟨b_, 0, none⟩) ∧ (¬ A143 = some ⟨g9, 0, none⟩) ∧ (¬ A143 = some ⟨g74, 0, none⟩) ∧ (k + 1 ≤ nS ∧ runToL x S (k + 1) = (((spec_l32Make o (gt S k)).1), m + 1) ∧ LibOK ((spec_l32Make o (gt S k)).1) ∧ 0 ≤ m + 1 ∧ m + 1 ≤ (k + 1 : Int)) from ⟨hB251, (hm240).kp hk247 (fun b_ hb e' => by have e'' : b_ = g74 := e'; omega), (hm241).kp hk247 (fun e' => by have e'' : g9 = g74 := e'; omega), (hb249), (((hm175).kp hk247 (fun b_ hb e' => by have e'' : b_ = g74 := e'; have := (hm175).base_le hb; omega)).down (by omega)), (((hm176).kp hk247 (fun b_ hb e' => by have e'' : b_ = g74 := e'; have := (hm176).base_le hb; omega)).down (by omega)), (fun e' => by have := ((hm175).kp hk247 (fun b_ hb e' => by have e'' : b_ = g74 := e'; have := (hm175).base_le hb; omega)).base_le e'; omega), (fun e' => by have := ((hm175).kp hk247 (fun b_ hb e' => by have e'' : b_ = g74 := e'; have := (hm175).base_le hb; omega)).base_le e'; omega), hd185, (fun e' => by have := ((hm176).kp hk247 (fun b_ hb e' => by have e'' : b_ = g74 := e'; have := (hm176).base_le hb; omega)).base_le e'; omega), (fun e' => by have := ((hm176).kp hk247 (fun b_ hb e' => by have e'' : b_ = g74 := e'; have := (hm176).base_le hb; omega)).base_le e'; omega), ?_⟩), ?_⟩
            · exact (z_c_spec_RunLibrary_252 x nx_Maps hbdx_Maps hlex_Maps nx_Away hbdx_Away hlex_Away S nS hbdS hleS hp0 h35 hq50 hq51 hq52 hq53 hq54 hq55 n60 hl70 hl71 n64 hl72 hl73 k o m n94 c94 n95 c95 hi106 hl114 hl116 hq118 hq119 hq120 h121 hx123 h128 hq132 n140 n144 hl151 hl152 hl153 hl154 h245)
            · exact (z_c_spec_RunLibrary_253 x nx_Maps hbdx_Maps hlex_Maps nx_Away hbdx_Away hlex_Away S nS hbdS hleS hp0 h35 hq50 hq51 hq52 hq53 hq54 hq55 n60 hl70 hl71 n64 hl72 hl73 k o m n94 c94 n95 c95 hi106 hl114 hl116 hq118 hq119 hq120 h121 hx123 h128 hq132 n140 n144 hl151 hl152 hl153 hl154 h245)
          · refine W.skip ?_
            refine W.regS (SR.q' (r_mv (v := .int .i64 _) rfl) <| SR.q' (r_add rfl rfl (by omega)) <| SR.q' (r_as (v := .int .i64 _) rfl) <| SR.nil ?_)
            refine ⟨(k + 1, o, m, A94, n94, c94, A95, n95, c95), _, rfl, ⟨rfl, rfl, rfl, rfl, rfl, rfl, rfl, trivial⟩, (show (Lo w w235) ∧ (SlR w235 BS encLibraryStep 4 AS nS cS S) ∧ (Blk w235 g9 31 [.slice none 0 0, .slice none 0 0, .int .i64 0, .int .i64 0, .int .i64 0]) ∧ (Blk w235 g74 31 [.slice A94 n94 c94, .slice A95 n95 c95, .int .i64 o.Bought, .int .i64 o.Dropped, .int .i64 o.Mended]) ∧ (SlO w235 w.heap.size encLMap 3 73 A94 n94 c94 o.Maps) ∧ (SlO w235 w.heap.size encAway 2 77 A95 n95 c95 o.Away) ∧ (¬ A94 = some ⟨g9, 0, none⟩) ∧ (¬ A94 = some ⟨g74, 0, none⟩) ∧ (∀ b_, A94 = some ⟨b_, 0, none⟩ → ¬ A95 = some ⟨b_, 0, none⟩) ∧ (¬ A95 = some ⟨g9, 0, none⟩) ∧ (¬ A95 = some ⟨g74, 0, none⟩) ∧ (k + 1 ≤ nS ∧ runToL x S (k + 1) = (o, m) ∧ LibOK o ∧ 0 ≤ m ∧ m ≤ (k + 1 : Int)) from ⟨hB239, hm240, hm241, (hm242), (hm243), (hm244), hd107, hd108, hd109, hd110, hd111, ?_⟩), ?_⟩
            · exact (z_c_spec_RunLibrary_254 x nx_Maps hbdx_Maps hlex_Maps nx_Away hbdx_Away hlex_Away S nS hbdS hleS hp0 h35 hq50 hq51 hq52 hq53 hq54 hq55 n60 hl70 hl71 n64 hl72 hl73 k o m n94 c94 n95 c95 hi106 hl114 hl116 hq118 hq119 hq120 h121 hx123 h128 hq132 n140 n144 hl151 hl152 hl153 hl154 h245)
            · exact (z_c_spec_RunLibrary_255 x nx_Maps hbdx_Maps hlex_Maps nx_Away hbdx_Away hlex_Away S nS hbdS hleS hp0 h35 hq50 hq51 hq52 hq53 hq54 hq55 n60 hl70 hl71 n64 hl72 hl73 k o m n94 c94 n95 c95 hi106 hl114 hl116 hq118 hq119 hq120 h121 hx123 h128 hq132 n140 n144 hl151 hl152 hl153 hl154 h245)
      · refine W.exit (xin_here ?_)
        refine W.seq ?_
        refine W.regS (SR.q' (r_lda (l := [.slice A94 n94 c94, .slice A95 n95 c95, .int .i64 o.Bought, .int .i64 o.Dropped, .int .i64 o.Mended]) agg31 rfl (fun _ _ hu => (hm103).cell hu) rfl) <| SR.q' (r_mv (v := .int .i64 _) rfl) <| SR.store (o := 0) (vs := [.slice A94 n94 c94, .slice A95 n95 c95, .int .i64 o.Bought, .int .i64 o.Dropped, .int .i64 o.Mended]) agg31.2 rfl rfl rfl rfl (hm102) (Nat.le_of_ble_eq_true rfl) rfl ?_)
        intro w256 hk257 hs258 hb259
        have hz260 := hk257.size
        have hB261 := hB99.new hk257 (by omega)
        refine SR.q' (r_as (v := .int .i64 _) rfl) <| SR.q' (r_as (v := .bool true) rfl) <| SR.nil ?_
        refine W.ret ?_
        refine retCTT rfl rfl agg31 (hb259) rfl (v := .int .i64 _) rfl (v' := .bool _) rfl ?_
        exact ⟨A94, n94, c94, A95, n95, c95, eR (eT3 (eA (eC rfl (eC rfl (eC (eI (z_c_spec_RunLibrary_264 x nx_Maps hbdx_Maps hlex_Maps nx_Away hbdx_Away hlex_Away S nS hbdS hleS hp0 h35 hq50 hq51 hq52 hq53 hq54 hq55 n60 hl70 hl71 n64 hl72 hl73 k o m n94 c94 n95 c95 hi106 hl114 hl116 hq118 hq119 hq120 h121)) (eC (eI (z_c_spec_RunLibrary_265 x nx_Maps hbdx_Maps hlex_Maps nx_Away hbdx_Away hlex_Away S nS hbdS hleS hp0 h35 hq50 hq51 hq52 hq53 hq54 hq55 n60 hl70 hl71 n64 hl72 hl73 k o m n94 c94 n95 c95 hi106 hl114 hl116 hq118 hq119 hq120 h121)) (eC (eI (z_c_spec_RunLibrary_266 x nx_Maps hbdx_Maps hlex_Maps nx_Away hbdx_Away hlex_Away S nS hbdS hleS hp0 h35 hq50 hq51 hq52 hq53 hq54 hq55 n60 hl70 hl71 n64 hl72 hl73 k o m n94 c94 n95 c95 hi106 hl114 hl116 hq118 hq119 hq120 h121)) rfl)))))) (eI (z_c_spec_RunLibrary_267 x nx_Maps hbdx_Maps hlex_Maps nx_Away hbdx_Away hlex_Away S nS hbdS hleS hp0 h35 hq50 hq51 hq52 hq53 hq54 hq55 n60 hl70 hl71 n64 hl72 hl73 k o m n94 c94 n95 c95 hi106 hl114 hl116 hq118 hq119 hq120 h121)) (eB (z_c_spec_RunLibrary_268 x nx_Maps hbdx_Maps hlex_Maps nx_Away hbdx_Away hlex_Away S nS hbdS hleS hp0 h35 hq50 hq51 hq52 hq53 hq54 hq55 n60 hl70 hl71 n64 hl72 hl73 k o m n94 c94 n95 c95 hi106 hl114 hl116 hq118 hq119 hq120 h121))), (SlO.eqv (((hO104).kp hk257 (fun b_ hb e' => hd107 (by have e'' : b_ = g9 := e'; rw [← e'']; exact hb))).down (by omega)) (z_c_spec_RunLibrary_262 x nx_Maps hbdx_Maps hlex_Maps nx_Away hbdx_Away hlex_Away S nS hbdS hleS hp0 h35 hq50 hq51 hq52 hq53 hq54 hq55 n60 hl70 hl71 n64 hl72 hl73 k o m n94 c94 n95 c95 hi106 hl114 hl116 hq118 hq119 hq120 h121)), (SlO.eqv (((hO105).kp hk257 (fun b_ hb e' => hd110 (by have e'' : b_ = g9 := e'; rw [← e'']; exact hb))).down (by omega)) (z_c_spec_RunLibrary_263 x nx_Maps hbdx_Maps hlex_Maps nx_Away hbdx_Away hlex_Away S nS hbdS hleS hp0 h35 hq50 hq51 hq52 hq53 hq54 hq55 n60 hl70 hl71 n64 hl72 hl73 k o m n94 c94 n95 c95 hi106 hl114 hl116 hq118 hq119 hq120 h121)), hd109, hB261⟩
end Go.Proofs.Ytbodnffjgmaloaa
