/- Walks, printed by a program of this claim's author. -/
import Derived.Test.YtbodnffjgmaloaaChecked
import Derived.Test.YtbodnffjgmaloaaUa
import Derived.Test.YtbodnffjgmaloaaFs
import Derived.Test.YtbodnffjgmaloaaFq
import Derived.Test.YtbodnffjgmaloaaUe
import Derived.Test.YtbodnffjgmaloaaG32k
namespace Go.Proofs.Ytbodnffjgmaloaa
open Go Go.RowKit Fw
set_option maxRecDepth 10000
set_option linter.unusedVariables false
theorem bld73_0_1 (a0 : Int) (a1 : Int) : Try.prog.built 73 [(0, .int .i64 a0), (1, .int .i64 a1)] = some (List.toArray [.int .i64 a0, .int .i64 a1, .int .i64 0]) := by kernel_rfl
theorem ent79 : Ent Try.prog 79 := ent_of Try.func79 (by decide +kernel) rfl

theorem z_c_spec_l32Bought_119 (x : Library) (nx_Maps : Nat) (hbdx_Maps : (nx_Maps : Int) ≤ 9223372036854775807) (hlex_Maps : nx_Maps = x.Maps.length) (nx_Away : Nat) (hbdx_Away : (nx_Away : Int) ≤ 9223372036854775807) (hlex_Away : nx_Away = x.Away.length) (id : Int) (n : Int) (hp0 : LibOK x) (hp1 : 0 ≤ n ∧ n ≤ 100) (n22 : Nat) (hl32 : n22 = (x.Maps).length) (hl33 : (n22 : Int) ≤ 9223372036854775807) (n26 : Nat) (hl34 : n26 = (x.Away).length) (hl35 : (n26 : Int) ≤ 9223372036854775807) (hq68 : idxF (hasId id) x.Maps < (x.Maps.length : Int) ∧ -1 ≤ idxF (hasId id) x.Maps) (h75 : 0 ≤ (idxF (hasId id) x.Maps)) (hx95 : x.Maps[(idxF (hasId id) x.Maps).toNat]? = some (gt x.Maps ((idxF (hasId id) x.Maps).toNat))) (hq96 : ((1 : Int) ≤ (gt x.Maps ((idxF (hasId id) x.Maps).toNat)).Id ∧ (gt x.Maps ((idxF (hasId id) x.Maps).toNat)).Id ≤ 99) ∧ ((0 : Int) ≤ (gt x.Maps ((idxF (hasId id) x.Maps).toNat)).Copies ∧ (gt x.Maps ((idxF (hasId id) x.Maps).toNat)).Copies ≤ 99) ∧ ((0 : Int) ≤ (gt x.Maps ((idxF (hasId id) x.Maps).toNat)).Torn ∧ (gt x.Maps ((idxF (hasId id) x.Maps).toNat)).Torn ≤ (gt x.Maps ((idxF (hasId id) x.Maps).toNat)).Copies)) (hx104 : (x.Maps.set ((idxF (hasId id) x.Maps).toNat) ({ (gt x.Maps ((idxF (hasId id) x.Maps).toNat)) with Copies := ((gt x.Maps ((idxF (hasId id) x.Maps).toNat)).Copies) + n }))[(idxF (hasId id) x.Maps).toNat]? = some ({ (gt x.Maps ((idxF (hasId id) x.Maps).toNat)) with Copies := ((gt x.Maps ((idxF (hasId id) x.Maps).toNat)).Copies) + n })) : x.Maps.set ((idxF (hasId id) x.Maps).toNat) ({ (gt x.Maps ((idxF (hasId id) x.Maps).toNat)) with Copies := ((gt x.Maps ((idxF (hasId id) x.Maps).toNat)).Copies) + n }) = (boughtN x id n).Maps := by
  first | (rw [bought_yes (x := x) (id := id) (n := n) (by assumption)]; first | done | rfl) | (rw [bought_no (x := x) (id := id) (n := n) (by assumption)]; first | done | rfl | (dsimp only; rw [← loopM_end (And.right ‹_ ∧ ∀ j, _ → cmpM _ _ < 0›) (by omega) (by omega)]; done) | (dsimp only; rw [← loopM_end (And.right ‹_ ∧ ∀ j, _ → cmpM _ _ < 0›) (by omega) (by omega)]; rfl))
theorem z_c_spec_l32Bought_120 (x : Library) (nx_Maps : Nat) (hbdx_Maps : (nx_Maps : Int) ≤ 9223372036854775807) (hlex_Maps : nx_Maps = x.Maps.length) (nx_Away : Nat) (hbdx_Away : (nx_Away : Int) ≤ 9223372036854775807) (hlex_Away : nx_Away = x.Away.length) (id : Int) (n : Int) (hp0 : LibOK x) (hp1 : 0 ≤ n ∧ n ≤ 100) (n22 : Nat) (hl32 : n22 = (x.Maps).length) (hl33 : (n22 : Int) ≤ 9223372036854775807) (n26 : Nat) (hl34 : n26 = (x.Away).length) (hl35 : (n26 : Int) ≤ 9223372036854775807) (hq68 : idxF (hasId id) x.Maps < (x.Maps.length : Int) ∧ -1 ≤ idxF (hasId id) x.Maps) (h75 : 0 ≤ (idxF (hasId id) x.Maps)) (hx95 : x.Maps[(idxF (hasId id) x.Maps).toNat]? = some (gt x.Maps ((idxF (hasId id) x.Maps).toNat))) (hq96 : ((1 : Int) ≤ (gt x.Maps ((idxF (hasId id) x.Maps).toNat)).Id ∧ (gt x.Maps ((idxF (hasId id) x.Maps).toNat)).Id ≤ 99) ∧ ((0 : Int) ≤ (gt x.Maps ((idxF (hasId id) x.Maps).toNat)).Copies ∧ (gt x.Maps ((idxF (hasId id) x.Maps).toNat)).Copies ≤ 99) ∧ ((0 : Int) ≤ (gt x.Maps ((idxF (hasId id) x.Maps).toNat)).Torn ∧ (gt x.Maps ((idxF (hasId id) x.Maps).toNat)).Torn ≤ (gt x.Maps ((idxF (hasId id) x.Maps).toNat)).Copies)) (hx104 : (x.Maps.set ((idxF (hasId id) x.Maps).toNat) ({ (gt x.Maps ((idxF (hasId id) x.Maps).toNat)) with Copies := ((gt x.Maps ((idxF (hasId id) x.Maps).toNat)).Copies) + n }))[(idxF (hasId id) x.Maps).toNat]? = some ({ (gt x.Maps ((idxF (hasId id) x.Maps).toNat)) with Copies := ((gt x.Maps ((idxF (hasId id) x.Maps).toNat)).Copies) + n })) : x.Away = (boughtN x id n).Away := by
  first | (rw [bought_yes (x := x) (id := id) (n := n) (by assumption)]; first | done | rfl) | (rw [bought_no (x := x) (id := id) (n := n) (by assumption)]; first | done | rfl | (dsimp only; rw [← loopM_end (And.right ‹_ ∧ ∀ j, _ → cmpM _ _ < 0›) (by omega) (by omega)]; done) | (dsimp only; rw [← loopM_end (And.right ‹_ ∧ ∀ j, _ → cmpM _ _ < 0›) (by omega) (by omega)]; rfl))
theorem z_c_spec_l32Bought_121 (x : Library) (nx_Maps : Nat) (hbdx_Maps : (nx_Maps : Int) ≤ 9223372036854775807) (hlex_Maps : nx_Maps = x.Maps.length) (nx_Away : Nat) (hbdx_Away : (nx_Away : Int) ≤ 9223372036854775807) (hlex_Away : nx_Away = x.Away.length) (id : Int) (n : Int) (hp0 : LibOK x) (hp1 : 0 ≤ n ∧ n ≤ 100) (n22 : Nat) (hl32 : n22 = (x.Maps).length) (hl33 : (n22 : Int) ≤ 9223372036854775807) (n26 : Nat) (hl34 : n26 = (x.Away).length) (hl35 : (n26 : Int) ≤ 9223372036854775807) (hq68 : idxF (hasId id) x.Maps < (x.Maps.length : Int) ∧ -1 ≤ idxF (hasId id) x.Maps) (h75 : 0 ≤ (idxF (hasId id) x.Maps)) (hx95 : x.Maps[(idxF (hasId id) x.Maps).toNat]? = some (gt x.Maps ((idxF (hasId id) x.Maps).toNat))) (hq96 : ((1 : Int) ≤ (gt x.Maps ((idxF (hasId id) x.Maps).toNat)).Id ∧ (gt x.Maps ((idxF (hasId id) x.Maps).toNat)).Id ≤ 99) ∧ ((0 : Int) ≤ (gt x.Maps ((idxF (hasId id) x.Maps).toNat)).Copies ∧ (gt x.Maps ((idxF (hasId id) x.Maps).toNat)).Copies ≤ 99) ∧ ((0 : Int) ≤ (gt x.Maps ((idxF (hasId id) x.Maps).toNat)).Torn ∧ (gt x.Maps ((idxF (hasId id) x.Maps).toNat)).Torn ≤ (gt x.Maps ((idxF (hasId id) x.Maps).toNat)).Copies)) (hx104 : (x.Maps.set ((idxF (hasId id) x.Maps).toNat) ({ (gt x.Maps ((idxF (hasId id) x.Maps).toNat)) with Copies := ((gt x.Maps ((idxF (hasId id) x.Maps).toNat)).Copies) + n }))[(idxF (hasId id) x.Maps).toNat]? = some ({ (gt x.Maps ((idxF (hasId id) x.Maps).toNat)) with Copies := ((gt x.Maps ((idxF (hasId id) x.Maps).toNat)).Copies) + n })) : x.Bought + n = (boughtN x id n).Bought := by
  first | (rw [bought_yes (x := x) (id := id) (n := n) (by assumption)]; first | done | rfl) | (rw [bought_no (x := x) (id := id) (n := n) (by assumption)]; first | done | rfl | (dsimp only; rw [← loopM_end (And.right ‹_ ∧ ∀ j, _ → cmpM _ _ < 0›) (by omega) (by omega)]; done) | (dsimp only; rw [← loopM_end (And.right ‹_ ∧ ∀ j, _ → cmpM _ _ < 0›) (by omega) (by omega)]; rfl))
theorem z_c_spec_l32Bought_122 (x : Library) (nx_Maps : Nat) (hbdx_Maps : (nx_Maps : Int) ≤ 9223372036854775807) (hlex_Maps : nx_Maps = x.Maps.length) (nx_Away : Nat) (hbdx_Away : (nx_Away : Int) ≤ 9223372036854775807) (hlex_Away : nx_Away = x.Away.length) (id : Int) (n : Int) (hp0 : LibOK x) (hp1 : 0 ≤ n ∧ n ≤ 100) (n22 : Nat) (hl32 : n22 = (x.Maps).length) (hl33 : (n22 : Int) ≤ 9223372036854775807) (n26 : Nat) (hl34 : n26 = (x.Away).length) (hl35 : (n26 : Int) ≤ 9223372036854775807) (hq68 : idxF (hasId id) x.Maps < (x.Maps.length : Int) ∧ -1 ≤ idxF (hasId id) x.Maps) (h75 : 0 ≤ (idxF (hasId id) x.Maps)) (hx95 : x.Maps[(idxF (hasId id) x.Maps).toNat]? = some (gt x.Maps ((idxF (hasId id) x.Maps).toNat))) (hq96 : ((1 : Int) ≤ (gt x.Maps ((idxF (hasId id) x.Maps).toNat)).Id ∧ (gt x.Maps ((idxF (hasId id) x.Maps).toNat)).Id ≤ 99) ∧ ((0 : Int) ≤ (gt x.Maps ((idxF (hasId id) x.Maps).toNat)).Copies ∧ (gt x.Maps ((idxF (hasId id) x.Maps).toNat)).Copies ≤ 99) ∧ ((0 : Int) ≤ (gt x.Maps ((idxF (hasId id) x.Maps).toNat)).Torn ∧ (gt x.Maps ((idxF (hasId id) x.Maps).toNat)).Torn ≤ (gt x.Maps ((idxF (hasId id) x.Maps).toNat)).Copies)) (hx104 : (x.Maps.set ((idxF (hasId id) x.Maps).toNat) ({ (gt x.Maps ((idxF (hasId id) x.Maps).toNat)) with Copies := ((gt x.Maps ((idxF (hasId id) x.Maps).toNat)).Copies) + n }))[(idxF (hasId id) x.Maps).toNat]? = some ({ (gt x.Maps ((idxF (hasId id) x.Maps).toNat)) with Copies := ((gt x.Maps ((idxF (hasId id) x.Maps).toNat)).Copies) + n })) : x.Dropped = (boughtN x id n).Dropped := by
  first | (rw [bought_yes (x := x) (id := id) (n := n) (by assumption)]; first | done | rfl) | (rw [bought_no (x := x) (id := id) (n := n) (by assumption)]; first | done | rfl | (dsimp only; rw [← loopM_end (And.right ‹_ ∧ ∀ j, _ → cmpM _ _ < 0›) (by omega) (by omega)]; done) | (dsimp only; rw [← loopM_end (And.right ‹_ ∧ ∀ j, _ → cmpM _ _ < 0›) (by omega) (by omega)]; rfl))
theorem z_c_spec_l32Bought_123 (x : Library) (nx_Maps : Nat) (hbdx_Maps : (nx_Maps : Int) ≤ 9223372036854775807) (hlex_Maps : nx_Maps = x.Maps.length) (nx_Away : Nat) (hbdx_Away : (nx_Away : Int) ≤ 9223372036854775807) (hlex_Away : nx_Away = x.Away.length) (id : Int) (n : Int) (hp0 : LibOK x) (hp1 : 0 ≤ n ∧ n ≤ 100) (n22 : Nat) (hl32 : n22 = (x.Maps).length) (hl33 : (n22 : Int) ≤ 9223372036854775807) (n26 : Nat) (hl34 : n26 = (x.Away).length) (hl35 : (n26 : Int) ≤ 9223372036854775807) (hq68 : idxF (hasId id) x.Maps < (x.Maps.length : Int) ∧ -1 ≤ idxF (hasId id) x.Maps) (h75 : 0 ≤ (idxF (hasId id) x.Maps)) (hx95 : x.Maps[(idxF (hasId id) x.Maps).toNat]? = some (gt x.Maps ((idxF (hasId id) x.Maps).toNat))) (hq96 : ((1 : Int) ≤ (gt x.Maps ((idxF (hasId id) x.Maps).toNat)).Id ∧ (gt x.Maps ((idxF (hasId id) x.Maps).toNat)).Id ≤ 99) ∧ ((0 : Int) ≤ (gt x.Maps ((idxF (hasId id) x.Maps).toNat)).Copies ∧ (gt x.Maps ((idxF (hasId id) x.Maps).toNat)).Copies ≤ 99) ∧ ((0 : Int) ≤ (gt x.Maps ((idxF (hasId id) x.Maps).toNat)).Torn ∧ (gt x.Maps ((idxF (hasId id) x.Maps).toNat)).Torn ≤ (gt x.Maps ((idxF (hasId id) x.Maps).toNat)).Copies)) (hx104 : (x.Maps.set ((idxF (hasId id) x.Maps).toNat) ({ (gt x.Maps ((idxF (hasId id) x.Maps).toNat)) with Copies := ((gt x.Maps ((idxF (hasId id) x.Maps).toNat)).Copies) + n }))[(idxF (hasId id) x.Maps).toNat]? = some ({ (gt x.Maps ((idxF (hasId id) x.Maps).toNat)) with Copies := ((gt x.Maps ((idxF (hasId id) x.Maps).toNat)).Copies) + n })) : x.Mended = (boughtN x id n).Mended := by
  first | (rw [bought_yes (x := x) (id := id) (n := n) (by assumption)]; first | done | rfl) | (rw [bought_no (x := x) (id := id) (n := n) (by assumption)]; first | done | rfl | (dsimp only; rw [← loopM_end (And.right ‹_ ∧ ∀ j, _ → cmpM _ _ < 0›) (by omega) (by omega)]; done) | (dsimp only; rw [← loopM_end (And.right ‹_ ∧ ∀ j, _ → cmpM _ _ < 0›) (by omega) (by omega)]; rfl))
theorem z_c_spec_l32Bought_124 (x : Library) (nx_Maps : Nat) (hbdx_Maps : (nx_Maps : Int) ≤ 9223372036854775807) (hlex_Maps : nx_Maps = x.Maps.length) (nx_Away : Nat) (hbdx_Away : (nx_Away : Int) ≤ 9223372036854775807) (hlex_Away : nx_Away = x.Away.length) (id : Int) (n : Int) (hp0 : LibOK x) (hp1 : 0 ≤ n ∧ n ≤ 100) (n22 : Nat) (hl32 : n22 = (x.Maps).length) (hl33 : (n22 : Int) ≤ 9223372036854775807) (n26 : Nat) (hl34 : n26 = (x.Away).length) (hl35 : (n26 : Int) ≤ 9223372036854775807) (hq68 : idxF (hasId id) x.Maps < (x.Maps.length : Int) ∧ -1 ≤ idxF (hasId id) x.Maps) (h75 : ¬ (0 ≤ (idxF (hasId id) x.Maps))) : 0 ≤ nx_Maps ∧ ∀ j, j < 0 → cmpM (gt x.Maps j) id < 0 := by
  exact ⟨Nat.zero_le _, fun _ h => absurd h (by omega)⟩
theorem z_c_spec_l32Bought_153 (x : Library) (nx_Maps : Nat) (hbdx_Maps : (nx_Maps : Int) ≤ 9223372036854775807) (hlex_Maps : nx_Maps = x.Maps.length) (nx_Away : Nat) (hbdx_Away : (nx_Away : Int) ≤ 9223372036854775807) (hlex_Away : nx_Away = x.Away.length) (id : Int) (n : Int) (hp0 : LibOK x) (hp1 : 0 ≤ n ∧ n ≤ 100) (n22 : Nat) (hl32 : n22 = (x.Maps).length) (hl33 : (n22 : Int) ≤ 9223372036854775807) (n26 : Nat) (hl34 : n26 = (x.Away).length) (hl35 : (n26 : Int) ≤ 9223372036854775807) (hq68 : idxF (hasId id) x.Maps < (x.Maps.length : Int) ∧ -1 ≤ idxF (hasId id) x.Maps) (h75 : ¬ (0 ≤ (idxF (hasId id) x.Maps))) (k : Nat) (hi136 : k ≤ nx_Maps ∧ ∀ j, j < k → cmpM (gt x.Maps j) id < 0) (h150 : ((k : Int) < (nx_Maps : Int)) ∧ (((gt x.Maps k).Id) < id)) (hq151 : (k : Int) < (nx_Maps : Int)) (hq152 : ((gt x.Maps k).Id) < id) : k + 1 ≤ nx_Maps ∧ ∀ j, j < (k + 1) → cmpM (gt x.Maps j) id < 0 := by
  exact ⟨by omega, loopM_next (And.right ‹_ ∧ ∀ j, _ → cmpM _ _ < 0›) (by omega)⟩
theorem z_c_spec_l32Bought_154 (x : Library) (nx_Maps : Nat) (hbdx_Maps : (nx_Maps : Int) ≤ 9223372036854775807) (hlex_Maps : nx_Maps = x.Maps.length) (nx_Away : Nat) (hbdx_Away : (nx_Away : Int) ≤ 9223372036854775807) (hlex_Away : nx_Away = x.Away.length) (id : Int) (n : Int) (hp0 : LibOK x) (hp1 : 0 ≤ n ∧ n ≤ 100) (n22 : Nat) (hl32 : n22 = (x.Maps).length) (hl33 : (n22 : Int) ≤ 9223372036854775807) (n26 : Nat) (hl34 : n26 = (x.Away).length) (hl35 : (n26 : Int) ≤ 9223372036854775807) (hq68 : idxF (hasId id) x.Maps < (x.Maps.length : Int) ∧ -1 ≤ idxF (hasId id) x.Maps) (h75 : ¬ (0 ≤ (idxF (hasId id) x.Maps))) (k : Nat) (hi136 : k ≤ nx_Maps ∧ ∀ j, j < k → cmpM (gt x.Maps j) id < 0) (h150 : ((k : Int) < (nx_Maps : Int)) ∧ (((gt x.Maps k).Id) < id)) (hq151 : (k : Int) < (nx_Maps : Int)) (hq152 : ((gt x.Maps k).Id) < id) : nx_Maps - (k + 1) < nx_Maps - k := by
  omega
theorem z_c_spec_l32Bought_465 (x : Library) (nx_Maps : Nat) (hbdx_Maps : (nx_Maps : Int) ≤ 9223372036854775807) (hlex_Maps : nx_Maps = x.Maps.length) (nx_Away : Nat) (hbdx_Away : (nx_Away : Int) ≤ 9223372036854775807) (hlex_Away : nx_Away = x.Away.length) (id : Int) (n : Int) (hp0 : LibOK x) (hp1 : 0 ≤ n ∧ n ≤ 100) (n22 : Nat) (hl32 : n22 = (x.Maps).length) (hl33 : (n22 : Int) ≤ 9223372036854775807) (n26 : Nat) (hl34 : n26 = (x.Away).length) (hl35 : (n26 : Int) ≤ 9223372036854775807) (hq68 : idxF (hasId id) x.Maps < (x.Maps.length : Int) ∧ -1 ≤ idxF (hasId id) x.Maps) (h75 : ¬ (0 ≤ (idxF (hasId id) x.Maps))) (k : Nat) (hi136 : k ≤ nx_Maps ∧ ∀ j, j < k → cmpM (gt x.Maps j) id < 0) (h150 : ¬ (((k : Int) < (nx_Maps : Int)) ∧ (((gt x.Maps k).Id) < id))) : ((x.Maps.take k) ++ ([(⟨id, n, 0⟩ : LMap)] : List LMap)) ++ (x.Maps.drop k) = (boughtN x id n).Maps := by
  first | (rw [bought_yes (x := x) (id := id) (n := n) (by assumption)]; first | done | rfl) | (rw [bought_no (x := x) (id := id) (n := n) (by assumption)]; first | done | rfl | (dsimp only; rw [← loopM_end (And.right ‹_ ∧ ∀ j, _ → cmpM _ _ < 0›) (by omega) (by omega)]; done) | (dsimp only; rw [← loopM_end (And.right ‹_ ∧ ∀ j, _ → cmpM _ _ < 0›) (by omega) (by omega)]; rfl))
theorem z_c_spec_l32Bought_466 (x : Library) (nx_Maps : Nat) (hbdx_Maps : (nx_Maps : Int) ≤ 9223372036854775807) (hlex_Maps : nx_Maps = x.Maps.length) (nx_Away : Nat) (hbdx_Away : (nx_Away : Int) ≤ 9223372036854775807) (hlex_Away : nx_Away = x.Away.length) (id : Int) (n : Int) (hp0 : LibOK x) (hp1 : 0 ≤ n ∧ n ≤ 100) (n22 : Nat) (hl32 : n22 = (x.Maps).length) (hl33 : (n22 : Int) ≤ 9223372036854775807) (n26 : Nat) (hl34 : n26 = (x.Away).length) (hl35 : (n26 : Int) ≤ 9223372036854775807) (hq68 : idxF (hasId id) x.Maps < (x.Maps.length : Int) ∧ -1 ≤ idxF (hasId id) x.Maps) (h75 : ¬ (0 ≤ (idxF (hasId id) x.Maps))) (k : Nat) (hi136 : k ≤ nx_Maps ∧ ∀ j, j < k → cmpM (gt x.Maps j) id < 0) (h150 : ¬ (((k : Int) < (nx_Maps : Int)) ∧ (((gt x.Maps k).Id) < id))) : x.Away = (boughtN x id n).Away := by
  first | (rw [bought_yes (x := x) (id := id) (n := n) (by assumption)]; first | done | rfl) | (rw [bought_no (x := x) (id := id) (n := n) (by assumption)]; first | done | rfl | (dsimp only; rw [← loopM_end (And.right ‹_ ∧ ∀ j, _ → cmpM _ _ < 0›) (by omega) (by omega)]; done) | (dsimp only; rw [← loopM_end (And.right ‹_ ∧ ∀ j, _ → cmpM _ _ < 0›) (by omega) (by omega)]; rfl))
theorem z_c_spec_l32Bought_467 (x : Library) (nx_Maps : Nat) (hbdx_Maps : (nx_Maps : Int) ≤ 9223372036854775807) (hlex_Maps : nx_Maps = x.Maps.length) (nx_Away : Nat) (hbdx_Away : (nx_Away : Int) ≤ 9223372036854775807) (hlex_Away : nx_Away = x.Away.length) (id : Int) (n : Int) (hp0 : LibOK x) (hp1 : 0 ≤ n ∧ n ≤ 100) (n22 : Nat) (hl32 : n22 = (x.Maps).length) (hl33 : (n22 : Int) ≤ 9223372036854775807) (n26 : Nat) (hl34 : n26 = (x.Away).length) (hl35 : (n26 : Int) ≤ 9223372036854775807) (hq68 : idxF (hasId id) x.Maps < (x.Maps.length : Int) ∧ -1 ≤ idxF (hasId id) x.Maps) (h75 : ¬ (0 ≤ (idxF (hasId id) x.Maps))) (k : Nat) (hi136 : k ≤ nx_Maps ∧ ∀ j, j < k → cmpM (gt x.Maps j) id < 0) (h150 : ¬ (((k : Int) < (nx_Maps : Int)) ∧ (((gt x.Maps k).Id) < id))) : x.Bought + n = (boughtN x id n).Bought := by
  first | (rw [bought_yes (x := x) (id := id) (n := n) (by assumption)]; first | done | rfl) | (rw [bought_no (x := x) (id := id) (n := n) (by assumption)]; first | done | rfl | (dsimp only; rw [← loopM_end (And.right ‹_ ∧ ∀ j, _ → cmpM _ _ < 0›) (by omega) (by omega)]; done) | (dsimp only; rw [← loopM_end (And.right ‹_ ∧ ∀ j, _ → cmpM _ _ < 0›) (by omega) (by omega)]; rfl))
theorem z_c_spec_l32Bought_468 (x : Library) (nx_Maps : Nat) (hbdx_Maps : (nx_Maps : Int) ≤ 9223372036854775807) (hlex_Maps : nx_Maps = x.Maps.length) (nx_Away : Nat) (hbdx_Away : (nx_Away : Int) ≤ 9223372036854775807) (hlex_Away : nx_Away = x.Away.length) (id : Int) (n : Int) (hp0 : LibOK x) (hp1 : 0 ≤ n ∧ n ≤ 100) (n22 : Nat) (hl32 : n22 = (x.Maps).length) (hl33 : (n22 : Int) ≤ 9223372036854775807) (n26 : Nat) (hl34 : n26 = (x.Away).length) (hl35 : (n26 : Int) ≤ 9223372036854775807) (hq68 : idxF (hasId id) x.Maps < (x.Maps.length : Int) ∧ -1 ≤ idxF (hasId id) x.Maps) (h75 : ¬ (0 ≤ (idxF (hasId id) x.Maps))) (k : Nat) (hi136 : k ≤ nx_Maps ∧ ∀ j, j < k → cmpM (gt x.Maps j) id < 0) (h150 : ¬ (((k : Int) < (nx_Maps : Int)) ∧ (((gt x.Maps k).Id) < id))) : x.Dropped = (boughtN x id n).Dropped := by
  first | (rw [bought_yes (x := x) (id := id) (n := n) (by assumption)]; first | done | rfl) | (rw [bought_no (x := x) (id := id) (n := n) (by assumption)]; first | done | rfl | (dsimp only; rw [← loopM_end (And.right ‹_ ∧ ∀ j, _ → cmpM _ _ < 0›) (by omega) (by omega)]; done) | (dsimp only; rw [← loopM_end (And.right ‹_ ∧ ∀ j, _ → cmpM _ _ < 0›) (by omega) (by omega)]; rfl))
theorem z_c_spec_l32Bought_469 (x : Library) (nx_Maps : Nat) (hbdx_Maps : (nx_Maps : Int) ≤ 9223372036854775807) (hlex_Maps : nx_Maps = x.Maps.length) (nx_Away : Nat) (hbdx_Away : (nx_Away : Int) ≤ 9223372036854775807) (hlex_Away : nx_Away = x.Away.length) (id : Int) (n : Int) (hp0 : LibOK x) (hp1 : 0 ≤ n ∧ n ≤ 100) (n22 : Nat) (hl32 : n22 = (x.Maps).length) (hl33 : (n22 : Int) ≤ 9223372036854775807) (n26 : Nat) (hl34 : n26 = (x.Away).length) (hl35 : (n26 : Int) ≤ 9223372036854775807) (hq68 : idxF (hasId id) x.Maps < (x.Maps.length : Int) ∧ -1 ≤ idxF (hasId id) x.Maps) (h75 : ¬ (0 ≤ (idxF (hasId id) x.Maps))) (k : Nat) (hi136 : k ≤ nx_Maps ∧ ∀ j, j < k → cmpM (gt x.Maps j) id < 0) (h150 : ¬ (((k : Int) < (nx_Maps : Int)) ∧ (((gt x.Maps k).Id) < id))) : x.Mended = (boughtN x id n).Mended := by
  first | (rw [bought_yes (x := x) (id := id) (n := n) (by assumption)]; first | done | rfl) | (rw [bought_no (x := x) (id := id) (n := n) (by assumption)]; first | done | rfl | (dsimp only; rw [← loopM_end (And.right ‹_ ∧ ∀ j, _ → cmpM _ _ < 0›) (by omega) (by omega)]; done) | (dsimp only; rw [← loopM_end (And.right ‹_ ∧ ∀ j, _ → cmpM _ _ < 0›) (by omega) (by omega)]; rfl))
theorem c_spec_l32Bought (w : World) (x : Library) {Ax_Maps : Option Addr} {nx_Maps cx_Maps Bx_Maps : Nat} (hx_Maps : SlR w Bx_Maps encLMap 3 Ax_Maps nx_Maps cx_Maps x.Maps) {Ax_Away : Option Addr} {nx_Away cx_Away Bx_Away : Nat} (hx_Away : SlR w Bx_Away encAway 2 Ax_Away nx_Away cx_Away x.Away) (id : Int) (n : Int) (hp0 : LibOK x) (hp1 : 0 ≤ n ∧ n ≤ 100) : Calls Try.prog 92 #[.agg (List.toArray [.slice Ax_Maps nx_Maps cx_Maps, .slice Ax_Away nx_Away cx_Away, .int .i64 x.Bought, .int .i64 x.Dropped, .int .i64 x.Mended]), .int .i64 id, .int .i64 n] w fun e w' => ∃ (A1' : Option Addr) (n1' c1' : Nat) (A2' : Option Addr) (n2' c2' : Nat), e = .returned (.agg (List.toArray [.slice A1' n1' c1', .slice A2' n2' c2', .int .i64 ((boughtN x id n).Bought), .int .i64 ((boughtN x id n).Dropped), .int .i64 ((boughtN x id n).Mended)])) ∧ SlO w' w.heap.size encLMap 3 73 A1' n1' c1' ((boughtN x id n).Maps) ∧ SlO w' w.heap.size encAway 2 77 A2' n2' c2' ((boughtN x id n).Away) ∧ (∀ b_, A1' = some ⟨b_, 0, none⟩ → ¬ A2' = some ⟨b_, 0, none⟩) ∧ Lo w w' := by
  refine calls_W 71 Try.func92 rfl rfl rfl ?_
  have hbdx_Maps := hx_Maps.bound
  have hlex_Maps := hx_Maps.len
  have hBbx_Maps := hx_Maps.bd
  have hbdx_Away := hx_Away.bound
  have hlex_Away := hx_Away.len
  have hBbx_Away := hx_Away.bd
  have hlb := lib_rng hp0
  refine W.seq ?_
  refine W.regS (SR.box (v := .agg (List.toArray _)) (l := [.slice Ax_Maps nx_Maps cx_Maps, .slice Ax_Away nx_Away cx_Away, .int .i64 x.Bought, .int .i64 x.Dropped, .int .i64 x.Mended]) rfl rfl ?_)
  intro g1 w2 hg3 hk4 hs5 hb6
  have hz7 := hk4.size
  have hB8 := (Lo.refl w).lo hk4
  refine SR.alloc (l := [.slice none 0 0, .slice none 0 0, .int .i64 0, .int .i64 0, .int .i64 0]) tz31 rfl ?_
  intro g9 w10 hg11 hk12 hs13 hb14
  have hz15 := hk12.size
  have hB16 := hB8.lo hk12
  refine SR.nil ?_
  refine W.seq ?_
  have hm17 := ((hx_Maps).lo hk4).lo hk12
  have hm18 := ((hx_Away).lo hk4).lo hk12
  refine W.regS (SR.q' (r_lda (l := [.slice Ax_Maps nx_Maps cx_Maps, .slice Ax_Away nx_Away cx_Away, .int .i64 x.Bought, .int .i64 x.Dropped, .int .i64 x.Mended]) agg31 rfl (fun _ _ hu => ((hb6).lo hk12).cell hu) rfl) <| SR.call ent79 (c_spec_l32Own w10 x ((hm17)) ((hm18)) (by omega) (by omega)) rfl ?_)
  rintro e w19 ⟨A21, n22, c23, A25, n26, c27, rfl, hO24, hO28, hd29, hk20⟩
  refine ⟨_, rfl, ?_⟩
  have hz30 := hk20.size
  have hB31 := hB16.lo hk20
  have hl32 := hO24.len
  have hl33 := hO24.rd.bound
  have hl34 := hO28.len
  have hl35 := hO28.rd.bound
  refine SR.alloc (l := [.slice none 0 0, .slice none 0 0, .int .i64 0, .int .i64 0, .int .i64 0]) tz31 rfl ?_
  intro g36 w37 hg38 hk39 hs40 hb41
  have hz42 := hk39.size
  have hB43 := hB31.lo hk39
  have hd44 : ¬ A21 = some ⟨g36, 0, none⟩ := fun e' => by have := (hO24).base_le e'; omega
  have hd45 : ¬ A25 = some ⟨g36, 0, none⟩ := fun e' => by have := (hO28).base_le e'; omega
  refine SR.store (o := 0) (vs := [.slice A21 n22 c23, .slice A25 n26 c27, .int .i64 x.Bought, .int .i64 x.Dropped, .int .i64 x.Mended]) agg31.2 rfl rfl rfl rfl (hb41) (Nat.le_of_ble_eq_true rfl) rfl ?_
  intro w46 hk47 hs48 hb49
  have hz50 := hk47.size
  have hB51 := hB43.new hk47 (by omega)
  refine SR.nil ?_
  refine W.seq ?_
  have hm52 := ((((hb6).lo hk12).lo hk20).lo hk39).kp hk47 (fun e' => by have e'' : g1 = g36 := e'; omega)
  have hm53 := (((hm17).lo hk20).lo hk39).kp hk47 (fun b_ hb e' => by have e'' : b_ = g36 := e'; omega)
  have hm54 := (((hm18).lo hk20).lo hk39).kp hk47 (fun b_ hb e' => by have e'' : b_ = g36 := e'; omega)
  have hm55 := (((hb14).lo hk20).lo hk39).kp hk47 (fun e' => by have e'' : g9 = g36 := e'; omega)
  have hm56 := ((hO24).lo hk39).kp hk47 (fun b_ hb e' => hd44 (by have e'' : b_ = g36 := e'; rw [← e'']; exact hb))
  have hm57 := ((hO28).lo hk39).kp hk47 (fun b_ hb e' => hd45 (by have e'' : b_ = g36 := e'; rw [← e'']; exact hb))
  refine W.regS (SR.q' (r_fa fa31_2 rfl) <| SR.q' (r_ld (v := .int .i64 x.Bought) sca3 rfl ((hm52).cell rfl)) <| SR.q' (r_mv (v := .int .i64 _) rfl) <| SR.q' (r_add rfl rfl (by omega)) <| SR.q' (r_fa fa31_2 rfl) <| SR.store (o := 2) (vs := [.int .i64 (x.Bought + n)]) sca3.2 rfl rfl rfl rfl (hb49) (Nat.le_of_ble_eq_true rfl) rfl ?_)
  intro w58 hk59 hs60 hb61
  have hz62 := hk59.size
  have hB63 := hB51.new hk59 (by omega)
  refine SR.nil ?_
  refine W.seq ?_
  refine W.seq ?_
  refine W.regS (SR.q' (r_lda (l := [.slice Ax_Maps nx_Maps cx_Maps, .slice Ax_Away nx_Away cx_Away, .int .i64 x.Bought, .int .i64 x.Dropped, .int .i64 x.Mended]) agg31 rfl (fun _ _ hu => ((hm52).kp hk59 (fun e' => by have e'' : g1 = g36 := e'; omega)).cell hu) rfl) <| SR.q' (r_mv (v := .int .i64 _) rfl) <| SR.call ent64 (c_spec_l32Map w58 x (((hm53).kp hk59 (fun b_ hb e' => by have e'' : b_ = g36 := e'; omega))) (((hm54).kp hk59 (fun b_ hb e' => by have e'' : b_ = g36 := e'; omega))) id) rfl ?_)
  rintro e w64 ⟨rfl, hk65⟩
  refine ⟨_, rfl, ?_⟩
  have hz66 := hk65.size
  have hB67 := hB63.lo hk65
  have hq68 : idxF (hasId id) x.Maps < (x.Maps.length : Int) ∧ -1 ≤ idxF (hasId id) x.Maps := idx_lt
  refine SR.q' (r_as (v := .int .i64 _) rfl) <| SR.nil ?_
  refine W.seq ?_
  have hm69 := ((hm52).kp hk59 (fun e' => by have e'' : g1 = g36 := e'; omega)).lo hk65
  have hm70 := ((hm53).kp hk59 (fun b_ hb e' => by have e'' : b_ = g36 := e'; omega)).lo hk65
  have hm71 := ((hm54).kp hk59 (fun b_ hb e' => by have e'' : b_ = g36 := e'; omega)).lo hk65
  have hm72 := ((hm55).kp hk59 (fun e' => by have e'' : g9 = g36 := e'; omega)).lo hk65
  have hm73 := ((hm56).kp hk59 (fun b_ hb e' => hd44 (by have e'' : b_ = g36 := e'; rw [← e'']; exact hb))).lo hk65
  have hm74 := ((hm57).kp hk59 (fun b_ hb e' => hd45 (by have e'' : b_ = g36 := e'; rw [← e'']; exact hb))).lo hk65
  refine W.regS (SR.q' (r_mv (v := .int .i64 _) rfl) <| SR.q' (r_ge rfl rfl) <| SR.nil ?_)
  refine W.cond_d rfl (fun h75 => ?_) (fun h75 => ?_)
  · refine W.seq ?_
    refine W.regA (Kp (fun b_ => A21 = some ⟨b_, 0, none⟩) w64) (fun f' w' => At f' [(1, .int .i64 id), (2, .int .i64 n), (3, .pointer (some ((⟨g1, 0, none⟩ : Addr)))), (6, .pointer (some ((⟨g9, 0, none⟩ : Addr)))), (7, .pointer (some ((⟨g36, 0, none⟩ : Addr))))] ∧ (Kp (fun b_ => A21 = some ⟨b_, 0, none⟩) w64 w') ∧ (SlO w' w10.heap.size encLMap 3 73 A21 n22 c23 (x.Maps.set ((idxF (hasId id) x.Maps).toNat) ({ (gt x.Maps ((idxF (hasId id) x.Maps).toNat)) with Copies := ((gt x.Maps ((idxF (hasId id) x.Maps).toNat)).Copies) + n }))) ∧ (x.Maps[(idxF (hasId id) x.Maps).toNat]? = some (gt x.Maps ((idxF (hasId id) x.Maps).toNat))) ∧ (((1 : Int) ≤ (gt x.Maps ((idxF (hasId id) x.Maps).toNat)).Id ∧ (gt x.Maps ((idxF (hasId id) x.Maps).toNat)).Id ≤ 99) ∧ ((0 : Int) ≤ (gt x.Maps ((idxF (hasId id) x.Maps).toNat)).Copies ∧ (gt x.Maps ((idxF (hasId id) x.Maps).toNat)).Copies ≤ 99) ∧ ((0 : Int) ≤ (gt x.Maps ((idxF (hasId id) x.Maps).toNat)).Torn ∧ (gt x.Maps ((idxF (hasId id) x.Maps).toNat)).Torn ≤ (gt x.Maps ((idxF (hasId id) x.Maps).toNat)).Copies)) ∧ ((x.Maps.set ((idxF (hasId id) x.Maps).toNat) ({ (gt x.Maps ((idxF (hasId id) x.Maps).toNat)) with Copies := ((gt x.Maps ((idxF (hasId id) x.Maps).toNat)).Copies) + n }))[(idxF (hasId id) x.Maps).toNat]? = some ({ (gt x.Maps ((idxF (hasId id) x.Maps).toNat)) with Copies := ((gt x.Maps ((idxF (hasId id) x.Maps).toNat)).Copies) + n }))) mo ?_ ?_
    · intro w90 hk91
      have hz92 := hk91.size
      have hB93 := hB67.lo hk91
      refine AH.take 0 rfl (by kernel_rfl) trivial ((Kp.refl w64 : Kp (fun b_ => A21 = some ⟨b_, 0, none⟩) w64 w64).lo hk91) (fun w' hw' => r_fa fa31_0 rfl) <| AH.take 1 rfl (by kernel_rfl) trivial ((Kp.refl w64 : Kp (fun b_ => A21 = some ⟨b_, 0, none⟩) w64 w64).lo hk91) (fun w' hw' => r_ld (v := .slice A21 n22 c23) sca28 rfl ((((hb61).lo hk65).kp hw' (fun e' => hd44 e')).cell rfl)) <| AH.take 2 rfl (by kernel_rfl) trivial ((Kp.refl w64 : Kp (fun b_ => A21 = some ⟨b_, 0, none⟩) w64 w64).lo hk91) (fun w' hw' => r_mv (v := .int .i64 _) rfl) <| AH.take 3 rfl (by kernel_rfl) trivial ((Kp.refl w64 : Kp (fun b_ => A21 = some ⟨b_, 0, none⟩) w64 w64).lo hk91) (fun w' hw' => r_fa fa31_0 rfl) <| AH.take 4 rfl (by kernel_rfl) trivial ((Kp.refl w64 : Kp (fun b_ => A21 = some ⟨b_, 0, none⟩) w64 w64).lo hk91) (fun w' hw' => r_ld (v := .slice Ax_Maps nx_Maps cx_Maps) sca28 rfl (((hm69).kp hw' (fun e' => by have := ((hm73)).base_le e'; omega)).cell rfl)) <| AH.take 5 rfl (by kernel_rfl) trivial ((Kp.refl w64 : Kp (fun b_ => A21 = some ⟨b_, 0, none⟩) w64 w64).lo hk91) (fun w' hw' => r_mv (v := .int .i64 _) rfl) <| ?_
      have hx95 := ((hm70).lo hk91).elem (i := (idxF (hasId id) x.Maps).toNat) (by omega)
      have hq96 := maps_rng hp0.1.1 hx95
      refine AH.take 6 rfl (by kernel_rfl) trivial ((Kp.refl w64 : Kp (fun b_ => A21 = some ⟨b_, 0, none⟩) w64 w64).lo hk91) (fun w' hw' => r_ixR tsl28 (((hm70).kp hw' (fun b_ hb e' => by have := ((hm73)).base_le e'; omega))) rfl rfl (by omega)) <| AH.take 7 rfl (by kernel_rfl) trivial ((Kp.refl w64 : Kp (fun b_ => A21 = some ⟨b_, 0, none⟩) w64 w64).lo hk91) (fun w' hw' => r_fa fa73_1 rfl) <| AH.take 8 rfl (by kernel_rfl) trivial ((Kp.refl w64 : Kp (fun b_ => A21 = some ⟨b_, 0, none⟩) w64 w64).lo hk91) (fun w' hw' => r_ld (v := .int .i64 ((gt x.Maps ((idxF (hasId id) x.Maps).toNat)).Copies)) sca3 rfl ((((hm70).kp hw' (fun b_ hb e' => by have := ((hm73)).base_le e'; omega))).cell hx95 rfl)) <| AH.take 9 rfl (by kernel_rfl) trivial ((Kp.refl w64 : Kp (fun b_ => A21 = some ⟨b_, 0, none⟩) w64 w64).lo hk91) (fun w' hw' => r_mv (v := .int .i64 _) rfl) <| AH.take 10 rfl (by kernel_rfl) trivial ((Kp.refl w64 : Kp (fun b_ => A21 = some ⟨b_, 0, none⟩) w64 w64).lo hk91) (fun w' hw' => r_add rfl rfl (by omega)) <| AH.br [11] (by kernel_rfl) rfl ⟨Br.mk' rfl trivial ?_, trivial⟩
      refine SR.q' (r_ixR tsl28 (((hm73).lo hk91).rd) rfl rfl (by omega)) ?_
      refine SR.nil ⟨(Kp.refl w64 : Kp (fun b_ => A21 = some ⟨b_, 0, none⟩) w64 w64).lo hk91, _, rfl, ?_⟩
      refine AH.take 12 rfl (by kernel_rfl) trivial ((Kp.refl w64 : Kp (fun b_ => A21 = some ⟨b_, 0, none⟩) w64 w64).lo hk91) (fun w' hw' => r_fa fa73_1 rfl) <| AH.br [13] (by kernel_rfl) rfl ⟨Br.mk' rfl trivial ?_, trivial⟩
      refine SR.storeO (o := 1) (vs := [.int .i64 (((gt x.Maps ((idxF (hasId id) x.Maps).toNat)).Copies) + n)]) (x1 := { (gt x.Maps ((idxF (hasId id) x.Maps).toNat)) with Copies := ((gt x.Maps ((idxF (hasId id) x.Maps).toNat)).Copies) + n }) sca3.2 rfl (add_add _ _ _) rfl rfl ((hm73).lo hk91) hx95 rfl (Nat.le_of_ble_eq_true rfl) rfl ?_
      intro w97 hk98 hs99 hO100
      have hz101 := hk98.size
      have hB102 := hB93.step hk98 (fun i_ hi_ e' => by have := (((hm73).lo hk91)).base_le e'; first | omega | (exfalso; omega) | exact e' | exact .inl e' | exact .inr e')
      have hS103 := ((Kp.refl w64 : Kp (fun b_ => A21 = some ⟨b_, 0, none⟩) w64 w64).lo hk91).step hk98 (fun _ _ e => e)
      have hx104 : (x.Maps.set ((idxF (hasId id) x.Maps).toNat) ({ (gt x.Maps ((idxF (hasId id) x.Maps).toNat)) with Copies := ((gt x.Maps ((idxF (hasId id) x.Maps).toNat)).Copies) + n }))[(idxF (hasId id) x.Maps).toNat]? = some ({ (gt x.Maps ((idxF (hasId id) x.Maps).toNat)) with Copies := ((gt x.Maps ((idxF (hasId id) x.Maps).toNat)).Copies) + n }) := List.getElem?_set_self (List.getElem?_eq_some_iff.1 hx95).1
      refine SR.nil ⟨hS103, _, rfl, ?_⟩
      refine AH.done (by kernel_rfl) ?_
      exact ⟨⟨rfl, rfl, rfl, rfl, rfl, trivial⟩, hS103, (hO100), hx95, hq96, hx104⟩
    rintro f106 w107 ⟨hat109, hR108, hm105, hx95, hq96, hx104⟩
    rw [← sets_of_at hat109]
    have hz110 := hR108.size
    have hB111 := hB67.step hR108 (fun i_ hi_ e' => by have := ((hm73)).base_le e'; first | omega | (exfalso; omega) | exact e' | exact .inl e' | exact .inr e')
    refine W.seq ?_
    have hm112 := ((hb61).lo hk65).kp hR108 (fun e' => hd44 e')
    refine W.regS (SR.q' (r_lda (l := [.slice A21 n22 c23, .slice A25 n26 c27, .int .i64 (x.Bought + n), .int .i64 x.Dropped, .int .i64 x.Mended]) agg31 rfl (fun _ _ hu => (hm112).cell hu) rfl) <| SR.store (o := 0) (vs := [.slice A21 n22 c23, .slice A25 n26 c27, .int .i64 (x.Bought + n), .int .i64 x.Dropped, .int .i64 x.Mended]) agg31.2 rfl rfl rfl rfl ((hm72).kp hR108 (fun e' => by have := ((hm73)).base_le e'; omega)) (Nat.le_of_ble_eq_true rfl) rfl ?_)
    intro w113 hk114 hs115 hb116
    have hz117 := hk114.size
    have hB118 := hB111.new hk114 (by omega)
    refine SR.nil ?_
    refine W.ret ?_
    refine retC rfl rfl agg31 (hb116) rfl ?_
    exact ⟨A21, n22, c23, A25, n26, c27, eR (eA (eC rfl (eC rfl (eC (eI (z_c_spec_l32Bought_121 x nx_Maps hbdx_Maps hlex_Maps nx_Away hbdx_Away hlex_Away id n hp0 hp1 n22 hl32 hl33 n26 hl34 hl35 hq68 h75 hx95 hq96 hx104)) (eC (eI (z_c_spec_l32Bought_122 x nx_Maps hbdx_Maps hlex_Maps nx_Away hbdx_Away hlex_Away id n hp0 hp1 n22 hl32 hl33 n26 hl34 hl35 hq68 h75 hx95 hq96 hx104)) (eC (eI (z_c_spec_l32Bought_123 x nx_Maps hbdx_Maps hlex_Maps nx_Away hbdx_Away hlex_Away id n hp0 hp1 n22 hl32 hl33 n26 hl34 hl35 hq68 h75 hx95 hq96 hx104)) rfl)))))), (SlO.eqv (((hm105).kp hk114 (fun b_ hb e' => by have e'' : b_ = g9 := e'; have := (hm105).base_le hb; omega)).down (by omega)) (z_c_spec_l32Bought_119 x nx_Maps hbdx_Maps hlex_Maps nx_Away hbdx_Away hlex_Away id n hp0 hp1 n22 hl32 hl33 n26 hl34 hl35 hq68 h75 hx95 hq96 hx104)), (SlO.eqv ((((hm74).kp hR108 (fun b_ hb e' => hd29 b_ e' hb)).kp hk114 (fun b_ hb e' => by have e'' : b_ = g9 := e'; have := ((hm74).kp hR108 (fun b_ hb e' => hd29 b_ e' hb)).base_le hb; omega)).down (by omega)) (z_c_spec_l32Bought_120 x nx_Maps hbdx_Maps hlex_Maps nx_Away hbdx_Away hlex_Away id n hp0 hp1 n22 hl32 hl33 n26 hl34 hl35 hq68 h75 hx95 hq96 hx104)), hd29, hB118⟩
  · refine W.skip ?_
    refine W.seq ?_
    refine W.regS (SR.q' (r_as (v := .int .i64 0) rfl) <| SR.nil ?_)
    refine W.seq ?_
    refine W.block ?_
    refine W.loop (σ := Nat) (fun g => [(1, .int .i64 id), (2, .int .i64 n), (3, .pointer (some ((⟨g1, 0, none⟩ : Addr)))), (6, .pointer (some ((⟨g9, 0, none⟩ : Addr)))), (7, .pointer (some ((⟨g36, 0, none⟩ : Addr)))), (9, .int .i64 (g : Int))]) (fun g w' => (Lo w w') ∧ (Blk w' g1 31 [.slice Ax_Maps nx_Maps cx_Maps, .slice Ax_Away nx_Away cx_Away, .int .i64 x.Bought, .int .i64 x.Dropped, .int .i64 x.Mended]) ∧ (SlR w' Bx_Maps encLMap 3 Ax_Maps nx_Maps cx_Maps x.Maps) ∧ (SlR w' Bx_Away encAway 2 Ax_Away nx_Away cx_Away x.Away) ∧ (Blk w' g9 31 [.slice none 0 0, .slice none 0 0, .int .i64 0, .int .i64 0, .int .i64 0]) ∧ (Blk w' g36 31 [.slice A21 n22 c23, .slice A25 n26 c27, .int .i64 (x.Bought + n), .int .i64 x.Dropped, .int .i64 x.Mended]) ∧ (SlO w' w10.heap.size encLMap 3 73 A21 n22 c23 x.Maps) ∧ (SlO w' w10.heap.size encAway 2 77 A25 n26 c27 x.Away) ∧ (g ≤ nx_Maps ∧ ∀ j, j < g → cmpM (gt x.Maps j) id < 0)) (fun g => nx_Maps - g) 0 ?_ ?_ ?_
    · exact ⟨rfl, rfl, rfl, rfl, rfl, rfl, trivial⟩
    · exact ⟨hB67, hm69, hm70, hm71, hm72, (hb61).lo hk65, hm73, hm74, (z_c_spec_l32Bought_124 x nx_Maps hbdx_Maps hlex_Maps nx_Away hbdx_Away hlex_Away id n hp0 hp1 n22 hl32 hl33 n26 hl34 hl35 hq68 h75)⟩
    · rintro k f125 w126 hP128
      obtain ⟨hB127, hm129, hm130, hm131, hm132, hm133, hm134, hm135, hi136⟩ : (Lo w w126) ∧ (Blk w126 g1 31 [.slice Ax_Maps nx_Maps cx_Maps, .slice Ax_Away nx_Away cx_Away, .int .i64 x.Bought, .int .i64 x.Dropped, .int .i64 x.Mended]) ∧ (SlR w126 Bx_Maps encLMap 3 Ax_Maps nx_Maps cx_Maps x.Maps) ∧ (SlR w126 Bx_Away encAway 2 Ax_Away nx_Away cx_Away x.Away) ∧ (Blk w126 g9 31 [.slice none 0 0, .slice none 0 0, .int .i64 0, .int .i64 0, .int .i64 0]) ∧ (Blk w126 g36 31 [.slice A21 n22 c23, .slice A25 n26 c27, .int .i64 (x.Bought + n), .int .i64 x.Dropped, .int .i64 x.Mended]) ∧ (SlO w126 w10.heap.size encLMap 3 73 A21 n22 c23 x.Maps) ∧ (SlO w126 w10.heap.size encAway 2 77 A25 n26 c27 x.Away) ∧ (k ≤ nx_Maps ∧ ∀ j, j < k → cmpM (gt x.Maps j) id < 0) := hP128
      refine (?_ : W _ _ _ _ _ (act _ (sets f125 [(1, .int .i64 id), (2, .int .i64 n), (3, .pointer (some ((⟨g1, 0, none⟩ : Addr)))), (6, .pointer (some ((⟨g9, 0, none⟩ : Addr)))), (7, .pointer (some ((⟨g36, 0, none⟩ : Addr)))), (9, .int .i64 (k : Int))])) _)
      have hzw126 := hB127.size
      have hl137 := hm129.lt
      have hl138 := hm132.lt
      have hl139 := hm133.lt
      refine W.seq ?_
      refine W.seq ?_
      refine W.regJS (fun f' w' => At f' [(1, .int .i64 id), (2, .int .i64 n), (3, .pointer (some ((⟨g1, 0, none⟩ : Addr)))), (6, .pointer (some ((⟨g9, 0, none⟩ : Addr)))), (7, .pointer (some ((⟨g36, 0, none⟩ : Addr)))), (9, .int .i64 (k : Int)), (50, .bool (decide (((k : Int) < (nx_Maps : Int)) ∧ (((gt x.Maps k).Id) < id))))] ∧ Lo w126 w') ?_ ?_
      · refine SR.q' (r_mv (v := .int .i64 _) rfl) <| SR.q' (r_fa fa31_0 rfl) <| SR.q' (r_ld (v := .slice Ax_Maps nx_Maps cx_Maps) sca28 rfl ((hm129).cell rfl)) <| SR.q' (r_len und28 rfl) <| SR.q' (r_lt rfl rfl) <| SR.q' (r_mv (v := .bool _) rfl) <| SR.splitD (fun h140 => ?_) (fun h140 => ?_)
        · refine SR.g' rfl (r_fa fa31_0 rfl) <| SR.g' rfl (r_ld (v := .slice Ax_Maps nx_Maps cx_Maps) sca28 rfl ((hm129).cell rfl)) <| SR.g' rfl (r_mv (v := .int .i64 _) rfl) <| ?_
          have hx142 := (hm130).elem (i := k) (by omega)
          have hq143 := maps_rng hp0.1.1 hx142
          refine SR.g' rfl (r_ixR tsl28 (hm130) rfl rfl (by omega)) <| SR.g' rfl (r_fa fa73_0 rfl) <| SR.g' rfl (r_ld (v := .int .i64 ((gt x.Maps k).Id)) sca3 rfl ((hm130).cell hx142 rfl)) <| SR.g' rfl (r_mv (v := .int .i64 _) rfl) <| SR.g' rfl (r_lt rfl rfl) <| SR.q' (r_pick true rfl (v := .bool _) rfl) <| SR.nil ?_
          exact ⟨_, rfl, ⟨⟨rfl, rfl, rfl, rfl, rfl, rfl, (eDD (jat h140)), trivial⟩, (Lo.refl _)⟩⟩
        · refine SR.s' rfl <| SR.s' rfl <| SR.s' rfl <| SR.s' rfl <| SR.s' rfl <| SR.s' rfl <| SR.s' rfl <| SR.s' rfl <| SR.q' (r_pick false rfl (v := .bool false) rfl) <| SR.nil ?_
          exact ⟨_, rfl, ⟨⟨rfl, rfl, rfl, rfl, rfl, rfl, (eDF (jaf h140).2), trivial⟩, (Lo.refl _)⟩⟩
      rintro f144 w145 ⟨hat146, hk147⟩
      rw [← sets_of_at hat146]
      have hz148 := hk147.size
      have hB149 := hB127.lo hk147
      refine W.cond_d rfl (fun h150 => ?_) (fun h150 => ?_)
      · have hq151 : (k : Int) < (nx_Maps : Int) := h150.1
        have hq152 : ((gt x.Maps k).Id) < id := h150.2
        refine W.skip ?_
        refine W.block ?_
        refine W.regS (SR.q' (r_mv (v := .int .i64 _) rfl) <| SR.q' (r_add rfl rfl (by omega)) <| SR.q' (r_as (v := .int .i64 _) rfl) <| SR.nil ?_)
        refine ⟨k + 1, _, rfl, ⟨rfl, rfl, rfl, rfl, rfl, rfl, trivial⟩, ⟨hB149, (hm129).lo hk147, (hm130).lo hk147, (hm131).lo hk147, (hm132).lo hk147, (hm133).lo hk147, (hm134).lo hk147, (hm135).lo hk147, ?_⟩, ?_⟩
        · exact (z_c_spec_l32Bought_153 x nx_Maps hbdx_Maps hlex_Maps nx_Away hbdx_Away hlex_Away id n hp0 hp1 n22 hl32 hl33 n26 hl34 hl35 hq68 h75 k hi136 h150 hq151 hq152)
        · exact (z_c_spec_l32Bought_154 x nx_Maps hbdx_Maps hlex_Maps nx_Away hbdx_Away hlex_Away id n hp0 hp1 n22 hl32 hl33 n26 hl34 hl35 hq68 h75 k hi136 h150 hq151 hq152)
      · refine W.exit (xin_here ?_)
        refine W.seq ?_
        refine W.regA (Kp (fun b_ => b_ = g36) w145) (fun f' w' => ∃ (g235 : Nat), ∃ (A270 : Option Addr), ∃ (c271 : Nat), ∃ (A285 : Option Addr), ∃ (c286 : Nat), ∃ (A245 : Option Addr), ∃ (c246 : Nat), ∃ (g259 : Nat), At f' [(6, .pointer (some ((⟨g9, 0, none⟩ : Addr)))), (7, .pointer (some ((⟨g36, 0, none⟩ : Addr))))] ∧ (Kp (fun b_ => b_ = g36) w145 w') ∧ (SlO w' w145.heap.size encLMap 3 73 A285 (((0 + k) + 1) + (nx_Maps - k)) c286 (((x.Maps.take k) ++ ([(⟨id, n, 0⟩ : LMap)] : List LMap)) ++ (x.Maps.drop k))) ∧ (Blk w' g36 31 [.slice A285 (((0 + k) + 1) + (nx_Maps - k)) c286, .slice A25 n26 c27, .int .i64 (x.Bought + n), .int .i64 x.Dropped, .int .i64 x.Mended]) ∧ (∀ b_, A285 = some ⟨b_, 0, none⟩ → ¬ A21 = some ⟨b_, 0, none⟩) ∧ (∀ b_, A285 = some ⟨b_, 0, none⟩ → ¬ A25 = some ⟨b_, 0, none⟩)) mo ?_ ?_
        · intro w231 hk232
          have hz233 := hk232.size
          have hB234 := hB149.lo hk232
          refine AH.take 1 rfl (by kernel_rfl) trivial ((Kp.refl w145 : Kp (fun b_ => b_ = g36) w145 w145).lo hk232) (fun w' hw' => r_fa fa31_0 rfl) <| AH.take 2 rfl (by kernel_rfl) trivial ((Kp.refl w145 : Kp (fun b_ => b_ = g36) w145 w145).lo hk232) (fun w' hw' => r_ld (v := .slice Ax_Maps nx_Maps cx_Maps) sca28 rfl ((((hm129).lo hk147).kp hw' (fun e' => by have e'' : g1 = g36 := e'; omega)).cell rfl)) <| AH.take 3 rfl (by kernel_rfl) trivial ((Kp.refl w145 : Kp (fun b_ => b_ = g36) w145 w145).lo hk232) (fun w' hw' => r_mv (v := .int .i64 _) rfl) <| AH.take 4 rfl (by kernel_rfl) trivial ((Kp.refl w145 : Kp (fun b_ => b_ = g36) w145 w145).lo hk232) (fun w' hw' => r_cuth (h := k) tsl28 rfl rfl rfl (Nat.le_trans (by omega : k ≤ nx_Maps) ((hm130).lo hk147).cap)) <| AH.take 6 rfl (by kernel_rfl) trivial ((Kp.refl w145 : Kp (fun b_ => b_ = g36) w145 w145).lo hk232) (fun w' hw' => r_mv (v := .int .i64 _) rfl) <| AH.take 7 rfl (by kernel_rfl) trivial ((Kp.refl w145 : Kp (fun b_ => b_ = g36) w145 w145).lo hk232) (fun w' hw' => r_mv (v := .int .i64 _) rfl) <| AH.take 8 rfl (by kernel_rfl) trivial ((Kp.refl w145 : Kp (fun b_ => b_ = g36) w145 w145).lo hk232) (fun w' hw' => r_build (vs := [(0, .int .i64 id), (1, .int .i64 n)]) rfl (bld73_0_1 _ _)) <| AH.take 11 rfl (by kernel_rfl) trivial ((Kp.refl w145 : Kp (fun b_ => b_ = g36) w145 w145).lo hk232) (fun w' hw' => r_fa fa31_0 rfl) <| AH.take 12 rfl (by kernel_rfl) trivial ((Kp.refl w145 : Kp (fun b_ => b_ = g36) w145 w145).lo hk232) (fun w' hw' => r_ld (v := .slice Ax_Maps nx_Maps cx_Maps) sca28 rfl ((((hm129).lo hk147).kp hw' (fun e' => by have e'' : g1 = g36 := e'; omega)).cell rfl)) <| AH.take 13 rfl (by kernel_rfl) trivial ((Kp.refl w145 : Kp (fun b_ => b_ = g36) w145 w145).lo hk232) (fun w' hw' => r_mv (v := .int .i64 _) rfl) <| AH.take 14 rfl (by kernel_rfl) trivial ((Kp.refl w145 : Kp (fun b_ => b_ = g36) w145 w145).lo hk232) (fun w' hw' => r_cutl (l := k) tsl28 rfl rfl rfl (by omega)) <| AH.br [0, 9] (by kernel_rfl) rfl ⟨Br.mk' rfl trivial ?_, Br.mk' rfl trivial ?_, trivial⟩
          · refine SR.lit (vs := []) (L := ([] : List LMap)) (enc := encLMap) tel28 (fun _ => rfl) rfl rfl rfl (by decide) ?_
            intro g235 w236 hg237 hk238 hO239
            have hz240 := hk238.size
            have hB241 := hB234.lo hk238
            have hS242 := ((Kp.refl w145 : Kp (fun b_ => b_ = g36) w145 w145).lo hk232).lo hk238
            have hd243 : ¬ A21 = some ⟨g235, 0, none⟩ := fun e' => by have := (((hm134).lo hk147).lo hk232).base_le e'; omega
            have hd244 : ¬ A25 = some ⟨g235, 0, none⟩ := fun e' => by have := (((hm135).lo hk147).lo hk232).base_le e'; omega
            refine SR.nil ⟨hS242, _, rfl, ?_⟩
            refine AH.br [5, 9] (by kernel_rfl) rfl ⟨Br.mk' rfl trivial ?_, Br.mk' rfl trivial ?_, trivial⟩
            · refine SR.app tel28 rfl rfl (hO239) (((((hm130).lo hk147).head (h := k) (by omega)).lo hk232).lo hk238) (fun _ => rfl) (by omega) (by omega) ?_
              intro A245 c246 w247 hk248 hO249 hN250
              have hz251 := hk248.size
              have hB252 := hB241.step hk248 (fun i_ hi_ e' => by have := ((hO239)).base_le e'; first | omega | (exfalso; omega) | exact e' | exact .inl e' | exact .inr e')
              have hS253 := (hS242).step hk248 (fun i_ hi_ e' => by have := ((hO239)).base_le e'; exfalso; omega)
              rw [List.nil_append] at hO249
              have hd254 : ¬ A245 = some ⟨g1, 0, none⟩ := fun e' => (hN250 g1 e').elim (fun h => by have := (hO239).base_le (h.trans e'); omega) (fun h => by have := ((((hm129).lo hk147).lo hk232).lo hk238).lt; omega)
              have hd255 : ¬ A245 = some ⟨g9, 0, none⟩ := fun e' => (hN250 g9 e').elim (fun h => by have := (hO239).base_le (h.trans e'); omega) (fun h => by have := ((((hm132).lo hk147).lo hk232).lo hk238).lt; omega)
              have hd258 : ¬ A245 = some ⟨g36, 0, none⟩ := fun e' => (hN250 g36 e').elim (fun h => by have := (hO239).base_le (h.trans e'); omega) (fun h => by have := ((((hm133).lo hk147).lo hk232).lo hk238).lt; omega)
              refine SR.nil ⟨hS253, _, rfl, ?_⟩
              refine AH.br [9] (by kernel_rfl) rfl ⟨Br.mk' rfl trivial ?_, trivial⟩
              refine SR.lit (vs := [.agg (List.toArray [.int .i64 id, .int .i64 n, .int .i64 0])]) (L := ([(⟨id, n, 0⟩ : LMap)] : List LMap)) (enc := encLMap) tel28 (fun _ => rfl) rfl rfl rfl (by decide) ?_
              intro g259 w260 hg261 hk262 hO263
              have hz264 := hk262.size
              have hB265 := hB252.lo hk262
              have hS266 := (hS253).lo hk262
              have hd267 : ¬ A21 = some ⟨g259, 0, none⟩ := fun e' => by have := (((((hm134).lo hk147).lo hk232).lo hk238).kp hk248 (fun b_ hb e' => by have h1 := ((hO239)).base_le e'; have h2 := ((((hm134).lo hk147).lo hk232).lo hk238).base_le hb; have h3 := (((hm134).lo hk147).lo hk232).base_le hb; omega)).base_le e'; omega
              have hd268 : ¬ A25 = some ⟨g259, 0, none⟩ := fun e' => by have := (((((hm135).lo hk147).lo hk232).lo hk238).kp hk248 (fun b_ hb e' => by have h1 := ((hO239)).base_le e'; have h2 := ((((hm135).lo hk147).lo hk232).lo hk238).base_le hb; have h3 := (((hm135).lo hk147).lo hk232).base_le hb; omega)).base_le e'; omega
              have hd269 : ¬ A245 = some ⟨g259, 0, none⟩ := fun e' => by have := (hO249).base_le e'; omega
              refine SR.nil ⟨hS266, _, rfl, ?_⟩
              refine AH.br [10] (by kernel_rfl) rfl ⟨Br.mk' rfl trivial ?_, trivial⟩
              refine SR.app tel28 rfl rfl ((hO249).lo hk262) ((hO263).rd) (fun _ => rfl) (by omega) (by omega) ?_
              intro A270 c271 w272 hk273 hO274 hN275
              have hz276 := hk273.size
              have hB277 := hB265.step hk273 (fun i_ hi_ e' => by have := (((hO249).lo hk262)).base_le e'; first | omega | (exfalso; omega) | exact e' | exact .inl e' | exact .inr e')
              have hS278 := (hS266).step hk273 (fun i_ hi_ e' => by have := (((hO249).lo hk262)).base_le e'; exfalso; omega)
              have hd279 : ¬ A270 = some ⟨g1, 0, none⟩ := fun e' => (hN275 g1 e').elim (fun h => hd254 (h.trans e')) (fun h => by have := ((((((hm129).lo hk147).lo hk232).lo hk238).kp hk248 (fun e' => by have := ((hO239)).base_le e'; omega)).lo hk262).lt; omega)
              have hd280 : ¬ A270 = some ⟨g9, 0, none⟩ := fun e' => (hN275 g9 e').elim (fun h => hd255 (h.trans e')) (fun h => by have := ((((((hm132).lo hk147).lo hk232).lo hk238).kp hk248 (fun e' => by have := ((hO239)).base_le e'; omega)).lo hk262).lt; omega)
              have hd283 : ¬ A270 = some ⟨g36, 0, none⟩ := fun e' => (hN275 g36 e').elim (fun h => hd258 (h.trans e')) (fun h => by have := ((((((hm133).lo hk147).lo hk232).lo hk238).kp hk248 (fun e' => by have := ((hO239)).base_le e'; omega)).lo hk262).lt; omega)
              refine SR.nil ⟨hS278, _, rfl, ?_⟩
              refine AH.br [15] (by kernel_rfl) rfl ⟨Br.mk' rfl trivial ?_, trivial⟩
              refine SR.app tel28 rfl rfl (hO274) ((((((((hm130).lo hk147).cutl (l := k) (by omega)).lo hk232).lo hk238).kp hk248 (fun b_ hb e' => by have := ((hO239)).base_le e'; omega)).lo hk262).kp hk273 (fun b_ hb e' => by have := (((hO249).lo hk262)).base_le e'; omega)) (fun _ => rfl) (by omega) (by omega) ?_
              intro A285 c286 w287 hk288 hO289 hN290
              have hz291 := hk288.size
              have hB292 := hB277.step hk288 (fun i_ hi_ e' => by have := ((hO274)).base_le e'; first | omega | (exfalso; omega) | exact e' | exact .inl e' | exact .inr e')
              have hS293 := (hS278).step hk288 (fun i_ hi_ e' => by have := ((hO274)).base_le e'; exfalso; omega)
              have hd294 : ¬ A285 = some ⟨g1, 0, none⟩ := fun e' => (hN290 g1 e').elim (fun h => hd279 (h.trans e')) (fun h => by have := (((((((hm129).lo hk147).lo hk232).lo hk238).kp hk248 (fun e' => by have := ((hO239)).base_le e'; omega)).lo hk262).kp hk273 (fun e' => hd254 e')).lt; omega)
              have hd295 : ¬ A285 = some ⟨g9, 0, none⟩ := fun e' => (hN290 g9 e').elim (fun h => hd280 (h.trans e')) (fun h => by have := (((((((hm132).lo hk147).lo hk232).lo hk238).kp hk248 (fun e' => by have := ((hO239)).base_le e'; omega)).lo hk262).kp hk273 (fun e' => hd255 e')).lt; omega)
              have hd298 : ¬ A285 = some ⟨g36, 0, none⟩ := fun e' => (hN290 g36 e').elim (fun h => hd283 (h.trans e')) (fun h => by have := (((((((hm133).lo hk147).lo hk232).lo hk238).kp hk248 (fun e' => by have := ((hO239)).base_le e'; omega)).lo hk262).kp hk273 (fun e' => hd258 e')).lt; omega)
              refine SR.nil ⟨hS293, _, rfl, ?_⟩
              refine AH.take 16 rfl (by kernel_rfl) trivial (hS293) (fun w' hw' => r_fa fa31_0 rfl) <| AH.br [17] (by kernel_rfl) rfl ⟨Br.mk' rfl trivial ?_, trivial⟩
              refine SR.store (o := 0) (vs := [.slice A285 (((0 + k) + 1) + (nx_Maps - k)) c286]) sca28.2 rfl rfl rfl rfl ((((((((hm133).lo hk147).lo hk232).lo hk238).kp hk248 (fun e' => by have := ((hO239)).base_le e'; omega)).lo hk262).kp hk273 (fun e' => hd258 e')).kp hk288 (fun e' => hd283 e')) (Nat.le_of_ble_eq_true rfl) rfl ?_
              intro w300 hk301 hs302 hb303
              have hz304 := hk301.size
              have hB305 := hB292.new hk301 (by omega)
              have hS306 := (hS293).step hk301 (fun _ _ e => e)
              refine SR.nil ⟨hS306, _, rfl, ?_⟩
              refine AH.done (by kernel_rfl) ?_
              exact ⟨g235, A270, c271, A285, c286, A245, c246, g259, ⟨rfl, rfl, trivial⟩, hS306, (((hO289).kp hk301 (fun b_ hb e' => hd298 (by have e'' : b_ = g36 := e'; rw [← e'']; exact hb))).down (by omega)), (hb303), (fun b_ h h' => by have h1 := ((hO289).kp hk301 (fun b_ hb e' => hd298 (by have e'' : b_ = g36 := e'; rw [← e'']; exact hb))).base_le h; have h2 := (((hm134).lo hk147).lo hk232).base_le h'; omega), (fun b_ h h' => by have h1 := ((hO289).kp hk301 (fun b_ hb e' => hd298 (by have e'' : b_ = g36 := e'; rw [← e'']; exact hb))).base_le h; have h2 := (((hm135).lo hk147).lo hk232).base_le h'; omega)⟩
            · refine SR.lit (vs := [.agg (List.toArray [.int .i64 id, .int .i64 n, .int .i64 0])]) (L := ([(⟨id, n, 0⟩ : LMap)] : List LMap)) (enc := encLMap) tel28 (fun _ => rfl) rfl rfl rfl (by decide) ?_
              intro g311 w312 hg313 hk314 hO315
              have hz316 := hk314.size
              have hB317 := hB241.lo hk314
              have hS318 := (hS242).lo hk314
              have hd319 : ¬ A21 = some ⟨g311, 0, none⟩ := fun e' => by have := ((((hm134).lo hk147).lo hk232).lo hk238).base_le e'; omega
              have hd320 : ¬ A25 = some ⟨g311, 0, none⟩ := fun e' => by have := ((((hm135).lo hk147).lo hk232).lo hk238).base_le e'; omega
              have hd321 : ¬ (some (⟨g235, 0, none⟩ : Addr)) = some ⟨g311, 0, none⟩ := fun e' => by have := (hO239).base_le e'; omega
              refine SR.nil ⟨hS318, _, rfl, ?_⟩
              refine AH.br [5] (by kernel_rfl) rfl ⟨Br.mk' rfl trivial ?_, trivial⟩
              refine SR.app tel28 rfl rfl ((hO239).lo hk314) ((((((hm130).lo hk147).head (h := k) (by omega)).lo hk232).lo hk238).lo hk314) (fun _ => rfl) (by omega) (by omega) ?_
              intro A322 c323 w324 hk325 hO326 hN327
              have hz328 := hk325.size
              have hB329 := hB317.step hk325 (fun i_ hi_ e' => by have := (((hO239).lo hk314)).base_le e'; first | omega | (exfalso; omega) | exact e' | exact .inl e' | exact .inr e')
              have hS330 := (hS318).step hk325 (fun i_ hi_ e' => by have := (((hO239).lo hk314)).base_le e'; exfalso; omega)
              rw [List.nil_append] at hO326
              have hd331 : ¬ A322 = some ⟨g1, 0, none⟩ := fun e' => (hN327 g1 e').elim (fun h => by have := ((hO239).lo hk314).base_le (h.trans e'); omega) (fun h => by have := (((((hm129).lo hk147).lo hk232).lo hk238).lo hk314).lt; omega)
              have hd332 : ¬ A322 = some ⟨g9, 0, none⟩ := fun e' => (hN327 g9 e').elim (fun h => by have := ((hO239).lo hk314).base_le (h.trans e'); omega) (fun h => by have := (((((hm132).lo hk147).lo hk232).lo hk238).lo hk314).lt; omega)
              have hd335 : ¬ A322 = some ⟨g36, 0, none⟩ := fun e' => (hN327 g36 e').elim (fun h => by have := ((hO239).lo hk314).base_le (h.trans e'); omega) (fun h => by have := (((((hm133).lo hk147).lo hk232).lo hk238).lo hk314).lt; omega)
              refine SR.nil ⟨hS330, _, rfl, ?_⟩
              refine AH.br [10] (by kernel_rfl) rfl ⟨Br.mk' rfl trivial ?_, trivial⟩
              refine SR.app tel28 rfl rfl (hO326) (((hO315).kp hk325 (fun b_ hb e' => hd321 (hb ▸ e'))).rd) (fun _ => rfl) (by omega) (by omega) ?_
              intro A337 c338 w339 hk340 hO341 hN342
              have hz343 := hk340.size
              have hB344 := hB329.step hk340 (fun i_ hi_ e' => by have := ((hO326)).base_le e'; first | omega | (exfalso; omega) | exact e' | exact .inl e' | exact .inr e')
              have hS345 := (hS330).step hk340 (fun i_ hi_ e' => by have := ((hO326)).base_le e'; exfalso; omega)
              have hd346 : ¬ A337 = some ⟨g1, 0, none⟩ := fun e' => (hN342 g1 e').elim (fun h => hd331 (h.trans e')) (fun h => by have := ((((((hm129).lo hk147).lo hk232).lo hk238).lo hk314).kp hk325 (fun e' => by have := (((hO239).lo hk314)).base_le e'; omega)).lt; omega)
              have hd347 : ¬ A337 = some ⟨g9, 0, none⟩ := fun e' => (hN342 g9 e').elim (fun h => hd332 (h.trans e')) (fun h => by have := ((((((hm132).lo hk147).lo hk232).lo hk238).lo hk314).kp hk325 (fun e' => by have := (((hO239).lo hk314)).base_le e'; omega)).lt; omega)
              have hd350 : ¬ A337 = some ⟨g36, 0, none⟩ := fun e' => (hN342 g36 e').elim (fun h => hd335 (h.trans e')) (fun h => by have := ((((((hm133).lo hk147).lo hk232).lo hk238).lo hk314).kp hk325 (fun e' => by have := (((hO239).lo hk314)).base_le e'; omega)).lt; omega)
              refine SR.nil ⟨hS345, _, rfl, ?_⟩
              refine AH.br [15] (by kernel_rfl) rfl ⟨Br.mk' rfl trivial ?_, trivial⟩
              refine SR.app tel28 rfl rfl (hO341) ((((((((hm130).lo hk147).cutl (l := k) (by omega)).lo hk232).lo hk238).lo hk314).kp hk325 (fun b_ hb e' => by have := (((hO239).lo hk314)).base_le e'; omega)).kp hk340 (fun b_ hb e' => by have := ((hO326)).base_le e'; omega)) (fun _ => rfl) (by omega) (by omega) ?_
              intro A352 c353 w354 hk355 hO356 hN357
              have hz358 := hk355.size
              have hB359 := hB344.step hk355 (fun i_ hi_ e' => by have := ((hO341)).base_le e'; first | omega | (exfalso; omega) | exact e' | exact .inl e' | exact .inr e')
              have hS360 := (hS345).step hk355 (fun i_ hi_ e' => by have := ((hO341)).base_le e'; exfalso; omega)
              have hd361 : ¬ A352 = some ⟨g1, 0, none⟩ := fun e' => (hN357 g1 e').elim (fun h => hd346 (h.trans e')) (fun h => by have := (((((((hm129).lo hk147).lo hk232).lo hk238).lo hk314).kp hk325 (fun e' => by have := (((hO239).lo hk314)).base_le e'; omega)).kp hk340 (fun e' => hd331 e')).lt; omega)
              have hd362 : ¬ A352 = some ⟨g9, 0, none⟩ := fun e' => (hN357 g9 e').elim (fun h => hd347 (h.trans e')) (fun h => by have := (((((((hm132).lo hk147).lo hk232).lo hk238).lo hk314).kp hk325 (fun e' => by have := (((hO239).lo hk314)).base_le e'; omega)).kp hk340 (fun e' => hd332 e')).lt; omega)
              have hd365 : ¬ A352 = some ⟨g36, 0, none⟩ := fun e' => (hN357 g36 e').elim (fun h => hd350 (h.trans e')) (fun h => by have := (((((((hm133).lo hk147).lo hk232).lo hk238).lo hk314).kp hk325 (fun e' => by have := (((hO239).lo hk314)).base_le e'; omega)).kp hk340 (fun e' => hd335 e')).lt; omega)
              refine SR.nil ⟨hS360, _, rfl, ?_⟩
              refine AH.take 16 rfl (by kernel_rfl) trivial (hS360) (fun w' hw' => r_fa fa31_0 rfl) <| AH.br [17] (by kernel_rfl) rfl ⟨Br.mk' rfl trivial ?_, trivial⟩
              refine SR.store (o := 0) (vs := [.slice A352 (((0 + k) + 1) + (nx_Maps - k)) c353]) sca28.2 rfl rfl rfl rfl ((((((((hm133).lo hk147).lo hk232).lo hk238).lo hk314).kp hk325 (fun e' => by have := (((hO239).lo hk314)).base_le e'; omega)).kp hk340 (fun e' => hd335 e')).kp hk355 (fun e' => hd350 e')) (Nat.le_of_ble_eq_true rfl) rfl ?_
              intro w367 hk368 hs369 hb370
              have hz371 := hk368.size
              have hB372 := hB359.new hk368 (by omega)
              have hS373 := (hS360).step hk368 (fun _ _ e => e)
              refine SR.nil ⟨hS373, _, rfl, ?_⟩
              refine AH.done (by kernel_rfl) ?_
              exact ⟨g235, A337, c338, A352, c353, A322, c323, g311, ⟨rfl, rfl, trivial⟩, hS373, (((hO356).kp hk368 (fun b_ hb e' => hd365 (by have e'' : b_ = g36 := e'; rw [← e'']; exact hb))).down (by omega)), (hb370), (fun b_ h h' => by have h1 := ((hO356).kp hk368 (fun b_ hb e' => hd365 (by have e'' : b_ = g36 := e'; rw [← e'']; exact hb))).base_le h; have h2 := (((hm134).lo hk147).lo hk232).base_le h'; omega), (fun b_ h h' => by have h1 := ((hO356).kp hk368 (fun b_ hb e' => hd365 (by have e'' : b_ = g36 := e'; rw [← e'']; exact hb))).base_le h; have h2 := (((hm135).lo hk147).lo hk232).base_le h'; omega)⟩
          · refine SR.lit (vs := [.agg (List.toArray [.int .i64 id, .int .i64 n, .int .i64 0])]) (L := ([(⟨id, n, 0⟩ : LMap)] : List LMap)) (enc := encLMap) tel28 (fun _ => rfl) rfl rfl rfl (by decide) ?_
            intro g376 w377 hg378 hk379 hO380
            have hz381 := hk379.size
            have hB382 := hB234.lo hk379
            have hS383 := ((Kp.refl w145 : Kp (fun b_ => b_ = g36) w145 w145).lo hk232).lo hk379
            have hd384 : ¬ A21 = some ⟨g376, 0, none⟩ := fun e' => by have := (((hm134).lo hk147).lo hk232).base_le e'; omega
            have hd385 : ¬ A25 = some ⟨g376, 0, none⟩ := fun e' => by have := (((hm135).lo hk147).lo hk232).base_le e'; omega
            refine SR.nil ⟨hS383, _, rfl, ?_⟩
            refine AH.br [0] (by kernel_rfl) rfl ⟨Br.mk' rfl trivial ?_, trivial⟩
            refine SR.lit (vs := []) (L := ([] : List LMap)) (enc := encLMap) tel28 (fun _ => rfl) rfl rfl rfl (by decide) ?_
            intro g386 w387 hg388 hk389 hO390
            have hz391 := hk389.size
            have hB392 := hB382.lo hk389
            have hS393 := (hS383).lo hk389
            have hd394 : ¬ A21 = some ⟨g386, 0, none⟩ := fun e' => by have := ((((hm134).lo hk147).lo hk232).lo hk379).base_le e'; omega
            have hd395 : ¬ A25 = some ⟨g386, 0, none⟩ := fun e' => by have := ((((hm135).lo hk147).lo hk232).lo hk379).base_le e'; omega
            have hd396 : ¬ (some (⟨g376, 0, none⟩ : Addr)) = some ⟨g386, 0, none⟩ := fun e' => by have := (hO380).base_le e'; omega
            refine SR.nil ⟨hS393, _, rfl, ?_⟩
            refine AH.br [5] (by kernel_rfl) rfl ⟨Br.mk' rfl trivial ?_, trivial⟩
            refine SR.app tel28 rfl rfl (hO390) ((((((hm130).lo hk147).head (h := k) (by omega)).lo hk232).lo hk379).lo hk389) (fun _ => rfl) (by omega) (by omega) ?_
            intro A397 c398 w399 hk400 hO401 hN402
            have hz403 := hk400.size
            have hB404 := hB392.step hk400 (fun i_ hi_ e' => by have := ((hO390)).base_le e'; first | omega | (exfalso; omega) | exact e' | exact .inl e' | exact .inr e')
            have hS405 := (hS393).step hk400 (fun i_ hi_ e' => by have := ((hO390)).base_le e'; exfalso; omega)
            rw [List.nil_append] at hO401
            have hd406 : ¬ A397 = some ⟨g1, 0, none⟩ := fun e' => (hN402 g1 e').elim (fun h => by have := (hO390).base_le (h.trans e'); omega) (fun h => by have := (((((hm129).lo hk147).lo hk232).lo hk379).lo hk389).lt; omega)
            have hd407 : ¬ A397 = some ⟨g9, 0, none⟩ := fun e' => (hN402 g9 e').elim (fun h => by have := (hO390).base_le (h.trans e'); omega) (fun h => by have := (((((hm132).lo hk147).lo hk232).lo hk379).lo hk389).lt; omega)
            have hd410 : ¬ A397 = some ⟨g36, 0, none⟩ := fun e' => (hN402 g36 e').elim (fun h => by have := (hO390).base_le (h.trans e'); omega) (fun h => by have := (((((hm133).lo hk147).lo hk232).lo hk379).lo hk389).lt; omega)
            refine SR.nil ⟨hS405, _, rfl, ?_⟩
            refine AH.br [10] (by kernel_rfl) rfl ⟨Br.mk' rfl trivial ?_, trivial⟩
            refine SR.app tel28 rfl rfl (hO401) ((((hO380).lo hk389).kp hk400 (fun b_ hb e' => by have h1 := ((hO390)).base_le e'; have h2 := ((hO380).lo hk389).base_le hb; have h3 := (hO380).base_le hb; omega)).rd) (fun _ => rfl) (by omega) (by omega) ?_
            intro A412 c413 w414 hk415 hO416 hN417
            have hz418 := hk415.size
            have hB419 := hB404.step hk415 (fun i_ hi_ e' => by have := ((hO401)).base_le e'; first | omega | (exfalso; omega) | exact e' | exact .inl e' | exact .inr e')
            have hS420 := (hS405).step hk415 (fun i_ hi_ e' => by have := ((hO401)).base_le e'; exfalso; omega)
            have hd421 : ¬ A412 = some ⟨g1, 0, none⟩ := fun e' => (hN417 g1 e').elim (fun h => hd406 (h.trans e')) (fun h => by have := ((((((hm129).lo hk147).lo hk232).lo hk379).lo hk389).kp hk400 (fun e' => by have := ((hO390)).base_le e'; omega)).lt; omega)
            have hd422 : ¬ A412 = some ⟨g9, 0, none⟩ := fun e' => (hN417 g9 e').elim (fun h => hd407 (h.trans e')) (fun h => by have := ((((((hm132).lo hk147).lo hk232).lo hk379).lo hk389).kp hk400 (fun e' => by have := ((hO390)).base_le e'; omega)).lt; omega)
            have hd425 : ¬ A412 = some ⟨g36, 0, none⟩ := fun e' => (hN417 g36 e').elim (fun h => hd410 (h.trans e')) (fun h => by have := ((((((hm133).lo hk147).lo hk232).lo hk379).lo hk389).kp hk400 (fun e' => by have := ((hO390)).base_le e'; omega)).lt; omega)
            refine SR.nil ⟨hS420, _, rfl, ?_⟩
            refine AH.br [15] (by kernel_rfl) rfl ⟨Br.mk' rfl trivial ?_, trivial⟩
            refine SR.app tel28 rfl rfl (hO416) ((((((((hm130).lo hk147).cutl (l := k) (by omega)).lo hk232).lo hk379).lo hk389).kp hk400 (fun b_ hb e' => by have := ((hO390)).base_le e'; omega)).kp hk415 (fun b_ hb e' => by have := ((hO401)).base_le e'; omega)) (fun _ => rfl) (by omega) (by omega) ?_
            intro A427 c428 w429 hk430 hO431 hN432
            have hz433 := hk430.size
            have hB434 := hB419.step hk430 (fun i_ hi_ e' => by have := ((hO416)).base_le e'; first | omega | (exfalso; omega) | exact e' | exact .inl e' | exact .inr e')
            have hS435 := (hS420).step hk430 (fun i_ hi_ e' => by have := ((hO416)).base_le e'; exfalso; omega)
            have hd436 : ¬ A427 = some ⟨g1, 0, none⟩ := fun e' => (hN432 g1 e').elim (fun h => hd421 (h.trans e')) (fun h => by have := (((((((hm129).lo hk147).lo hk232).lo hk379).lo hk389).kp hk400 (fun e' => by have := ((hO390)).base_le e'; omega)).kp hk415 (fun e' => hd406 e')).lt; omega)
            have hd437 : ¬ A427 = some ⟨g9, 0, none⟩ := fun e' => (hN432 g9 e').elim (fun h => hd422 (h.trans e')) (fun h => by have := (((((((hm132).lo hk147).lo hk232).lo hk379).lo hk389).kp hk400 (fun e' => by have := ((hO390)).base_le e'; omega)).kp hk415 (fun e' => hd407 e')).lt; omega)
            have hd440 : ¬ A427 = some ⟨g36, 0, none⟩ := fun e' => (hN432 g36 e').elim (fun h => hd425 (h.trans e')) (fun h => by have := (((((((hm133).lo hk147).lo hk232).lo hk379).lo hk389).kp hk400 (fun e' => by have := ((hO390)).base_le e'; omega)).kp hk415 (fun e' => hd410 e')).lt; omega)
            refine SR.nil ⟨hS435, _, rfl, ?_⟩
            refine AH.take 16 rfl (by kernel_rfl) trivial (hS435) (fun w' hw' => r_fa fa31_0 rfl) <| AH.br [17] (by kernel_rfl) rfl ⟨Br.mk' rfl trivial ?_, trivial⟩
            refine SR.store (o := 0) (vs := [.slice A427 (((0 + k) + 1) + (nx_Maps - k)) c428]) sca28.2 rfl rfl rfl rfl ((((((((hm133).lo hk147).lo hk232).lo hk379).lo hk389).kp hk400 (fun e' => by have := ((hO390)).base_le e'; omega)).kp hk415 (fun e' => hd410 e')).kp hk430 (fun e' => hd425 e')) (Nat.le_of_ble_eq_true rfl) rfl ?_
            intro w442 hk443 hs444 hb445
            have hz446 := hk443.size
            have hB447 := hB434.new hk443 (by omega)
            have hS448 := (hS435).step hk443 (fun _ _ e => e)
            refine SR.nil ⟨hS448, _, rfl, ?_⟩
            refine AH.done (by kernel_rfl) ?_
            exact ⟨g386, A412, c413, A427, c428, A397, c398, g376, ⟨rfl, rfl, trivial⟩, hS448, (((hO431).kp hk443 (fun b_ hb e' => hd440 (by have e'' : b_ = g36 := e'; rw [← e'']; exact hb))).down (by omega)), (hb445), (fun b_ h h' => by have h1 := ((hO431).kp hk443 (fun b_ hb e' => hd440 (by have e'' : b_ = g36 := e'; rw [← e'']; exact hb))).base_le h; have h2 := ((((hm134).lo hk147).lo hk232).lo hk379).base_le h'; omega), (fun b_ h h' => by have h1 := ((hO431).kp hk443 (fun b_ hb e' => hd440 (by have e'' : b_ = g36 := e'; rw [← e'']; exact hb))).base_le h; have h2 := ((((hm135).lo hk147).lo hk232).lo hk379).base_le h'; omega)⟩
        rintro f451 w452 ⟨g235, A270, c271, A285, c286, A245, c246, g259, hat454, hR453, hm307, hm308, hd309, hd310⟩
        rw [← sets_of_at hat454]
        have hz455 := hR453.size
        have hB456 := hB149.new hR453 (by omega)
        refine W.seq ?_
        have hm457 := ((hm132).lo hk147).kp hR453 (fun e' => by have e'' : g9 = g36 := e'; omega)
        have hm458 := ((hm135).lo hk147).kp hR453 (fun b_ hb e' => hd45 (by have e'' : b_ = g36 := e'; rw [← e'']; exact hb))
        refine W.regS (SR.q' (r_lda (l := [.slice A285 (((0 + k) + 1) + (nx_Maps - k)) c286, .slice A25 n26 c27, .int .i64 (x.Bought + n), .int .i64 x.Dropped, .int .i64 x.Mended]) agg31 rfl (fun _ _ hu => (hm308).cell hu) rfl) <| SR.store (o := 0) (vs := [.slice A285 (((0 + k) + 1) + (nx_Maps - k)) c286, .slice A25 n26 c27, .int .i64 (x.Bought + n), .int .i64 x.Dropped, .int .i64 x.Mended]) agg31.2 rfl rfl rfl rfl (hm457) (Nat.le_of_ble_eq_true rfl) rfl ?_)
        intro w459 hk460 hs461 hb462
        have hz463 := hk460.size
        have hB464 := hB456.new hk460 (by omega)
        refine SR.nil ?_
        refine W.ret ?_
        refine retC rfl rfl agg31 (hb462) rfl ?_
        exact ⟨A285, ((0 + k) + 1) + (nx_Maps - k), c286, A25, n26, c27, eR (eA (eC rfl (eC rfl (eC (eI (z_c_spec_l32Bought_467 x nx_Maps hbdx_Maps hlex_Maps nx_Away hbdx_Away hlex_Away id n hp0 hp1 n22 hl32 hl33 n26 hl34 hl35 hq68 h75 k hi136 h150)) (eC (eI (z_c_spec_l32Bought_468 x nx_Maps hbdx_Maps hlex_Maps nx_Away hbdx_Away hlex_Away id n hp0 hp1 n22 hl32 hl33 n26 hl34 hl35 hq68 h75 k hi136 h150)) (eC (eI (z_c_spec_l32Bought_469 x nx_Maps hbdx_Maps hlex_Maps nx_Away hbdx_Away hlex_Away id n hp0 hp1 n22 hl32 hl33 n26 hl34 hl35 hq68 h75 k hi136 h150)) rfl)))))), (SlO.eqv (((hm307).kp hk460 (fun b_ hb e' => by have e'' : b_ = g9 := e'; have := (hm307).base_le hb; omega)).down (by omega)) (z_c_spec_l32Bought_465 x nx_Maps hbdx_Maps hlex_Maps nx_Away hbdx_Away hlex_Away id n hp0 hp1 n22 hl32 hl33 n26 hl34 hl35 hq68 h75 k hi136 h150)), (SlO.eqv (((hm458).kp hk460 (fun b_ hb e' => by have e'' : b_ = g9 := e'; have := (hm458).base_le hb; omega)).down (by omega)) (z_c_spec_l32Bought_466 x nx_Maps hbdx_Maps hlex_Maps nx_Away hbdx_Away hlex_Away id n hp0 hp1 n22 hl32 hl33 n26 hl34 hl35 hq68 h75 k hi136 h150)), hd310, hB464⟩

theorem z_c_spec_l32Gone_19 (x : Library) (nx_Maps : Nat) (hbdx_Maps : (nx_Maps : Int) ≤ 9223372036854775807) (hlex_Maps : nx_Maps = x.Maps.length) (nx_Away : Nat) (hbdx_Away : (nx_Away : Int) ≤ 9223372036854775807) (hlex_Away : nx_Away = x.Away.length) (id : Int) (r : Int) (hp0 : (nx_Maps : Int) ≤ 100) (hp1 : (nx_Away : Int) ≤ 100) : 0 ≤ nx_Away ∧ ∀ j, j < 0 → cmpA (gt x.Away j) (⟨id, r⟩ : Away) < 0 := by
  exact ⟨Nat.zero_le _, fun _ h => absurd h (by omega)⟩
theorem z_c_spec_l32Gone_45 (x : Library) (nx_Maps : Nat) (hbdx_Maps : (nx_Maps : Int) ≤ 9223372036854775807) (hlex_Maps : nx_Maps = x.Maps.length) (nx_Away : Nat) (hbdx_Away : (nx_Away : Int) ≤ 9223372036854775807) (hlex_Away : nx_Away = x.Away.length) (id : Int) (r : Int) (hp0 : (nx_Maps : Int) ≤ 100) (hp1 : (nx_Away : Int) ≤ 100) (k : Nat) (hi28 : k ≤ nx_Away ∧ ∀ j, j < k → cmpA (gt x.Away j) (⟨id, r⟩ : Away) < 0) (h42 : ((k : Int) < (nx_Away : Int)) ∧ ((((gt x.Away k).Map) < id) ∨ ((((gt x.Away k).Map) = id) ∧ (((gt x.Away k).Reader) < r)))) (hq43 : (k : Int) < (nx_Away : Int)) (hq44 : (((gt x.Away k).Map) < id) ∨ ((((gt x.Away k).Map) = id) ∧ (((gt x.Away k).Reader) < r))) : k + 1 ≤ nx_Away ∧ ∀ j, j < (k + 1) → cmpA (gt x.Away j) (⟨id, r⟩ : Away) < 0 := by
  exact ⟨by omega, loopA_next (And.right ‹_ ∧ ∀ j, _ → cmpA _ _ < 0›) (by unfold lexlt; dsimp only; omega)⟩
theorem z_c_spec_l32Gone_46 (x : Library) (nx_Maps : Nat) (hbdx_Maps : (nx_Maps : Int) ≤ 9223372036854775807) (hlex_Maps : nx_Maps = x.Maps.length) (nx_Away : Nat) (hbdx_Away : (nx_Away : Int) ≤ 9223372036854775807) (hlex_Away : nx_Away = x.Away.length) (id : Int) (r : Int) (hp0 : (nx_Maps : Int) ≤ 100) (hp1 : (nx_Away : Int) ≤ 100) (k : Nat) (hi28 : k ≤ nx_Away ∧ ∀ j, j < k → cmpA (gt x.Away j) (⟨id, r⟩ : Away) < 0) (h42 : ((k : Int) < (nx_Away : Int)) ∧ ((((gt x.Away k).Map) < id) ∨ ((((gt x.Away k).Map) = id) ∧ (((gt x.Away k).Reader) < r)))) (hq43 : (k : Int) < (nx_Away : Int)) (hq44 : (((gt x.Away k).Map) < id) ∨ ((((gt x.Away k).Map) = id) ∧ (((gt x.Away k).Reader) < r))) : nx_Away - (k + 1) < nx_Away - k := by
  omega
theorem z_c_spec_l32Gone_394 (x : Library) (nx_Maps : Nat) (hbdx_Maps : (nx_Maps : Int) ≤ 9223372036854775807) (hlex_Maps : nx_Maps = x.Maps.length) (nx_Away : Nat) (hbdx_Away : (nx_Away : Int) ≤ 9223372036854775807) (hlex_Away : nx_Away = x.Away.length) (id : Int) (r : Int) (hp0 : (nx_Maps : Int) ≤ 100) (hp1 : (nx_Away : Int) ≤ 100) (k : Nat) (hi28 : k ≤ nx_Away ∧ ∀ j, j < k → cmpA (gt x.Away j) (⟨id, r⟩ : Away) < 0) (h42 : ¬ (((k : Int) < (nx_Away : Int)) ∧ ((((gt x.Away k).Map) < id) ∨ ((((gt x.Away k).Map) = id) ∧ (((gt x.Away k).Reader) < r))))) (n50 : Nat) (hl60 : n50 = (x.Maps).length) (hl61 : (n50 : Int) ≤ 9223372036854775807) (n54 : Nat) (hl62 : n54 = (x.Away).length) (hl63 : (n54 : Int) ≤ 9223372036854775807) : x.Maps = (goneN x id r).Maps := by
  first | rfl | (show _ = insAt x.Away _ _; unfold insAt; rw [← loopA_end (t := ⟨id, r⟩) (And.right ‹_ ∧ ∀ j, _ → cmpA _ _ < 0›) (by omega) (by unfold lexlt; dsimp only; omega)])
theorem z_c_spec_l32Gone_395 (x : Library) (nx_Maps : Nat) (hbdx_Maps : (nx_Maps : Int) ≤ 9223372036854775807) (hlex_Maps : nx_Maps = x.Maps.length) (nx_Away : Nat) (hbdx_Away : (nx_Away : Int) ≤ 9223372036854775807) (hlex_Away : nx_Away = x.Away.length) (id : Int) (r : Int) (hp0 : (nx_Maps : Int) ≤ 100) (hp1 : (nx_Away : Int) ≤ 100) (k : Nat) (hi28 : k ≤ nx_Away ∧ ∀ j, j < k → cmpA (gt x.Away j) (⟨id, r⟩ : Away) < 0) (h42 : ¬ (((k : Int) < (nx_Away : Int)) ∧ ((((gt x.Away k).Map) < id) ∨ ((((gt x.Away k).Map) = id) ∧ (((gt x.Away k).Reader) < r))))) (n50 : Nat) (hl60 : n50 = (x.Maps).length) (hl61 : (n50 : Int) ≤ 9223372036854775807) (n54 : Nat) (hl62 : n54 = (x.Away).length) (hl63 : (n54 : Int) ≤ 9223372036854775807) : ((x.Away.take k) ++ ([(⟨id, r⟩ : Away)] : List Away)) ++ (x.Away.drop k) = (goneN x id r).Away := by
  first | rfl | (show _ = insAt x.Away _ _; unfold insAt; rw [← loopA_end (t := ⟨id, r⟩) (And.right ‹_ ∧ ∀ j, _ → cmpA _ _ < 0›) (by omega) (by unfold lexlt; dsimp only; omega)])
theorem z_c_spec_l32Gone_396 (x : Library) (nx_Maps : Nat) (hbdx_Maps : (nx_Maps : Int) ≤ 9223372036854775807) (hlex_Maps : nx_Maps = x.Maps.length) (nx_Away : Nat) (hbdx_Away : (nx_Away : Int) ≤ 9223372036854775807) (hlex_Away : nx_Away = x.Away.length) (id : Int) (r : Int) (hp0 : (nx_Maps : Int) ≤ 100) (hp1 : (nx_Away : Int) ≤ 100) (k : Nat) (hi28 : k ≤ nx_Away ∧ ∀ j, j < k → cmpA (gt x.Away j) (⟨id, r⟩ : Away) < 0) (h42 : ¬ (((k : Int) < (nx_Away : Int)) ∧ ((((gt x.Away k).Map) < id) ∨ ((((gt x.Away k).Map) = id) ∧ (((gt x.Away k).Reader) < r))))) (n50 : Nat) (hl60 : n50 = (x.Maps).length) (hl61 : (n50 : Int) ≤ 9223372036854775807) (n54 : Nat) (hl62 : n54 = (x.Away).length) (hl63 : (n54 : Int) ≤ 9223372036854775807) : x.Bought = (goneN x id r).Bought := by
  first | rfl | (show _ = insAt x.Away _ _; unfold insAt; rw [← loopA_end (t := ⟨id, r⟩) (And.right ‹_ ∧ ∀ j, _ → cmpA _ _ < 0›) (by omega) (by unfold lexlt; dsimp only; omega)])
theorem z_c_spec_l32Gone_397 (x : Library) (nx_Maps : Nat) (hbdx_Maps : (nx_Maps : Int) ≤ 9223372036854775807) (hlex_Maps : nx_Maps = x.Maps.length) (nx_Away : Nat) (hbdx_Away : (nx_Away : Int) ≤ 9223372036854775807) (hlex_Away : nx_Away = x.Away.length) (id : Int) (r : Int) (hp0 : (nx_Maps : Int) ≤ 100) (hp1 : (nx_Away : Int) ≤ 100) (k : Nat) (hi28 : k ≤ nx_Away ∧ ∀ j, j < k → cmpA (gt x.Away j) (⟨id, r⟩ : Away) < 0) (h42 : ¬ (((k : Int) < (nx_Away : Int)) ∧ ((((gt x.Away k).Map) < id) ∨ ((((gt x.Away k).Map) = id) ∧ (((gt x.Away k).Reader) < r))))) (n50 : Nat) (hl60 : n50 = (x.Maps).length) (hl61 : (n50 : Int) ≤ 9223372036854775807) (n54 : Nat) (hl62 : n54 = (x.Away).length) (hl63 : (n54 : Int) ≤ 9223372036854775807) : x.Dropped = (goneN x id r).Dropped := by
  first | rfl | (show _ = insAt x.Away _ _; unfold insAt; rw [← loopA_end (t := ⟨id, r⟩) (And.right ‹_ ∧ ∀ j, _ → cmpA _ _ < 0›) (by omega) (by unfold lexlt; dsimp only; omega)])
theorem z_c_spec_l32Gone_398 (x : Library) (nx_Maps : Nat) (hbdx_Maps : (nx_Maps : Int) ≤ 9223372036854775807) (hlex_Maps : nx_Maps = x.Maps.length) (nx_Away : Nat) (hbdx_Away : (nx_Away : Int) ≤ 9223372036854775807) (hlex_Away : nx_Away = x.Away.length) (id : Int) (r : Int) (hp0 : (nx_Maps : Int) ≤ 100) (hp1 : (nx_Away : Int) ≤ 100) (k : Nat) (hi28 : k ≤ nx_Away ∧ ∀ j, j < k → cmpA (gt x.Away j) (⟨id, r⟩ : Away) < 0) (h42 : ¬ (((k : Int) < (nx_Away : Int)) ∧ ((((gt x.Away k).Map) < id) ∨ ((((gt x.Away k).Map) = id) ∧ (((gt x.Away k).Reader) < r))))) (n50 : Nat) (hl60 : n50 = (x.Maps).length) (hl61 : (n50 : Int) ≤ 9223372036854775807) (n54 : Nat) (hl62 : n54 = (x.Away).length) (hl63 : (n54 : Int) ≤ 9223372036854775807) : x.Mended = (goneN x id r).Mended := by
  first | rfl | (show _ = insAt x.Away _ _; unfold insAt; rw [← loopA_end (t := ⟨id, r⟩) (And.right ‹_ ∧ ∀ j, _ → cmpA _ _ < 0›) (by omega) (by unfold lexlt; dsimp only; omega)])
theorem c_spec_l32Gone (w : World) (x : Library) {Ax_Maps : Option Addr} {nx_Maps cx_Maps Bx_Maps : Nat} (hx_Maps : SlR w Bx_Maps encLMap 3 Ax_Maps nx_Maps cx_Maps x.Maps) {Ax_Away : Option Addr} {nx_Away cx_Away Bx_Away : Nat} (hx_Away : SlR w Bx_Away encAway 2 Ax_Away nx_Away cx_Away x.Away) (id : Int) (r : Int) (hp0 : (nx_Maps : Int) ≤ 100) (hp1 : (nx_Away : Int) ≤ 100) : Calls Try.prog 105 #[.agg (List.toArray [.slice Ax_Maps nx_Maps cx_Maps, .slice Ax_Away nx_Away cx_Away, .int .i64 x.Bought, .int .i64 x.Dropped, .int .i64 x.Mended]), .int .i64 id, .int .i64 r] w fun e w' => ∃ (A1' : Option Addr) (n1' c1' : Nat) (A2' : Option Addr) (n2' c2' : Nat), e = .returned (.agg (List.toArray [.slice A1' n1' c1', .slice A2' n2' c2', .int .i64 ((goneN x id r).Bought), .int .i64 ((goneN x id r).Dropped), .int .i64 ((goneN x id r).Mended)])) ∧ SlO w' w.heap.size encLMap 3 73 A1' n1' c1' ((goneN x id r).Maps) ∧ SlO w' w.heap.size encAway 2 77 A2' n2' c2' ((goneN x id r).Away) ∧ (∀ b_, A1' = some ⟨b_, 0, none⟩ → ¬ A2' = some ⟨b_, 0, none⟩) ∧ Lo w w' := by
  refine calls_W 66 Try.func105 rfl rfl rfl ?_
  have hbdx_Maps := hx_Maps.bound
  have hlex_Maps := hx_Maps.len
  have hBbx_Maps := hx_Maps.bd
  have hbdx_Away := hx_Away.bound
  have hlex_Away := hx_Away.len
  have hBbx_Away := hx_Away.bd
  refine W.seq ?_
  refine W.regS (SR.box (v := .agg (List.toArray _)) (l := [.slice Ax_Maps nx_Maps cx_Maps, .slice Ax_Away nx_Away cx_Away, .int .i64 x.Bought, .int .i64 x.Dropped, .int .i64 x.Mended]) rfl rfl ?_)
  intro g1 w2 hg3 hk4 hs5 hb6
  have hz7 := hk4.size
  have hB8 := (Lo.refl w).lo hk4
  refine SR.alloc (l := [.slice none 0 0, .slice none 0 0, .int .i64 0, .int .i64 0, .int .i64 0]) tz31 rfl ?_
  intro g9 w10 hg11 hk12 hs13 hb14
  have hz15 := hk12.size
  have hB16 := hB8.lo hk12
  refine SR.nil ?_
  refine W.seq ?_
  have hm17 := ((hx_Maps).lo hk4).lo hk12
  have hm18 := ((hx_Away).lo hk4).lo hk12
  refine W.regS (SR.q' (r_as (v := .int .i64 0) rfl) <| SR.nil ?_)
  refine W.seq ?_
  refine W.block ?_
  refine W.loop (σ := Nat) (fun g => [(1, .int .i64 id), (2, .int .i64 r), (3, .pointer (some ((⟨g1, 0, none⟩ : Addr)))), (6, .pointer (some ((⟨g9, 0, none⟩ : Addr)))), (7, .int .i64 (g : Int))]) (fun g w' => (Lo w w') ∧ (Blk w' g1 31 [.slice Ax_Maps nx_Maps cx_Maps, .slice Ax_Away nx_Away cx_Away, .int .i64 x.Bought, .int .i64 x.Dropped, .int .i64 x.Mended]) ∧ (SlR w' Bx_Maps encLMap 3 Ax_Maps nx_Maps cx_Maps x.Maps) ∧ (SlR w' Bx_Away encAway 2 Ax_Away nx_Away cx_Away x.Away) ∧ (Blk w' g9 31 [.slice none 0 0, .slice none 0 0, .int .i64 0, .int .i64 0, .int .i64 0]) ∧ (g ≤ nx_Away ∧ ∀ j, j < g → cmpA (gt x.Away j) (⟨id, r⟩ : Away) < 0)) (fun g => nx_Away - g) 0 ?_ ?_ ?_
  · exact ⟨rfl, rfl, rfl, rfl, rfl, trivial⟩
  · exact ⟨hB16, (hb6).lo hk12, hm17, hm18, hb14, (z_c_spec_l32Gone_19 x nx_Maps hbdx_Maps hlex_Maps nx_Away hbdx_Away hlex_Away id r hp0 hp1)⟩
  · rintro k f20 w21 hP23
    obtain ⟨hB22, hm24, hm25, hm26, hm27, hi28⟩ : (Lo w w21) ∧ (Blk w21 g1 31 [.slice Ax_Maps nx_Maps cx_Maps, .slice Ax_Away nx_Away cx_Away, .int .i64 x.Bought, .int .i64 x.Dropped, .int .i64 x.Mended]) ∧ (SlR w21 Bx_Maps encLMap 3 Ax_Maps nx_Maps cx_Maps x.Maps) ∧ (SlR w21 Bx_Away encAway 2 Ax_Away nx_Away cx_Away x.Away) ∧ (Blk w21 g9 31 [.slice none 0 0, .slice none 0 0, .int .i64 0, .int .i64 0, .int .i64 0]) ∧ (k ≤ nx_Away ∧ ∀ j, j < k → cmpA (gt x.Away j) (⟨id, r⟩ : Away) < 0) := hP23
    refine (?_ : W _ _ _ _ _ (act _ (sets f20 [(1, .int .i64 id), (2, .int .i64 r), (3, .pointer (some ((⟨g1, 0, none⟩ : Addr)))), (6, .pointer (some ((⟨g9, 0, none⟩ : Addr)))), (7, .int .i64 (k : Int))])) _)
    have hzw21 := hB22.size
    have hl29 := hm24.lt
    have hl30 := hm27.lt
    refine W.seq ?_
    refine W.seq ?_
    refine W.regJS (fun f' w' => At f' [(1, .int .i64 id), (2, .int .i64 r), (3, .pointer (some ((⟨g1, 0, none⟩ : Addr)))), (6, .pointer (some ((⟨g9, 0, none⟩ : Addr)))), (7, .int .i64 (k : Int)), (43, .bool (decide (((k : Int) < (nx_Away : Int)) ∧ ((((gt x.Away k).Map) < id) ∨ ((((gt x.Away k).Map) = id) ∧ (((gt x.Away k).Reader) < r))))))] ∧ Lo w21 w') ?_ ?_
    · refine SR.q' (r_mv (v := .int .i64 _) rfl) <| SR.q' (r_fa fa31_1 rfl) <| SR.q' (r_ld (v := .slice Ax_Away nx_Away cx_Away) sca29 rfl ((hm24).cell rfl)) <| SR.q' (r_len und29 rfl) <| SR.q' (r_lt rfl rfl) <| SR.q' (r_mv (v := .bool _) rfl) <| SR.splitD (fun h31 => ?_) (fun h31 => ?_)
      · refine SR.g' rfl (r_fa fa31_1 rfl) <| SR.g' rfl (r_ld (v := .slice Ax_Away nx_Away cx_Away) sca29 rfl ((hm24).cell rfl)) <| SR.g' rfl (r_mv (v := .int .i64 _) rfl) <| ?_
        have hx33 := (hm26).elem (i := k) (by omega)
        refine SR.g' rfl (r_ixR tsl29 (hm26) rfl rfl (by omega)) <| SR.g' rfl (r_fa fa77_0 rfl) <| SR.g' rfl (r_ld (v := .int .i64 ((gt x.Away k).Map)) sca3 rfl ((hm26).cell hx33 rfl)) <| SR.g' rfl (r_mv (v := .int .i64 _) rfl) <| SR.g' rfl (r_lt rfl rfl) <| SR.g' rfl (r_mv (v := .bool _) rfl) <| SR.splitD (fun h34 => ?_) (fun h34 => ?_)
        · refine SR.s' rfl <| SR.s' rfl <| SR.s' rfl <| SR.s' rfl <| SR.s' rfl <| SR.s' rfl <| SR.s' rfl <| SR.s' rfl <| SR.s' rfl <| SR.u' rfl <| SR.u' rfl <| SR.u' rfl <| SR.u' rfl <| SR.u' rfl <| SR.u' rfl <| SR.u' rfl <| SR.u' rfl <| SR.s' rfl <| SR.g' rfl (r_pick true rfl (v := .bool true) rfl) <| SR.q' (r_pick true rfl (v := .bool _) rfl) <| SR.nil ?_
          exact ⟨_, rfl, ⟨⟨rfl, rfl, rfl, rfl, rfl, (eDT (((jot h34).trans (jat h31)).1 trivial)), trivial⟩, (Lo.refl _)⟩⟩
        · refine SR.g' rfl (r_fa fa31_1 rfl) <| SR.g' rfl (r_ld (v := .slice Ax_Away nx_Away cx_Away) sca29 rfl ((hm24).cell rfl)) <| SR.g' rfl (r_mv (v := .int .i64 _) rfl) <| SR.g' rfl (r_ixR tsl29 (hm26) rfl rfl (by omega)) <| SR.g' rfl (r_fa fa77_0 rfl) <| SR.g' rfl (r_ld (v := .int .i64 ((gt x.Away k).Map)) sca3 rfl ((hm26).cell hx33 rfl)) <| SR.g' rfl (r_mv (v := .int .i64 _) rfl) <| SR.g' rfl (r_eq rfl rfl) <| SR.g' rfl (r_mv (v := .bool _) rfl) <| SR.splitD (fun h35 => ?_) (fun h35 => ?_)
          · refine SR.g' rfl (r_fa fa31_1 rfl) <| SR.g' rfl (r_ld (v := .slice Ax_Away nx_Away cx_Away) sca29 rfl ((hm24).cell rfl)) <| SR.g' rfl (r_mv (v := .int .i64 _) rfl) <| SR.g' rfl (r_ixR tsl29 (hm26) rfl rfl (by omega)) <| SR.g' rfl (r_fa fa77_1 rfl) <| SR.g' rfl (r_ld (v := .int .i64 ((gt x.Away k).Reader)) sca3 rfl ((hm26).cell hx33 rfl)) <| SR.g' rfl (r_mv (v := .int .i64 _) rfl) <| SR.g' rfl (r_lt rfl rfl) <| SR.g' rfl (r_pick true rfl (v := .bool _) rfl) <| SR.g' rfl (r_pick false rfl (v := .bool _) rfl) <| SR.q' (r_pick true rfl (v := .bool _) rfl) <| SR.nil ?_
            exact ⟨_, rfl, ⟨⟨rfl, rfl, rfl, rfl, rfl, (eDD (((jat h35).trans (jof h34)).trans (jat h31))), trivial⟩, (Lo.refl _)⟩⟩
          · refine SR.s' rfl <| SR.s' rfl <| SR.s' rfl <| SR.s' rfl <| SR.s' rfl <| SR.s' rfl <| SR.s' rfl <| SR.s' rfl <| SR.g' rfl (r_pick false rfl (v := .bool false) rfl) <| SR.g' rfl (r_pick false rfl (v := .bool _) rfl) <| SR.q' (r_pick true rfl (v := .bool _) rfl) <| SR.nil ?_
            exact ⟨_, rfl, ⟨⟨rfl, rfl, rfl, rfl, rfl, (eDF (((jaf h35).trans (jof h34)).trans (jat h31)).2), trivial⟩, (Lo.refl _)⟩⟩
      · refine SR.s' rfl <| SR.s' rfl <| SR.s' rfl <| SR.s' rfl <| SR.s' rfl <| SR.s' rfl <| SR.s' rfl <| SR.s' rfl <| SR.s' rfl <| SR.u' rfl <| SR.u' rfl <| SR.u' rfl <| SR.u' rfl <| SR.u' rfl <| SR.u' rfl <| SR.u' rfl <| SR.u' rfl <| SR.u' rfl <| SR.u' rfl <| SR.u' rfl <| SR.u' rfl <| SR.u' rfl <| SR.u' rfl <| SR.u' rfl <| SR.u' rfl <| SR.u' rfl <| SR.u' rfl <| SR.s' rfl <| SR.q' (r_pick false rfl (v := .bool false) rfl) <| SR.nil ?_
        exact ⟨_, rfl, ⟨⟨rfl, rfl, rfl, rfl, rfl, (eDF (jaf h31).2), trivial⟩, (Lo.refl _)⟩⟩
    rintro f36 w37 ⟨hat38, hk39⟩
    rw [← sets_of_at hat38]
    have hz40 := hk39.size
    have hB41 := hB22.lo hk39
    refine W.cond_d rfl (fun h42 => ?_) (fun h42 => ?_)
    · have hq43 : (k : Int) < (nx_Away : Int) := h42.1
      have hq44 : (((gt x.Away k).Map) < id) ∨ ((((gt x.Away k).Map) = id) ∧ (((gt x.Away k).Reader) < r)) := h42.2
      refine W.skip ?_
      refine W.block ?_
      refine W.regS (SR.q' (r_mv (v := .int .i64 _) rfl) <| SR.q' (r_add rfl rfl (by omega)) <| SR.q' (r_as (v := .int .i64 _) rfl) <| SR.nil ?_)
      refine ⟨k + 1, _, rfl, ⟨rfl, rfl, rfl, rfl, rfl, trivial⟩, ⟨hB41, (hm24).lo hk39, (hm25).lo hk39, (hm26).lo hk39, (hm27).lo hk39, ?_⟩, ?_⟩
      · exact (z_c_spec_l32Gone_45 x nx_Maps hbdx_Maps hlex_Maps nx_Away hbdx_Away hlex_Away id r hp0 hp1 k hi28 h42 hq43 hq44)
      · exact (z_c_spec_l32Gone_46 x nx_Maps hbdx_Maps hlex_Maps nx_Away hbdx_Away hlex_Away id r hp0 hp1 k hi28 h42 hq43 hq44)
    · refine W.exit (xin_here ?_)
      refine W.seq ?_
      refine W.regS (SR.q' (r_lda (l := [.slice Ax_Maps nx_Maps cx_Maps, .slice Ax_Away nx_Away cx_Away, .int .i64 x.Bought, .int .i64 x.Dropped, .int .i64 x.Mended]) agg31 rfl (fun _ _ hu => ((hm24).lo hk39).cell hu) rfl) <| SR.call ent79 (c_spec_l32Own w37 x (((hm25).lo hk39)) (((hm26).lo hk39)) (by omega) (by omega)) rfl ?_)
      rintro e w47 ⟨A49, n50, c51, A53, n54, c55, rfl, hO52, hO56, hd57, hk48⟩
      refine ⟨_, rfl, ?_⟩
      have hz58 := hk48.size
      have hB59 := hB41.lo hk48
      have hl60 := hO52.len
      have hl61 := hO52.rd.bound
      have hl62 := hO56.len
      have hl63 := hO56.rd.bound
      refine SR.alloc (l := [.slice none 0 0, .slice none 0 0, .int .i64 0, .int .i64 0, .int .i64 0]) tz31 rfl ?_
      intro g64 w65 hg66 hk67 hs68 hb69
      have hz70 := hk67.size
      have hB71 := hB59.lo hk67
      have hd72 : ¬ A49 = some ⟨g64, 0, none⟩ := fun e' => by have := (hO52).base_le e'; omega
      have hd73 : ¬ A53 = some ⟨g64, 0, none⟩ := fun e' => by have := (hO56).base_le e'; omega
      refine SR.store (o := 0) (vs := [.slice A49 n50 c51, .slice A53 n54 c55, .int .i64 x.Bought, .int .i64 x.Dropped, .int .i64 x.Mended]) agg31.2 rfl rfl rfl rfl (hb69) (Nat.le_of_ble_eq_true rfl) rfl ?_
      intro w74 hk75 hs76 hb77
      have hz78 := hk75.size
      have hB79 := hB71.new hk75 (by omega)
      refine SR.nil ?_
      refine W.seq ?_
      have hm80 := ((((hm24).lo hk39).lo hk48).lo hk67).kp hk75 (fun e' => by have e'' : g1 = g64 := e'; omega)
      have hm81 := ((((hm25).lo hk39).lo hk48).lo hk67).kp hk75 (fun b_ hb e' => by have e'' : b_ = g64 := e'; omega)
      have hm82 := ((((hm26).lo hk39).lo hk48).lo hk67).kp hk75 (fun b_ hb e' => by have e'' : b_ = g64 := e'; omega)
      have hm83 := ((((hm27).lo hk39).lo hk48).lo hk67).kp hk75 (fun e' => by have e'' : g9 = g64 := e'; omega)
      have hm84 := ((hO52).lo hk67).kp hk75 (fun b_ hb e' => hd72 (by have e'' : b_ = g64 := e'; rw [← e'']; exact hb))
      have hm85 := ((hO56).lo hk67).kp hk75 (fun b_ hb e' => hd73 (by have e'' : b_ = g64 := e'; rw [← e'']; exact hb))
      refine W.regA (Kp (fun b_ => b_ = g64) w74) (fun f' w' => ∃ (g166 : Nat), ∃ (A201 : Option Addr), ∃ (c202 : Nat), ∃ (A216 : Option Addr), ∃ (c217 : Nat), ∃ (A176 : Option Addr), ∃ (c177 : Nat), ∃ (g190 : Nat), At f' [(6, .pointer (some ((⟨g9, 0, none⟩ : Addr)))), (8, .pointer (some ((⟨g64, 0, none⟩ : Addr))))] ∧ (Kp (fun b_ => b_ = g64) w74 w') ∧ (SlO w' w74.heap.size encAway 2 77 A216 (((0 + k) + 1) + (nx_Away - k)) c217 (((x.Away.take k) ++ ([(⟨id, r⟩ : Away)] : List Away)) ++ (x.Away.drop k))) ∧ (Blk w' g64 31 [.slice A49 n50 c51, .slice A216 (((0 + k) + 1) + (nx_Away - k)) c217, .int .i64 x.Bought, .int .i64 x.Dropped, .int .i64 x.Mended]) ∧ (∀ b_, A216 = some ⟨b_, 0, none⟩ → ¬ A49 = some ⟨b_, 0, none⟩) ∧ (∀ b_, A216 = some ⟨b_, 0, none⟩ → ¬ A53 = some ⟨b_, 0, none⟩)) mo ?_ ?_
      · intro w162 hk163
        have hz164 := hk163.size
        have hB165 := hB79.lo hk163
        refine AH.take 1 rfl (by kernel_rfl) trivial ((Kp.refl w74 : Kp (fun b_ => b_ = g64) w74 w74).lo hk163) (fun w' hw' => r_fa fa31_1 rfl) <| AH.take 2 rfl (by kernel_rfl) trivial ((Kp.refl w74 : Kp (fun b_ => b_ = g64) w74 w74).lo hk163) (fun w' hw' => r_ld (v := .slice Ax_Away nx_Away cx_Away) sca29 rfl (((hm80).kp hw' (fun e' => by have e'' : g1 = g64 := e'; omega)).cell rfl)) <| AH.take 3 rfl (by kernel_rfl) trivial ((Kp.refl w74 : Kp (fun b_ => b_ = g64) w74 w74).lo hk163) (fun w' hw' => r_mv (v := .int .i64 _) rfl) <| AH.take 4 rfl (by kernel_rfl) trivial ((Kp.refl w74 : Kp (fun b_ => b_ = g64) w74 w74).lo hk163) (fun w' hw' => r_cuth (h := k) tsl29 rfl rfl rfl (Nat.le_trans (by omega : k ≤ nx_Away) (hm82).cap)) <| AH.take 6 rfl (by kernel_rfl) trivial ((Kp.refl w74 : Kp (fun b_ => b_ = g64) w74 w74).lo hk163) (fun w' hw' => r_mv (v := .int .i64 _) rfl) <| AH.take 7 rfl (by kernel_rfl) trivial ((Kp.refl w74 : Kp (fun b_ => b_ = g64) w74 w74).lo hk163) (fun w' hw' => r_mv (v := .int .i64 _) rfl) <| AH.take 8 rfl (by kernel_rfl) trivial ((Kp.refl w74 : Kp (fun b_ => b_ = g64) w74 w74).lo hk163) (fun w' hw' => r_build (vs := [(0, .int .i64 id), (1, .int .i64 r)]) rfl (bld77_0_1 _ _)) <| AH.take 11 rfl (by kernel_rfl) trivial ((Kp.refl w74 : Kp (fun b_ => b_ = g64) w74 w74).lo hk163) (fun w' hw' => r_fa fa31_1 rfl) <| AH.take 12 rfl (by kernel_rfl) trivial ((Kp.refl w74 : Kp (fun b_ => b_ = g64) w74 w74).lo hk163) (fun w' hw' => r_ld (v := .slice Ax_Away nx_Away cx_Away) sca29 rfl (((hm80).kp hw' (fun e' => by have e'' : g1 = g64 := e'; omega)).cell rfl)) <| AH.take 13 rfl (by kernel_rfl) trivial ((Kp.refl w74 : Kp (fun b_ => b_ = g64) w74 w74).lo hk163) (fun w' hw' => r_mv (v := .int .i64 _) rfl) <| AH.take 14 rfl (by kernel_rfl) trivial ((Kp.refl w74 : Kp (fun b_ => b_ = g64) w74 w74).lo hk163) (fun w' hw' => r_cutl (l := k) tsl29 rfl rfl rfl (by omega)) <| AH.br [0, 9] (by kernel_rfl) rfl ⟨Br.mk' rfl trivial ?_, Br.mk' rfl trivial ?_, trivial⟩
        · refine SR.lit (vs := []) (L := ([] : List Away)) (enc := encAway) tel29 (fun _ => rfl) rfl rfl rfl (by decide) ?_
          intro g166 w167 hg168 hk169 hO170
          have hz171 := hk169.size
          have hB172 := hB165.lo hk169
          have hS173 := ((Kp.refl w74 : Kp (fun b_ => b_ = g64) w74 w74).lo hk163).lo hk169
          have hd174 : ¬ A49 = some ⟨g166, 0, none⟩ := fun e' => by have := ((hm84).lo hk163).base_le e'; omega
          have hd175 : ¬ A53 = some ⟨g166, 0, none⟩ := fun e' => by have := ((hm85).lo hk163).base_le e'; omega
          refine SR.nil ⟨hS173, _, rfl, ?_⟩
          refine AH.br [5, 9] (by kernel_rfl) rfl ⟨Br.mk' rfl trivial ?_, Br.mk' rfl trivial ?_, trivial⟩
          · refine SR.app tel29 rfl rfl (hO170) ((((hm82).head (h := k) (by omega)).lo hk163).lo hk169) (fun _ => rfl) (by omega) (by omega) ?_
            intro A176 c177 w178 hk179 hO180 hN181
            have hz182 := hk179.size
            have hB183 := hB172.step hk179 (fun i_ hi_ e' => by have := ((hO170)).base_le e'; first | omega | (exfalso; omega) | exact e' | exact .inl e' | exact .inr e')
            have hS184 := (hS173).step hk179 (fun i_ hi_ e' => by have := ((hO170)).base_le e'; exfalso; omega)
            rw [List.nil_append] at hO180
            have hd185 : ¬ A176 = some ⟨g1, 0, none⟩ := fun e' => (hN181 g1 e').elim (fun h => by have := (hO170).base_le (h.trans e'); omega) (fun h => by have := (((hm80).lo hk163).lo hk169).lt; omega)
            have hd186 : ¬ A176 = some ⟨g9, 0, none⟩ := fun e' => (hN181 g9 e').elim (fun h => by have := (hO170).base_le (h.trans e'); omega) (fun h => by have := (((hm83).lo hk163).lo hk169).lt; omega)
            have hd189 : ¬ A176 = some ⟨g64, 0, none⟩ := fun e' => (hN181 g64 e').elim (fun h => by have := (hO170).base_le (h.trans e'); omega) (fun h => by have := (((hb77).lo hk163).lo hk169).lt; omega)
            refine SR.nil ⟨hS184, _, rfl, ?_⟩
            refine AH.br [9] (by kernel_rfl) rfl ⟨Br.mk' rfl trivial ?_, trivial⟩
            refine SR.lit (vs := [.agg (List.toArray [.int .i64 id, .int .i64 r])]) (L := ([(⟨id, r⟩ : Away)] : List Away)) (enc := encAway) tel29 (fun _ => rfl) rfl rfl rfl (by decide) ?_
            intro g190 w191 hg192 hk193 hO194
            have hz195 := hk193.size
            have hB196 := hB183.lo hk193
            have hS197 := (hS184).lo hk193
            have hd198 : ¬ A49 = some ⟨g190, 0, none⟩ := fun e' => by have := ((((hm84).lo hk163).lo hk169).kp hk179 (fun b_ hb e' => by have h1 := ((hO170)).base_le e'; have h2 := (((hm84).lo hk163).lo hk169).base_le hb; have h3 := ((hm84).lo hk163).base_le hb; omega)).base_le e'; omega
            have hd199 : ¬ A53 = some ⟨g190, 0, none⟩ := fun e' => by have := ((((hm85).lo hk163).lo hk169).kp hk179 (fun b_ hb e' => by have h1 := ((hO170)).base_le e'; have h2 := (((hm85).lo hk163).lo hk169).base_le hb; have h3 := ((hm85).lo hk163).base_le hb; omega)).base_le e'; omega
            have hd200 : ¬ A176 = some ⟨g190, 0, none⟩ := fun e' => by have := (hO180).base_le e'; omega
            refine SR.nil ⟨hS197, _, rfl, ?_⟩
            refine AH.br [10] (by kernel_rfl) rfl ⟨Br.mk' rfl trivial ?_, trivial⟩
            refine SR.app tel29 rfl rfl ((hO180).lo hk193) ((hO194).rd) (fun _ => rfl) (by omega) (by omega) ?_
            intro A201 c202 w203 hk204 hO205 hN206
            have hz207 := hk204.size
            have hB208 := hB196.step hk204 (fun i_ hi_ e' => by have := (((hO180).lo hk193)).base_le e'; first | omega | (exfalso; omega) | exact e' | exact .inl e' | exact .inr e')
            have hS209 := (hS197).step hk204 (fun i_ hi_ e' => by have := (((hO180).lo hk193)).base_le e'; exfalso; omega)
            have hd210 : ¬ A201 = some ⟨g1, 0, none⟩ := fun e' => (hN206 g1 e').elim (fun h => hd185 (h.trans e')) (fun h => by have := (((((hm80).lo hk163).lo hk169).kp hk179 (fun e' => by have := ((hO170)).base_le e'; omega)).lo hk193).lt; omega)
            have hd211 : ¬ A201 = some ⟨g9, 0, none⟩ := fun e' => (hN206 g9 e').elim (fun h => hd186 (h.trans e')) (fun h => by have := (((((hm83).lo hk163).lo hk169).kp hk179 (fun e' => by have := ((hO170)).base_le e'; omega)).lo hk193).lt; omega)
            have hd214 : ¬ A201 = some ⟨g64, 0, none⟩ := fun e' => (hN206 g64 e').elim (fun h => hd189 (h.trans e')) (fun h => by have := (((((hb77).lo hk163).lo hk169).kp hk179 (fun e' => by have := ((hO170)).base_le e'; omega)).lo hk193).lt; omega)
            refine SR.nil ⟨hS209, _, rfl, ?_⟩
            refine AH.br [15] (by kernel_rfl) rfl ⟨Br.mk' rfl trivial ?_, trivial⟩
            refine SR.app tel29 rfl rfl (hO205) (((((((hm82).cutl (l := k) (by omega)).lo hk163).lo hk169).kp hk179 (fun b_ hb e' => by have := ((hO170)).base_le e'; omega)).lo hk193).kp hk204 (fun b_ hb e' => by have := (((hO180).lo hk193)).base_le e'; omega)) (fun _ => rfl) (by omega) (by omega) ?_
            intro A216 c217 w218 hk219 hO220 hN221
            have hz222 := hk219.size
            have hB223 := hB208.step hk219 (fun i_ hi_ e' => by have := ((hO205)).base_le e'; first | omega | (exfalso; omega) | exact e' | exact .inl e' | exact .inr e')
            have hS224 := (hS209).step hk219 (fun i_ hi_ e' => by have := ((hO205)).base_le e'; exfalso; omega)
            have hd225 : ¬ A216 = some ⟨g1, 0, none⟩ := fun e' => (hN221 g1 e').elim (fun h => hd210 (h.trans e')) (fun h => by have := ((((((hm80).lo hk163).lo hk169).kp hk179 (fun e' => by have := ((hO170)).base_le e'; omega)).lo hk193).kp hk204 (fun e' => hd185 e')).lt; omega)
            have hd226 : ¬ A216 = some ⟨g9, 0, none⟩ := fun e' => (hN221 g9 e').elim (fun h => hd211 (h.trans e')) (fun h => by have := ((((((hm83).lo hk163).lo hk169).kp hk179 (fun e' => by have := ((hO170)).base_le e'; omega)).lo hk193).kp hk204 (fun e' => hd186 e')).lt; omega)
            have hd229 : ¬ A216 = some ⟨g64, 0, none⟩ := fun e' => (hN221 g64 e').elim (fun h => hd214 (h.trans e')) (fun h => by have := ((((((hb77).lo hk163).lo hk169).kp hk179 (fun e' => by have := ((hO170)).base_le e'; omega)).lo hk193).kp hk204 (fun e' => hd189 e')).lt; omega)
            refine SR.nil ⟨hS224, _, rfl, ?_⟩
            refine AH.take 16 rfl (by kernel_rfl) trivial (hS224) (fun w' hw' => r_fa fa31_1 rfl) <| AH.br [17] (by kernel_rfl) rfl ⟨Br.mk' rfl trivial ?_, trivial⟩
            refine SR.store (o := 1) (vs := [.slice A216 (((0 + k) + 1) + (nx_Away - k)) c217]) sca29.2 rfl rfl rfl rfl (((((((hb77).lo hk163).lo hk169).kp hk179 (fun e' => by have := ((hO170)).base_le e'; omega)).lo hk193).kp hk204 (fun e' => hd189 e')).kp hk219 (fun e' => hd214 e')) (Nat.le_of_ble_eq_true rfl) rfl ?_
            intro w231 hk232 hs233 hb234
            have hz235 := hk232.size
            have hB236 := hB223.new hk232 (by omega)
            have hS237 := (hS224).step hk232 (fun _ _ e => e)
            refine SR.nil ⟨hS237, _, rfl, ?_⟩
            refine AH.done (by kernel_rfl) ?_
            exact ⟨g166, A201, c202, A216, c217, A176, c177, g190, ⟨rfl, rfl, trivial⟩, hS237, (((hO220).kp hk232 (fun b_ hb e' => hd229 (by have e'' : b_ = g64 := e'; rw [← e'']; exact hb))).down (by omega)), (hb234), (fun b_ h h' => by have h1 := ((hO220).kp hk232 (fun b_ hb e' => hd229 (by have e'' : b_ = g64 := e'; rw [← e'']; exact hb))).base_le h; have h2 := ((hm84).lo hk163).base_le h'; omega), (fun b_ h h' => by have h1 := ((hO220).kp hk232 (fun b_ hb e' => hd229 (by have e'' : b_ = g64 := e'; rw [← e'']; exact hb))).base_le h; have h2 := ((hm85).lo hk163).base_le h'; omega)⟩
          · refine SR.lit (vs := [.agg (List.toArray [.int .i64 id, .int .i64 r])]) (L := ([(⟨id, r⟩ : Away)] : List Away)) (enc := encAway) tel29 (fun _ => rfl) rfl rfl rfl (by decide) ?_
            intro g242 w243 hg244 hk245 hO246
            have hz247 := hk245.size
            have hB248 := hB172.lo hk245
            have hS249 := (hS173).lo hk245
            have hd250 : ¬ A49 = some ⟨g242, 0, none⟩ := fun e' => by have := (((hm84).lo hk163).lo hk169).base_le e'; omega
            have hd251 : ¬ A53 = some ⟨g242, 0, none⟩ := fun e' => by have := (((hm85).lo hk163).lo hk169).base_le e'; omega
            have hd252 : ¬ (some (⟨g166, 0, none⟩ : Addr)) = some ⟨g242, 0, none⟩ := fun e' => by have := (hO170).base_le e'; omega
            refine SR.nil ⟨hS249, _, rfl, ?_⟩
            refine AH.br [5] (by kernel_rfl) rfl ⟨Br.mk' rfl trivial ?_, trivial⟩
            refine SR.app tel29 rfl rfl ((hO170).lo hk245) (((((hm82).head (h := k) (by omega)).lo hk163).lo hk169).lo hk245) (fun _ => rfl) (by omega) (by omega) ?_
            intro A253 c254 w255 hk256 hO257 hN258
            have hz259 := hk256.size
            have hB260 := hB248.step hk256 (fun i_ hi_ e' => by have := (((hO170).lo hk245)).base_le e'; first | omega | (exfalso; omega) | exact e' | exact .inl e' | exact .inr e')
            have hS261 := (hS249).step hk256 (fun i_ hi_ e' => by have := (((hO170).lo hk245)).base_le e'; exfalso; omega)
            rw [List.nil_append] at hO257
            have hd262 : ¬ A253 = some ⟨g1, 0, none⟩ := fun e' => (hN258 g1 e').elim (fun h => by have := ((hO170).lo hk245).base_le (h.trans e'); omega) (fun h => by have := ((((hm80).lo hk163).lo hk169).lo hk245).lt; omega)
            have hd263 : ¬ A253 = some ⟨g9, 0, none⟩ := fun e' => (hN258 g9 e').elim (fun h => by have := ((hO170).lo hk245).base_le (h.trans e'); omega) (fun h => by have := ((((hm83).lo hk163).lo hk169).lo hk245).lt; omega)
            have hd266 : ¬ A253 = some ⟨g64, 0, none⟩ := fun e' => (hN258 g64 e').elim (fun h => by have := ((hO170).lo hk245).base_le (h.trans e'); omega) (fun h => by have := ((((hb77).lo hk163).lo hk169).lo hk245).lt; omega)
            refine SR.nil ⟨hS261, _, rfl, ?_⟩
            refine AH.br [10] (by kernel_rfl) rfl ⟨Br.mk' rfl trivial ?_, trivial⟩
            refine SR.app tel29 rfl rfl (hO257) (((hO246).kp hk256 (fun b_ hb e' => hd252 (hb ▸ e'))).rd) (fun _ => rfl) (by omega) (by omega) ?_
            intro A268 c269 w270 hk271 hO272 hN273
            have hz274 := hk271.size
            have hB275 := hB260.step hk271 (fun i_ hi_ e' => by have := ((hO257)).base_le e'; first | omega | (exfalso; omega) | exact e' | exact .inl e' | exact .inr e')
            have hS276 := (hS261).step hk271 (fun i_ hi_ e' => by have := ((hO257)).base_le e'; exfalso; omega)
            have hd277 : ¬ A268 = some ⟨g1, 0, none⟩ := fun e' => (hN273 g1 e').elim (fun h => hd262 (h.trans e')) (fun h => by have := (((((hm80).lo hk163).lo hk169).lo hk245).kp hk256 (fun e' => by have := (((hO170).lo hk245)).base_le e'; omega)).lt; omega)
            have hd278 : ¬ A268 = some ⟨g9, 0, none⟩ := fun e' => (hN273 g9 e').elim (fun h => hd263 (h.trans e')) (fun h => by have := (((((hm83).lo hk163).lo hk169).lo hk245).kp hk256 (fun e' => by have := (((hO170).lo hk245)).base_le e'; omega)).lt; omega)
            have hd281 : ¬ A268 = some ⟨g64, 0, none⟩ := fun e' => (hN273 g64 e').elim (fun h => hd266 (h.trans e')) (fun h => by have := (((((hb77).lo hk163).lo hk169).lo hk245).kp hk256 (fun e' => by have := (((hO170).lo hk245)).base_le e'; omega)).lt; omega)
            refine SR.nil ⟨hS276, _, rfl, ?_⟩
            refine AH.br [15] (by kernel_rfl) rfl ⟨Br.mk' rfl trivial ?_, trivial⟩
            refine SR.app tel29 rfl rfl (hO272) (((((((hm82).cutl (l := k) (by omega)).lo hk163).lo hk169).lo hk245).kp hk256 (fun b_ hb e' => by have := (((hO170).lo hk245)).base_le e'; omega)).kp hk271 (fun b_ hb e' => by have := ((hO257)).base_le e'; omega)) (fun _ => rfl) (by omega) (by omega) ?_
            intro A283 c284 w285 hk286 hO287 hN288
            have hz289 := hk286.size
            have hB290 := hB275.step hk286 (fun i_ hi_ e' => by have := ((hO272)).base_le e'; first | omega | (exfalso; omega) | exact e' | exact .inl e' | exact .inr e')
            have hS291 := (hS276).step hk286 (fun i_ hi_ e' => by have := ((hO272)).base_le e'; exfalso; omega)
            have hd292 : ¬ A283 = some ⟨g1, 0, none⟩ := fun e' => (hN288 g1 e').elim (fun h => hd277 (h.trans e')) (fun h => by have := ((((((hm80).lo hk163).lo hk169).lo hk245).kp hk256 (fun e' => by have := (((hO170).lo hk245)).base_le e'; omega)).kp hk271 (fun e' => hd262 e')).lt; omega)
            have hd293 : ¬ A283 = some ⟨g9, 0, none⟩ := fun e' => (hN288 g9 e').elim (fun h => hd278 (h.trans e')) (fun h => by have := ((((((hm83).lo hk163).lo hk169).lo hk245).kp hk256 (fun e' => by have := (((hO170).lo hk245)).base_le e'; omega)).kp hk271 (fun e' => hd263 e')).lt; omega)
            have hd296 : ¬ A283 = some ⟨g64, 0, none⟩ := fun e' => (hN288 g64 e').elim (fun h => hd281 (h.trans e')) (fun h => by have := ((((((hb77).lo hk163).lo hk169).lo hk245).kp hk256 (fun e' => by have := (((hO170).lo hk245)).base_le e'; omega)).kp hk271 (fun e' => hd266 e')).lt; omega)
            refine SR.nil ⟨hS291, _, rfl, ?_⟩
            refine AH.take 16 rfl (by kernel_rfl) trivial (hS291) (fun w' hw' => r_fa fa31_1 rfl) <| AH.br [17] (by kernel_rfl) rfl ⟨Br.mk' rfl trivial ?_, trivial⟩
            refine SR.store (o := 1) (vs := [.slice A283 (((0 + k) + 1) + (nx_Away - k)) c284]) sca29.2 rfl rfl rfl rfl (((((((hb77).lo hk163).lo hk169).lo hk245).kp hk256 (fun e' => by have := (((hO170).lo hk245)).base_le e'; omega)).kp hk271 (fun e' => hd266 e')).kp hk286 (fun e' => hd281 e')) (Nat.le_of_ble_eq_true rfl) rfl ?_
            intro w298 hk299 hs300 hb301
            have hz302 := hk299.size
            have hB303 := hB290.new hk299 (by omega)
            have hS304 := (hS291).step hk299 (fun _ _ e => e)
            refine SR.nil ⟨hS304, _, rfl, ?_⟩
            refine AH.done (by kernel_rfl) ?_
            exact ⟨g166, A268, c269, A283, c284, A253, c254, g242, ⟨rfl, rfl, trivial⟩, hS304, (((hO287).kp hk299 (fun b_ hb e' => hd296 (by have e'' : b_ = g64 := e'; rw [← e'']; exact hb))).down (by omega)), (hb301), (fun b_ h h' => by have h1 := ((hO287).kp hk299 (fun b_ hb e' => hd296 (by have e'' : b_ = g64 := e'; rw [← e'']; exact hb))).base_le h; have h2 := ((hm84).lo hk163).base_le h'; omega), (fun b_ h h' => by have h1 := ((hO287).kp hk299 (fun b_ hb e' => hd296 (by have e'' : b_ = g64 := e'; rw [← e'']; exact hb))).base_le h; have h2 := ((hm85).lo hk163).base_le h'; omega)⟩
        · refine SR.lit (vs := [.agg (List.toArray [.int .i64 id, .int .i64 r])]) (L := ([(⟨id, r⟩ : Away)] : List Away)) (enc := encAway) tel29 (fun _ => rfl) rfl rfl rfl (by decide) ?_
          intro g307 w308 hg309 hk310 hO311
          have hz312 := hk310.size
          have hB313 := hB165.lo hk310
          have hS314 := ((Kp.refl w74 : Kp (fun b_ => b_ = g64) w74 w74).lo hk163).lo hk310
          have hd315 : ¬ A49 = some ⟨g307, 0, none⟩ := fun e' => by have := ((hm84).lo hk163).base_le e'; omega
          have hd316 : ¬ A53 = some ⟨g307, 0, none⟩ := fun e' => by have := ((hm85).lo hk163).base_le e'; omega
          refine SR.nil ⟨hS314, _, rfl, ?_⟩
          refine AH.br [0] (by kernel_rfl) rfl ⟨Br.mk' rfl trivial ?_, trivial⟩
          refine SR.lit (vs := []) (L := ([] : List Away)) (enc := encAway) tel29 (fun _ => rfl) rfl rfl rfl (by decide) ?_
          intro g317 w318 hg319 hk320 hO321
          have hz322 := hk320.size
          have hB323 := hB313.lo hk320
          have hS324 := (hS314).lo hk320
          have hd325 : ¬ A49 = some ⟨g317, 0, none⟩ := fun e' => by have := (((hm84).lo hk163).lo hk310).base_le e'; omega
          have hd326 : ¬ A53 = some ⟨g317, 0, none⟩ := fun e' => by have := (((hm85).lo hk163).lo hk310).base_le e'; omega
          have hd327 : ¬ (some (⟨g307, 0, none⟩ : Addr)) = some ⟨g317, 0, none⟩ := fun e' => by have := (hO311).base_le e'; omega
          refine SR.nil ⟨hS324, _, rfl, ?_⟩
          refine AH.br [5] (by kernel_rfl) rfl ⟨Br.mk' rfl trivial ?_, trivial⟩
          refine SR.app tel29 rfl rfl (hO321) (((((hm82).head (h := k) (by omega)).lo hk163).lo hk310).lo hk320) (fun _ => rfl) (by omega) (by omega) ?_
          intro A328 c329 w330 hk331 hO332 hN333
          have hz334 := hk331.size
          have hB335 := hB323.step hk331 (fun i_ hi_ e' => by have := ((hO321)).base_le e'; first | omega | (exfalso; omega) | exact e' | exact .inl e' | exact .inr e')
          have hS336 := (hS324).step hk331 (fun i_ hi_ e' => by have := ((hO321)).base_le e'; exfalso; omega)
          rw [List.nil_append] at hO332
          have hd337 : ¬ A328 = some ⟨g1, 0, none⟩ := fun e' => (hN333 g1 e').elim (fun h => by have := (hO321).base_le (h.trans e'); omega) (fun h => by have := ((((hm80).lo hk163).lo hk310).lo hk320).lt; omega)
          have hd338 : ¬ A328 = some ⟨g9, 0, none⟩ := fun e' => (hN333 g9 e').elim (fun h => by have := (hO321).base_le (h.trans e'); omega) (fun h => by have := ((((hm83).lo hk163).lo hk310).lo hk320).lt; omega)
          have hd341 : ¬ A328 = some ⟨g64, 0, none⟩ := fun e' => (hN333 g64 e').elim (fun h => by have := (hO321).base_le (h.trans e'); omega) (fun h => by have := ((((hb77).lo hk163).lo hk310).lo hk320).lt; omega)
          refine SR.nil ⟨hS336, _, rfl, ?_⟩
          refine AH.br [10] (by kernel_rfl) rfl ⟨Br.mk' rfl trivial ?_, trivial⟩
          refine SR.app tel29 rfl rfl (hO332) ((((hO311).lo hk320).kp hk331 (fun b_ hb e' => by have h1 := ((hO321)).base_le e'; have h2 := ((hO311).lo hk320).base_le hb; have h3 := (hO311).base_le hb; omega)).rd) (fun _ => rfl) (by omega) (by omega) ?_
          intro A343 c344 w345 hk346 hO347 hN348
          have hz349 := hk346.size
          have hB350 := hB335.step hk346 (fun i_ hi_ e' => by have := ((hO332)).base_le e'; first | omega | (exfalso; omega) | exact e' | exact .inl e' | exact .inr e')
          have hS351 := (hS336).step hk346 (fun i_ hi_ e' => by have := ((hO332)).base_le e'; exfalso; omega)
          have hd352 : ¬ A343 = some ⟨g1, 0, none⟩ := fun e' => (hN348 g1 e').elim (fun h => hd337 (h.trans e')) (fun h => by have := (((((hm80).lo hk163).lo hk310).lo hk320).kp hk331 (fun e' => by have := ((hO321)).base_le e'; omega)).lt; omega)
          have hd353 : ¬ A343 = some ⟨g9, 0, none⟩ := fun e' => (hN348 g9 e').elim (fun h => hd338 (h.trans e')) (fun h => by have := (((((hm83).lo hk163).lo hk310).lo hk320).kp hk331 (fun e' => by have := ((hO321)).base_le e'; omega)).lt; omega)
          have hd356 : ¬ A343 = some ⟨g64, 0, none⟩ := fun e' => (hN348 g64 e').elim (fun h => hd341 (h.trans e')) (fun h => by have := (((((hb77).lo hk163).lo hk310).lo hk320).kp hk331 (fun e' => by have := ((hO321)).base_le e'; omega)).lt; omega)
          refine SR.nil ⟨hS351, _, rfl, ?_⟩
          refine AH.br [15] (by kernel_rfl) rfl ⟨Br.mk' rfl trivial ?_, trivial⟩
          refine SR.app tel29 rfl rfl (hO347) (((((((hm82).cutl (l := k) (by omega)).lo hk163).lo hk310).lo hk320).kp hk331 (fun b_ hb e' => by have := ((hO321)).base_le e'; omega)).kp hk346 (fun b_ hb e' => by have := ((hO332)).base_le e'; omega)) (fun _ => rfl) (by omega) (by omega) ?_
          intro A358 c359 w360 hk361 hO362 hN363
          have hz364 := hk361.size
          have hB365 := hB350.step hk361 (fun i_ hi_ e' => by have := ((hO347)).base_le e'; first | omega | (exfalso; omega) | exact e' | exact .inl e' | exact .inr e')
          have hS366 := (hS351).step hk361 (fun i_ hi_ e' => by have := ((hO347)).base_le e'; exfalso; omega)
          have hd367 : ¬ A358 = some ⟨g1, 0, none⟩ := fun e' => (hN363 g1 e').elim (fun h => hd352 (h.trans e')) (fun h => by have := ((((((hm80).lo hk163).lo hk310).lo hk320).kp hk331 (fun e' => by have := ((hO321)).base_le e'; omega)).kp hk346 (fun e' => hd337 e')).lt; omega)
          have hd368 : ¬ A358 = some ⟨g9, 0, none⟩ := fun e' => (hN363 g9 e').elim (fun h => hd353 (h.trans e')) (fun h => by have := ((((((hm83).lo hk163).lo hk310).lo hk320).kp hk331 (fun e' => by have := ((hO321)).base_le e'; omega)).kp hk346 (fun e' => hd338 e')).lt; omega)
          have hd371 : ¬ A358 = some ⟨g64, 0, none⟩ := fun e' => (hN363 g64 e').elim (fun h => hd356 (h.trans e')) (fun h => by have := ((((((hb77).lo hk163).lo hk310).lo hk320).kp hk331 (fun e' => by have := ((hO321)).base_le e'; omega)).kp hk346 (fun e' => hd341 e')).lt; omega)
          refine SR.nil ⟨hS366, _, rfl, ?_⟩
          refine AH.take 16 rfl (by kernel_rfl) trivial (hS366) (fun w' hw' => r_fa fa31_1 rfl) <| AH.br [17] (by kernel_rfl) rfl ⟨Br.mk' rfl trivial ?_, trivial⟩
          refine SR.store (o := 1) (vs := [.slice A358 (((0 + k) + 1) + (nx_Away - k)) c359]) sca29.2 rfl rfl rfl rfl (((((((hb77).lo hk163).lo hk310).lo hk320).kp hk331 (fun e' => by have := ((hO321)).base_le e'; omega)).kp hk346 (fun e' => hd341 e')).kp hk361 (fun e' => hd356 e')) (Nat.le_of_ble_eq_true rfl) rfl ?_
          intro w373 hk374 hs375 hb376
          have hz377 := hk374.size
          have hB378 := hB365.new hk374 (by omega)
          have hS379 := (hS366).step hk374 (fun _ _ e => e)
          refine SR.nil ⟨hS379, _, rfl, ?_⟩
          refine AH.done (by kernel_rfl) ?_
          exact ⟨g317, A343, c344, A358, c359, A328, c329, g307, ⟨rfl, rfl, trivial⟩, hS379, (((hO362).kp hk374 (fun b_ hb e' => hd371 (by have e'' : b_ = g64 := e'; rw [← e'']; exact hb))).down (by omega)), (hb376), (fun b_ h h' => by have h1 := ((hO362).kp hk374 (fun b_ hb e' => hd371 (by have e'' : b_ = g64 := e'; rw [← e'']; exact hb))).base_le h; have h2 := (((hm84).lo hk163).lo hk310).base_le h'; omega), (fun b_ h h' => by have h1 := ((hO362).kp hk374 (fun b_ hb e' => hd371 (by have e'' : b_ = g64 := e'; rw [← e'']; exact hb))).base_le h; have h2 := (((hm85).lo hk163).lo hk310).base_le h'; omega)⟩
      rintro f382 w383 ⟨g166, A201, c202, A216, c217, A176, c177, g190, hat385, hR384, hm238, hm239, hd240, hd241⟩
      rw [← sets_of_at hat385]
      have hz386 := hR384.size
      have hB387 := hB79.new hR384 (by omega)
      refine W.seq ?_
      refine W.regS (SR.q' (r_lda (l := [.slice A49 n50 c51, .slice A216 (((0 + k) + 1) + (nx_Away - k)) c217, .int .i64 x.Bought, .int .i64 x.Dropped, .int .i64 x.Mended]) agg31 rfl (fun _ _ hu => (hm239).cell hu) rfl) <| SR.store (o := 0) (vs := [.slice A49 n50 c51, .slice A216 (((0 + k) + 1) + (nx_Away - k)) c217, .int .i64 x.Bought, .int .i64 x.Dropped, .int .i64 x.Mended]) agg31.2 rfl rfl rfl rfl ((hm83).kp hR384 (fun e' => by have e'' : g9 = g64 := e'; omega)) (Nat.le_of_ble_eq_true rfl) rfl ?_)
      intro w388 hk389 hs390 hb391
      have hz392 := hk389.size
      have hB393 := hB387.new hk389 (by omega)
      refine SR.nil ?_
      refine W.ret ?_
      refine retC rfl rfl agg31 (hb391) rfl ?_
      exact ⟨A49, n50, c51, A216, ((0 + k) + 1) + (nx_Away - k), c217, eR (eA (eC rfl (eC rfl (eC (eI (z_c_spec_l32Gone_396 x nx_Maps hbdx_Maps hlex_Maps nx_Away hbdx_Away hlex_Away id r hp0 hp1 k hi28 h42 n50 hl60 hl61 n54 hl62 hl63)) (eC (eI (z_c_spec_l32Gone_397 x nx_Maps hbdx_Maps hlex_Maps nx_Away hbdx_Away hlex_Away id r hp0 hp1 k hi28 h42 n50 hl60 hl61 n54 hl62 hl63)) (eC (eI (z_c_spec_l32Gone_398 x nx_Maps hbdx_Maps hlex_Maps nx_Away hbdx_Away hlex_Away id r hp0 hp1 k hi28 h42 n50 hl60 hl61 n54 hl62 hl63)) rfl)))))), (SlO.eqv ((((hm84).kp hR384 (fun b_ hb e' => hd72 (by have e'' : b_ = g64 := e'; rw [← e'']; exact hb))).kp hk389 (fun b_ hb e' => by have e'' : b_ = g9 := e'; have := ((hm84).kp hR384 (fun b_ hb e' => hd72 (by have e'' : b_ = g64 := e'; rw [← e'']; exact hb))).base_le hb; omega)).down (by omega)) (z_c_spec_l32Gone_394 x nx_Maps hbdx_Maps hlex_Maps nx_Away hbdx_Away hlex_Away id r hp0 hp1 k hi28 h42 n50 hl60 hl61 n54 hl62 hl63)), (SlO.eqv (((hm238).kp hk389 (fun b_ hb e' => by have e'' : b_ = g9 := e'; have := (hm238).base_le hb; omega)).down (by omega)) (z_c_spec_l32Gone_395 x nx_Maps hbdx_Maps hlex_Maps nx_Away hbdx_Away hlex_Away id r hp0 hp1 k hi28 h42 n50 hl60 hl61 n54 hl62 hl63)), (fun b_ h h' => hd240 b_ h' h), hB393⟩

theorem z_c_spec_l32Back_152 (x : Library) (nx_Maps : Nat) (hbdx_Maps : (nx_Maps : Int) ≤ 9223372036854775807) (hlex_Maps : nx_Maps = x.Maps.length) (nx_Away : Nat) (hbdx_Away : (nx_Away : Int) ≤ 9223372036854775807) (hlex_Away : nx_Away = x.Away.length) (a : Int) (hp0 : (nx_Maps : Int) ≤ 100) (hp1 : (nx_Away : Int) ≤ 100) (hp2 : 0 ≤ a ∧ a < (nx_Away : Int)) (n22 : Nat) (hl32 : n22 = (x.Maps).length) (hl33 : (n22 : Int) ≤ 9223372036854775807) (n26 : Nat) (hl34 : n26 = (x.Away).length) (hl35 : (n26 : Int) ≤ 9223372036854775807) : x.Maps = (backN x a).Maps := by
  first | rfl | (unfold backN delAt; dsimp only; first | rfl | (rw [show (a + 1).toNat = a.toNat + 1 by omega]; done) | (rw [show (a + 1).toNat = a.toNat + 1 by omega, List.nil_append]))
theorem z_c_spec_l32Back_153 (x : Library) (nx_Maps : Nat) (hbdx_Maps : (nx_Maps : Int) ≤ 9223372036854775807) (hlex_Maps : nx_Maps = x.Maps.length) (nx_Away : Nat) (hbdx_Away : (nx_Away : Int) ≤ 9223372036854775807) (hlex_Away : nx_Away = x.Away.length) (a : Int) (hp0 : (nx_Maps : Int) ≤ 100) (hp1 : (nx_Away : Int) ≤ 100) (hp2 : 0 ≤ a ∧ a < (nx_Away : Int)) (n22 : Nat) (hl32 : n22 = (x.Maps).length) (hl33 : (n22 : Int) ≤ 9223372036854775807) (n26 : Nat) (hl34 : n26 = (x.Away).length) (hl35 : (n26 : Int) ≤ 9223372036854775807) : (x.Away.take a.toNat) ++ (x.Away.drop ((a + 1).toNat)) = (backN x a).Away := by
  first | rfl | (unfold backN delAt; dsimp only; first | rfl | (rw [show (a + 1).toNat = a.toNat + 1 by omega]; done) | (rw [show (a + 1).toNat = a.toNat + 1 by omega, List.nil_append]))
theorem z_c_spec_l32Back_154 (x : Library) (nx_Maps : Nat) (hbdx_Maps : (nx_Maps : Int) ≤ 9223372036854775807) (hlex_Maps : nx_Maps = x.Maps.length) (nx_Away : Nat) (hbdx_Away : (nx_Away : Int) ≤ 9223372036854775807) (hlex_Away : nx_Away = x.Away.length) (a : Int) (hp0 : (nx_Maps : Int) ≤ 100) (hp1 : (nx_Away : Int) ≤ 100) (hp2 : 0 ≤ a ∧ a < (nx_Away : Int)) (n22 : Nat) (hl32 : n22 = (x.Maps).length) (hl33 : (n22 : Int) ≤ 9223372036854775807) (n26 : Nat) (hl34 : n26 = (x.Away).length) (hl35 : (n26 : Int) ≤ 9223372036854775807) : x.Bought = (backN x a).Bought := by
  first | rfl | (unfold backN delAt; dsimp only; first | rfl | (rw [show (a + 1).toNat = a.toNat + 1 by omega]; done) | (rw [show (a + 1).toNat = a.toNat + 1 by omega, List.nil_append]))
theorem z_c_spec_l32Back_155 (x : Library) (nx_Maps : Nat) (hbdx_Maps : (nx_Maps : Int) ≤ 9223372036854775807) (hlex_Maps : nx_Maps = x.Maps.length) (nx_Away : Nat) (hbdx_Away : (nx_Away : Int) ≤ 9223372036854775807) (hlex_Away : nx_Away = x.Away.length) (a : Int) (hp0 : (nx_Maps : Int) ≤ 100) (hp1 : (nx_Away : Int) ≤ 100) (hp2 : 0 ≤ a ∧ a < (nx_Away : Int)) (n22 : Nat) (hl32 : n22 = (x.Maps).length) (hl33 : (n22 : Int) ≤ 9223372036854775807) (n26 : Nat) (hl34 : n26 = (x.Away).length) (hl35 : (n26 : Int) ≤ 9223372036854775807) : x.Dropped = (backN x a).Dropped := by
  first | rfl | (unfold backN delAt; dsimp only; first | rfl | (rw [show (a + 1).toNat = a.toNat + 1 by omega]; done) | (rw [show (a + 1).toNat = a.toNat + 1 by omega, List.nil_append]))
theorem z_c_spec_l32Back_156 (x : Library) (nx_Maps : Nat) (hbdx_Maps : (nx_Maps : Int) ≤ 9223372036854775807) (hlex_Maps : nx_Maps = x.Maps.length) (nx_Away : Nat) (hbdx_Away : (nx_Away : Int) ≤ 9223372036854775807) (hlex_Away : nx_Away = x.Away.length) (a : Int) (hp0 : (nx_Maps : Int) ≤ 100) (hp1 : (nx_Away : Int) ≤ 100) (hp2 : 0 ≤ a ∧ a < (nx_Away : Int)) (n22 : Nat) (hl32 : n22 = (x.Maps).length) (hl33 : (n22 : Int) ≤ 9223372036854775807) (n26 : Nat) (hl34 : n26 = (x.Away).length) (hl35 : (n26 : Int) ≤ 9223372036854775807) : x.Mended = (backN x a).Mended := by
  first | rfl | (unfold backN delAt; dsimp only; first | rfl | (rw [show (a + 1).toNat = a.toNat + 1 by omega]; done) | (rw [show (a + 1).toNat = a.toNat + 1 by omega, List.nil_append]))
theorem c_spec_l32Back (w : World) (x : Library) {Ax_Maps : Option Addr} {nx_Maps cx_Maps Bx_Maps : Nat} (hx_Maps : SlR w Bx_Maps encLMap 3 Ax_Maps nx_Maps cx_Maps x.Maps) {Ax_Away : Option Addr} {nx_Away cx_Away Bx_Away : Nat} (hx_Away : SlR w Bx_Away encAway 2 Ax_Away nx_Away cx_Away x.Away) (a : Int) (hp0 : (nx_Maps : Int) ≤ 100) (hp1 : (nx_Away : Int) ≤ 100) (hp2 : 0 ≤ a ∧ a < (nx_Away : Int)) : Calls Try.prog 106 #[.agg (List.toArray [.slice Ax_Maps nx_Maps cx_Maps, .slice Ax_Away nx_Away cx_Away, .int .i64 x.Bought, .int .i64 x.Dropped, .int .i64 x.Mended]), .int .i64 a] w fun e w' => ∃ (A1' : Option Addr) (n1' c1' : Nat) (A2' : Option Addr) (n2' c2' : Nat), e = .returned (.agg (List.toArray [.slice A1' n1' c1', .slice A2' n2' c2', .int .i64 ((backN x a).Bought), .int .i64 ((backN x a).Dropped), .int .i64 ((backN x a).Mended)])) ∧ SlO w' w.heap.size encLMap 3 73 A1' n1' c1' ((backN x a).Maps) ∧ SlO w' w.heap.size encAway 2 77 A2' n2' c2' ((backN x a).Away) ∧ (∀ b_, A1' = some ⟨b_, 0, none⟩ → ¬ A2' = some ⟨b_, 0, none⟩) ∧ Lo w w' := by
  refine calls_W 22 Try.func106 rfl rfl rfl ?_
  have hbdx_Maps := hx_Maps.bound
  have hlex_Maps := hx_Maps.len
  have hBbx_Maps := hx_Maps.bd
  have hbdx_Away := hx_Away.bound
  have hlex_Away := hx_Away.len
  have hBbx_Away := hx_Away.bd
  refine W.seq ?_
  refine W.regS (SR.box (v := .agg (List.toArray _)) (l := [.slice Ax_Maps nx_Maps cx_Maps, .slice Ax_Away nx_Away cx_Away, .int .i64 x.Bought, .int .i64 x.Dropped, .int .i64 x.Mended]) rfl rfl ?_)
  intro g1 w2 hg3 hk4 hs5 hb6
  have hz7 := hk4.size
  have hB8 := (Lo.refl w).lo hk4
  refine SR.alloc (l := [.slice none 0 0, .slice none 0 0, .int .i64 0, .int .i64 0, .int .i64 0]) tz31 rfl ?_
  intro g9 w10 hg11 hk12 hs13 hb14
  have hz15 := hk12.size
  have hB16 := hB8.lo hk12
  refine SR.nil ?_
  refine W.seq ?_
  have hm17 := ((hx_Maps).lo hk4).lo hk12
  have hm18 := ((hx_Away).lo hk4).lo hk12
  refine W.regS (SR.q' (r_lda (l := [.slice Ax_Maps nx_Maps cx_Maps, .slice Ax_Away nx_Away cx_Away, .int .i64 x.Bought, .int .i64 x.Dropped, .int .i64 x.Mended]) agg31 rfl (fun _ _ hu => ((hb6).lo hk12).cell hu) rfl) <| SR.call ent79 (c_spec_l32Own w10 x ((hm17)) ((hm18)) (by omega) (by omega)) rfl ?_)
  rintro e w19 ⟨A21, n22, c23, A25, n26, c27, rfl, hO24, hO28, hd29, hk20⟩
  refine ⟨_, rfl, ?_⟩
  have hz30 := hk20.size
  have hB31 := hB16.lo hk20
  have hl32 := hO24.len
  have hl33 := hO24.rd.bound
  have hl34 := hO28.len
  have hl35 := hO28.rd.bound
  refine SR.alloc (l := [.slice none 0 0, .slice none 0 0, .int .i64 0, .int .i64 0, .int .i64 0]) tz31 rfl ?_
  intro g36 w37 hg38 hk39 hs40 hb41
  have hz42 := hk39.size
  have hB43 := hB31.lo hk39
  have hd44 : ¬ A21 = some ⟨g36, 0, none⟩ := fun e' => by have := (hO24).base_le e'; omega
  have hd45 : ¬ A25 = some ⟨g36, 0, none⟩ := fun e' => by have := (hO28).base_le e'; omega
  refine SR.store (o := 0) (vs := [.slice A21 n22 c23, .slice A25 n26 c27, .int .i64 x.Bought, .int .i64 x.Dropped, .int .i64 x.Mended]) agg31.2 rfl rfl rfl rfl (hb41) (Nat.le_of_ble_eq_true rfl) rfl ?_
  intro w46 hk47 hs48 hb49
  have hz50 := hk47.size
  have hB51 := hB43.new hk47 (by omega)
  refine SR.nil ?_
  refine W.seq ?_
  have hm52 := ((((hb6).lo hk12).lo hk20).lo hk39).kp hk47 (fun e' => by have e'' : g1 = g36 := e'; omega)
  have hm53 := (((hm17).lo hk20).lo hk39).kp hk47 (fun b_ hb e' => by have e'' : b_ = g36 := e'; omega)
  have hm54 := (((hm18).lo hk20).lo hk39).kp hk47 (fun b_ hb e' => by have e'' : b_ = g36 := e'; omega)
  have hm55 := (((hb14).lo hk20).lo hk39).kp hk47 (fun e' => by have e'' : g9 = g36 := e'; omega)
  have hm56 := ((hO24).lo hk39).kp hk47 (fun b_ hb e' => hd44 (by have e'' : b_ = g36 := e'; rw [← e'']; exact hb))
  have hm57 := ((hO28).lo hk39).kp hk47 (fun b_ hb e' => hd45 (by have e'' : b_ = g36 := e'; rw [← e'']; exact hb))
  refine W.regA (Kp (fun b_ => b_ = g36) w46) (fun f' w' => ∃ (g101 : Nat), ∃ (A120 : Option Addr), ∃ (c121 : Nat), ∃ (A111 : Option Addr), ∃ (c112 : Nat), At f' [(4, .pointer (some ((⟨g9, 0, none⟩ : Addr)))), (5, .pointer (some ((⟨g36, 0, none⟩ : Addr))))] ∧ (Kp (fun b_ => b_ = g36) w46 w') ∧ (SlO w' w46.heap.size encAway 2 77 A120 ((0 + a.toNat) + (nx_Away - ((a + 1).toNat))) c121 ((x.Away.take a.toNat) ++ (x.Away.drop ((a + 1).toNat)))) ∧ (Blk w' g36 31 [.slice A21 n22 c23, .slice A120 ((0 + a.toNat) + (nx_Away - ((a + 1).toNat))) c121, .int .i64 x.Bought, .int .i64 x.Dropped, .int .i64 x.Mended]) ∧ (∀ b_, A120 = some ⟨b_, 0, none⟩ → ¬ A21 = some ⟨b_, 0, none⟩) ∧ (∀ b_, A120 = some ⟨b_, 0, none⟩ → ¬ A25 = some ⟨b_, 0, none⟩)) mo ?_ ?_
  · intro w97 hk98
    have hz99 := hk98.size
    have hB100 := hB51.lo hk98
    refine AH.take 1 rfl (by kernel_rfl) trivial ((Kp.refl w46 : Kp (fun b_ => b_ = g36) w46 w46).lo hk98) (fun w' hw' => r_fa fa31_1 rfl) <| AH.take 2 rfl (by kernel_rfl) trivial ((Kp.refl w46 : Kp (fun b_ => b_ = g36) w46 w46).lo hk98) (fun w' hw' => r_ld (v := .slice Ax_Away nx_Away cx_Away) sca29 rfl (((hm52).kp hw' (fun e' => by have e'' : g1 = g36 := e'; omega)).cell rfl)) <| AH.take 3 rfl (by kernel_rfl) trivial ((Kp.refl w46 : Kp (fun b_ => b_ = g36) w46 w46).lo hk98) (fun w' hw' => r_mv (v := .int .i64 _) rfl) <| AH.take 4 rfl (by kernel_rfl) trivial ((Kp.refl w46 : Kp (fun b_ => b_ = g36) w46 w46).lo hk98) (fun w' hw' => r_cuth (h := a.toNat) tsl29 rfl rfl (by omega) (Nat.le_trans (by omega : a.toNat ≤ nx_Away) (hm54).cap)) <| AH.take 6 rfl (by kernel_rfl) trivial ((Kp.refl w46 : Kp (fun b_ => b_ = g36) w46 w46).lo hk98) (fun w' hw' => r_fa fa31_1 rfl) <| AH.take 7 rfl (by kernel_rfl) trivial ((Kp.refl w46 : Kp (fun b_ => b_ = g36) w46 w46).lo hk98) (fun w' hw' => r_ld (v := .slice Ax_Away nx_Away cx_Away) sca29 rfl (((hm52).kp hw' (fun e' => by have e'' : g1 = g36 := e'; omega)).cell rfl)) <| AH.take 8 rfl (by kernel_rfl) trivial ((Kp.refl w46 : Kp (fun b_ => b_ = g36) w46 w46).lo hk98) (fun w' hw' => r_mv (v := .int .i64 _) rfl) <| AH.take 9 rfl (by kernel_rfl) trivial ((Kp.refl w46 : Kp (fun b_ => b_ = g36) w46 w46).lo hk98) (fun w' hw' => r_add rfl rfl (by omega)) <| AH.take 10 rfl (by kernel_rfl) trivial ((Kp.refl w46 : Kp (fun b_ => b_ = g36) w46 w46).lo hk98) (fun w' hw' => r_cutl (l := (a + 1).toNat) tsl29 rfl rfl (by omega) (by omega)) <| AH.br [0] (by kernel_rfl) rfl ⟨Br.mk' rfl trivial ?_, trivial⟩
    refine SR.lit (vs := []) (L := ([] : List Away)) (enc := encAway) tel29 (fun _ => rfl) rfl rfl rfl (by decide) ?_
    intro g101 w102 hg103 hk104 hO105
    have hz106 := hk104.size
    have hB107 := hB100.lo hk104
    have hS108 := ((Kp.refl w46 : Kp (fun b_ => b_ = g36) w46 w46).lo hk98).lo hk104
    have hd109 : ¬ A21 = some ⟨g101, 0, none⟩ := fun e' => by have := ((hm56).lo hk98).base_le e'; omega
    have hd110 : ¬ A25 = some ⟨g101, 0, none⟩ := fun e' => by have := ((hm57).lo hk98).base_le e'; omega
    refine SR.nil ⟨hS108, _, rfl, ?_⟩
    refine AH.br [5] (by kernel_rfl) rfl ⟨Br.mk' rfl trivial ?_, trivial⟩
    refine SR.app tel29 rfl rfl (hO105) ((((hm54).head (h := a.toNat) (by omega)).lo hk98).lo hk104) (fun _ => rfl) (by omega) (by omega) ?_
    intro A111 c112 w113 hk114 hO115 hN116
    have hz117 := hk114.size
    have hB118 := hB107.step hk114 (fun i_ hi_ e' => by have := ((hO105)).base_le e'; first | omega | (exfalso; omega) | exact e' | exact .inl e' | exact .inr e')
    have hS119 := (hS108).step hk114 (fun i_ hi_ e' => by have := ((hO105)).base_le e'; exfalso; omega)
    rw [List.nil_append] at hO115
    refine SR.nil ⟨hS119, _, rfl, ?_⟩
    refine AH.br [11] (by kernel_rfl) rfl ⟨Br.mk' rfl trivial ?_, trivial⟩
    refine SR.app tel29 rfl rfl (hO115) (((((hm54).cutl (l := (a + 1).toNat) (by omega)).lo hk98).lo hk104).kp hk114 (fun b_ hb e' => by have := ((hO105)).base_le e'; omega)) (fun _ => rfl) (by omega) (by omega) ?_
    intro A120 c121 w122 hk123 hO124 hN125
    have hz126 := hk123.size
    have hB127 := hB118.step hk123 (fun i_ hi_ e' => by have := ((hO115)).base_le e'; first | omega | (exfalso; omega) | exact e' | exact .inl e' | exact .inr e')
    have hS128 := (hS119).step hk123 (fun i_ hi_ e' => by have := ((hO115)).base_le e'; exfalso; omega)
    refine SR.nil ⟨hS128, _, rfl, ?_⟩
    refine AH.take 12 rfl (by kernel_rfl) trivial (hS128) (fun w' hw' => r_fa fa31_1 rfl) <| AH.br [13] (by kernel_rfl) rfl ⟨Br.mk' rfl trivial ?_, trivial⟩
    refine SR.store (o := 1) (vs := [.slice A120 ((0 + a.toNat) + (nx_Away - ((a + 1).toNat))) c121]) sca29.2 rfl rfl rfl rfl (((((hb49).lo hk98).lo hk104).kp hk114 (fun e' => by have := ((hO105)).base_le e'; omega)).kp hk123 (fun e' => by have := ((hO115)).base_le e'; omega)) (Nat.le_of_ble_eq_true rfl) rfl ?_
    intro w129 hk130 hs131 hb132
    have hz133 := hk130.size
    have hB134 := hB127.new hk130 (by omega)
    have hS135 := (hS128).step hk130 (fun _ _ e => e)
    refine SR.nil ⟨hS135, _, rfl, ?_⟩
    refine AH.done (by kernel_rfl) ?_
    exact ⟨g101, A120, c121, A111, c112, ⟨rfl, rfl, trivial⟩, hS135, (((hO124).kp hk130 (fun b_ hb e' => by have e'' : b_ = g36 := e'; have := (hO124).base_le hb; omega)).down (by omega)), (hb132), (fun b_ h h' => by have h1 := ((hO124).kp hk130 (fun b_ hb e' => by have e'' : b_ = g36 := e'; have := (hO124).base_le hb; omega)).base_le h; have h2 := ((hm56).lo hk98).base_le h'; omega), (fun b_ h h' => by have h1 := ((hO124).kp hk130 (fun b_ hb e' => by have e'' : b_ = g36 := e'; have := (hO124).base_le hb; omega)).base_le h; have h2 := ((hm57).lo hk98).base_le h'; omega)⟩
  rintro f140 w141 ⟨g101, A120, c121, A111, c112, hat143, hR142, hm136, hm137, hd138, hd139⟩
  rw [← sets_of_at hat143]
  have hz144 := hR142.size
  have hB145 := hB51.new hR142 (by omega)
  refine W.seq ?_
  refine W.regS (SR.q' (r_lda (l := [.slice A21 n22 c23, .slice A120 ((0 + a.toNat) + (nx_Away - ((a + 1).toNat))) c121, .int .i64 x.Bought, .int .i64 x.Dropped, .int .i64 x.Mended]) agg31 rfl (fun _ _ hu => (hm137).cell hu) rfl) <| SR.store (o := 0) (vs := [.slice A21 n22 c23, .slice A120 ((0 + a.toNat) + (nx_Away - ((a + 1).toNat))) c121, .int .i64 x.Bought, .int .i64 x.Dropped, .int .i64 x.Mended]) agg31.2 rfl rfl rfl rfl ((hm55).kp hR142 (fun e' => by have e'' : g9 = g36 := e'; omega)) (Nat.le_of_ble_eq_true rfl) rfl ?_)
  intro w146 hk147 hs148 hb149
  have hz150 := hk147.size
  have hB151 := hB145.new hk147 (by omega)
  refine SR.nil ?_
  refine W.ret ?_
  refine retC rfl rfl agg31 (hb149) rfl ?_
  exact ⟨A21, n22, c23, A120, (0 + a.toNat) + (nx_Away - ((a + 1).toNat)), c121, eR (eA (eC rfl (eC rfl (eC (eI (z_c_spec_l32Back_154 x nx_Maps hbdx_Maps hlex_Maps nx_Away hbdx_Away hlex_Away a hp0 hp1 hp2 n22 hl32 hl33 n26 hl34 hl35)) (eC (eI (z_c_spec_l32Back_155 x nx_Maps hbdx_Maps hlex_Maps nx_Away hbdx_Away hlex_Away a hp0 hp1 hp2 n22 hl32 hl33 n26 hl34 hl35)) (eC (eI (z_c_spec_l32Back_156 x nx_Maps hbdx_Maps hlex_Maps nx_Away hbdx_Away hlex_Away a hp0 hp1 hp2 n22 hl32 hl33 n26 hl34 hl35)) rfl)))))), (SlO.eqv ((((hm56).kp hR142 (fun b_ hb e' => hd44 (by have e'' : b_ = g36 := e'; rw [← e'']; exact hb))).kp hk147 (fun b_ hb e' => by have e'' : b_ = g9 := e'; have := ((hm56).kp hR142 (fun b_ hb e' => hd44 (by have e'' : b_ = g36 := e'; rw [← e'']; exact hb))).base_le hb; omega)).down (by omega)) (z_c_spec_l32Back_152 x nx_Maps hbdx_Maps hlex_Maps nx_Away hbdx_Away hlex_Away a hp0 hp1 hp2 n22 hl32 hl33 n26 hl34 hl35)), (SlO.eqv (((hm136).kp hk147 (fun b_ hb e' => by have e'' : b_ = g9 := e'; have := (hm136).base_le hb; omega)).down (by omega)) (z_c_spec_l32Back_153 x nx_Maps hbdx_Maps hlex_Maps nx_Away hbdx_Away hlex_Away a hp0 hp1 hp2 n22 hl32 hl33 n26 hl34 hl35)), (fun b_ h h' => hd138 b_ h' h), hB151⟩
end Go.Proofs.Ytbodnffjgmaloaa
