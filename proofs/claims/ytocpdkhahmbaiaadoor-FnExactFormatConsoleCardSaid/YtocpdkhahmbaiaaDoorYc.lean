/- Plain words on consoles. -/
import Derived.Test.YtocpdkhahmbaiaaDoorUt
import Derived.Test.YtocpdkhahmbaiaaDoorWe
namespace Go.Proofs.YtocpdkhahmbaiaaDoor
open Go Go.RowKit Fw
@[ext] structure Console where
  Library : Library
  Log : Log
  deriving DecidableEq, Inhabited
def ConOK (c : Console) : Prop := LibOK c.Library ∧ LogOK c.Log
noncomputable instance (c : Console) : Decidable (ConOK c) := Classical.propDecidable _
/-- The lines of a console's maps. -/
def conT (c : Console) : Nat → List UInt8
  | 0 => []
  | k + 1 => conT c k ++ (Lib.itoa (gt c.Library.Maps k).Id ++ ([58, 32] : List UInt8) ++ textL c.Library (k : Int) ++ ([10] : List UInt8))
/-- What stands behind them. -/
def endT (x : Library) (n : Int) : List UInt8 :=
  ([98, 111, 117, 103, 104, 116, 32] : List UInt8) ++ Lib.itoa x.Bought ++ ([59, 32, 100, 114, 111, 112, 112, 101, 100, 32] : List UInt8) ++ Lib.itoa x.Dropped ++ ([59, 32, 109, 101, 110, 100, 101, 100, 32] : List UInt8) ++ Lib.itoa x.Mended ++ ([59, 32, 114, 101, 99, 111, 114, 100, 115, 32] : List UInt8) ++ Lib.itoa n ++ ([10] : List UInt8)
noncomputable def formC (c : Console) : List UInt8 × Bool := if ConOK c then (conT c c.Library.Maps.length ++ endT c.Library c.Log.Count, true) else ([], false)
section
variable {c : Console} {k : Nat}
theorem form_no (h : ¬ ConOK c) : formC c = ([], false) := if_neg h
theorem form_yes (h : ConOK c) (hk : k = c.Library.Maps.length) : formC c = (conT c k ++ endT c.Library c.Log.Count, true) := by subst hk; exact if_pos h
theorem idx_self (h : MapsOK c.Library.Maps) (hk : k < c.Library.Maps.length) : idxF (hasId (gt c.Library.Maps k).Id) c.Library.Maps = (k : Int) := by
  refine (idx_at (k := k) (fun j y hj hy => ?_) (gt_get hk) (by simp [hasId])).symm
  have := maps_lt h hj hk
  rw [gt_eq hy] at this
  simp only [hasId, decide_eq_false_iff_not]; omega
theorem line_eq (h : ConOK c) (hk : k < c.Library.Maps.length) : (mapT c.Library (gt c.Library.Maps k).Id).1 = textL c.Library (k : Int) := by
  have e := idx_self h.1.1.1 hk
  rw [mapT_eqS ⟨h.1, by omega⟩, e]
theorem con_next (h : ConOK c) (hk : k < c.Library.Maps.length) : conT c k ++ (Lib.itoa (gt c.Library.Maps k).Id ++ ([58, 32] : List UInt8) ++ (mapT c.Library (gt c.Library.Maps k).Id).1 ++ ([10] : List UInt8)) = conT c (k + 1) := by
  rw [line_eq h hk]; rfl
theorem con_nextS : conT c k ++ Lib.itoa (gt c.Library.Maps k).Id ++ ([58, 32] : List UInt8) ++ textL c.Library (k : Int) ++ ([10] : List UInt8) = conT c (k + 1) := by
  show _ = conT c k ++ _; simp only [List.append_assoc]
theorem con_len (h : ConOK c) : ∀ k, k ≤ c.Library.Maps.length → (conT c k).length ≤ 99 * k
  | 0, _ => Nat.le_refl _
  | k + 1, hk => by
    have h1 := con_len h k (by omega)
    have h2 := textL_len h.1 (i := (k : Int)) (by omega)
    have h3 := maps_at h.1.1.1 (show k < c.Library.Maps.length by omega)
    have h4 := itoa_len (n := (gt c.Library.Maps k).Id) (by omega) (by omega)
    show (conT c k ++ _).length ≤ _
    simp only [List.length_append, List.length_cons, List.length_nil]; omega
theorem con_end (c : Console) (k : Nat) : conT c k ++ ([98, 111, 117, 103, 104, 116, 32] : List UInt8) ++ Lib.itoa c.Library.Bought ++ ([59, 32, 100, 114, 111, 112, 112, 101, 100, 32] : List UInt8) ++ Lib.itoa c.Library.Dropped ++ ([59, 32, 109, 101, 110, 100, 101, 100, 32] : List UInt8) ++ Lib.itoa c.Library.Mended ++ ([59, 32, 114, 101, 99, 111, 114, 100, 115, 32] : List UInt8) ++ Lib.itoa c.Log.Count ++ ([10] : List UInt8) = conT c k ++ endT c.Library c.Log.Count := by
  unfold endT; simp only [List.append_assoc]
theorem lib_num {x : Library} (h : LibOK x) : (0 ≤ x.Bought ∧ x.Bought ≤ 9999) ∧ (0 ≤ x.Dropped ∧ x.Dropped ≤ 9999) ∧ (0 ≤ x.Mended ∧ x.Mended ≤ 9999) := ⟨h.2.2.1, h.2.2.2.1, h.2.2.2.2.1⟩
theorem con_rng (h : ConOK c) : c.Library.Maps.length ≤ 8 ∧ c.Library.Away.length ≤ 8 ∧ ((0 ≤ c.Library.Bought ∧ c.Library.Bought ≤ 9999) ∧ (0 ≤ c.Library.Dropped ∧ c.Library.Dropped ≤ 9999) ∧ (0 ≤ c.Library.Mended ∧ c.Library.Mended ≤ 9999)) ∧ 0 ≤ c.Log.Count ∧ c.Log.Count ≤ 60 :=
  ⟨h.1.1.2, h.1.2.1.2, lib_num h.1, (log_rng h.2).2⟩
end
end Go.Proofs.YtocpdkhahmbaiaaDoor
