/- The text of a map. -/
import Derived.Test.YtgobbcilgcbkaaaDoorUa
import Derived.Test.YtgobbcilgcbkaaaDoorWa
namespace Go.Proofs.YtgobbcilgcbkaaaDoor
open Go Go.RowKit Fw
def textM (m : LMap) (n : Nat) : List UInt8 := Lib.itoa m.Copies ++ ([32, 116, 111, 114, 110, 32] : List UInt8) ++ Lib.itoa m.Torn ++ ([32, 97, 119, 97, 121, 32] : List UInt8) ++ Lib.itoa (n : Int)
noncomputable def mapT (x : Library) (id : Int) : List UInt8 × Bool :=
  if LibOK x ∧ 0 ≤ idxF (hasId id) x.Maps then (textM (gt x.Maps (idxF (hasId id) x.Maps).toNat) (selL (ofM id) Away.Reader x.Away).length, true) else ([], false)
/-- The text of the map at a place. -/
def textL (x : Library) (i : Int) : List UInt8 := textM (gt x.Maps i.toNat) (selL (ofM (gt x.Maps i.toNat).Id) Away.Reader x.Away).length
section
variable {x : Library} {id : Int} {m : LMap} {n : Nat}
theorem textM_len (h0 : 0 ≤ m.Copies ∧ m.Copies ≤ 99) (h1 : 0 ≤ m.Torn ∧ m.Torn ≤ m.Copies) (h2 : n ≤ 1000000) : (textM m n).length ≤ 75 := by
  have h3 := itoa_len (n := m.Copies) (by omega) (by omega)
  have h4 := itoa_len (n := m.Torn) (by omega) (by omega)
  have h5 := itoa_len (n := (n : Int)) (by omega) (by omega)
  unfold textM; simp only [List.length_append, List.length_cons, List.length_nil]; omega
theorem mapT_no (h : ¬ (LibOK x ∧ 0 ≤ idxF (hasId id) x.Maps)) : mapT x id = ([], false) := if_neg h
theorem mapT_yes (h : LibOK x ∧ 0 ≤ idxF (hasId id) x.Maps) : mapT x id = (textM (gt x.Maps (idxF (hasId id) x.Maps).toNat) (selL (ofM id) Away.Reader x.Away).length, true) := if_pos h
theorem map_at_id (h : 0 ≤ idxF (hasId id) x.Maps) : (gt x.Maps (idxF (hasId id) x.Maps).toNat).Id = id := by
  obtain ⟨y, hy, hq, _⟩ := idx_spec (p := hasId id) (L := x.Maps) rfl h
  rw [gt_eq hy]; simpa [hasId] using hq
theorem mapT_eqS (h : LibOK x ∧ 0 ≤ idxF (hasId id) x.Maps) : mapT x id = (textL x (idxF (hasId id) x.Maps), true) := by
  rw [mapT_yes h]; unfold textL; rw [map_at_id h.2]
theorem bsM_at (h : MapsOK x.Maps) (hf : bsF cmpM id x.Maps) : (bsP cmpM id x.Maps : Int) = idxF (hasId id) x.Maps := by
  obtain ⟨h1, h2⟩ := hf
  have hlt : bsP cmpM id x.Maps < x.Maps.length := by omega
  have hid : (gt x.Maps (bsP cmpM id x.Maps)).Id = id := cmpI_eq.1 h2
  refine idx_at (k := bsP cmpM id x.Maps) (fun j y hj hy => ?_) (gt_get hlt) (by simp [hasId, hid])
  have hjl := (List.getElem?_eq_some_iff.1 hy).1
  have := maps_lt h hj hlt
  rw [hid, gt_eq hy] at this
  simp only [hasId, decide_eq_false_iff_not]; omega
theorem mapT_eqI (hf : bsF cmpM id x.Maps) (hx : LibOK x) : mapT x id = (textM (gt x.Maps (bsP cmpM id x.Maps)) (selL (ofM id) Away.Reader x.Away).length, true) := by
  rw [mapT_yes (ro_yes hf hx), ← bsM_at hx.1.1 hf, Int.toNat_natCast]
theorem mapT_noI (h : (¬ (bsF cmpM id x.Maps)) ∨ (¬ (LibOK x))) : mapT x id = ([], false) := mapT_no (ro_no h)
theorem mapT_noS (h : (¬ (LibOK x)) ∨ (idxF (hasId id) x.Maps < 0)) : mapT x id = ([], false) := mapT_no (ro_noS h)
theorem mapT_len (x : Library) (id : Int) : (mapT x id).1.length ≤ 75 := by
  unfold mapT; split
  · rename_i h
    have hlt := (idx_lt (p := hasId id) (L := x.Maps)).1
    have hm := maps_at h.1.1.1 (show (idxF (hasId id) x.Maps).toNat < x.Maps.length by omega)
    refine textM_len hm.2.1 hm.2.2.1 ?_
    have := sel_len x.Away (ofM id) Away.Reader
    have := h.1.2.1.2
    omega
  · simp
theorem textL_len (h : LibOK x) {i : Int} (h0 : 0 ≤ i ∧ i < (x.Maps.length : Int)) : (textL x i).length ≤ 75 := by
  have hm := maps_at h.1.1 (show i.toNat < x.Maps.length by omega)
  refine textM_len hm.2.1 hm.2.2.1 ?_
  have := sel_len x.Away (ofM (gt x.Maps i.toNat).Id) Away.Reader
  have := h.2.1.2
  omega
end
end Go.Proofs.YtgobbcilgcbkaaaDoor
