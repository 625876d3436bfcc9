/- Draws of libraries and shelves: plain words. -/
import Derived.Test.YtgobbcilgcbkaaaDoorG32m
import Derived.Test.YtgobbcilgcbkaaaDoorUt
import Derived.Test.YtgobbcilgcbkaaaDoorDa
namespace Go.Proofs.YtgobbcilgcbkaaaDoor
open Go Go.RowKit Fw
/-- The maps of a library that was drawn. -/
def MapB (L : List LMap) : Prop := ∀ (k : Nat) (x : LMap), L[k]? = some x → (-100000 ≤ x.Copies ∧ x.Copies ≤ 100000) ∧ (-100000 ≤ x.Torn ∧ x.Torn ≤ 100000)
section
variable {x o y : Library} {S : List LibraryStep} {k n : Nat} {m : Int} {s : LibraryStep} {L : List LMap} {z : LMap}
theorem MapB.nil : MapB [] := fun k x h => by simp at h
theorem MapB.of (h : MapsOK L) : MapB L := fun k x hx => by
  have := maps_at h (List.getElem?_eq_some_iff.1 hx).1
  rw [gt_eq hx] at this; omega
theorem MapB.app (h : MapB L) (hz : (-100000 ≤ z.Copies ∧ z.Copies ≤ 100000) ∧ (-100000 ≤ z.Torn ∧ z.Torn ≤ 100000)) : MapB (L ++ [z]) := fun k x hx => by
  rw [List.getElem?_append] at hx
  split at hx
  · exact h k x hx
  · obtain ⟨h1, h2⟩ := List.getElem?_eq_some_iff.1 hx
    have h0 : k - L.length = 0 := by simp only [List.length_cons, List.length_nil] at h1; omega
    simp only [h0, List.getElem_cons_zero] at h2
    subst h2; exact hz
theorem MapB.at (h : MapB L) (hx : L[k]? = some z) : (-100000 ≤ z.Copies ∧ z.Copies ≤ 100000) ∧ (-100000 ≤ z.Torn ∧ z.Torn ≤ 100000) := h k z hx
theorem nil_lib : LibOK ⟨[], [], 0, 0, 0⟩ := by
  refine ⟨⟨fun j h => by simp at h, by simp⟩, ⟨fun j h => by simp at h, by simp⟩, ?_⟩
  simp [sumC]
theorem lib_bought (h : LibOK o) : (o.Maps.length ≤ 8 ∧ o.Away.length ≤ 8) ∧ (0 ≤ o.Bought ∧ o.Bought ≤ 9999) := ⟨⟨h.1.2, h.2.1.2⟩, h.2.2.1⟩
theorem make_okL (h : (spec_l32Make x s).2 = true) : LibOK (spec_l32Make x s).1 := by
  unfold spec_l32Make at *
  repeat' split at h
  all_goals first | exact (of_decide_eq_true h) | (simp only [*, if_true, if_false]; exact (of_decide_eq_true h)) | (simp only [*, if_true, if_false]; exact (of_decide_eq_true h).2) | simp_all
theorem spec_yesL (h : (spec_StepLibrary x s).2 = true) : LibOK x ∧ spec_l32Step x s = true ∧ (spec_l32Make x s).2 = true ∧ (spec_StepLibrary x s).1 = (spec_l32Make x s).1 := by
  unfold spec_StepLibrary at h ⊢
  by_cases h1 : (¬ (LibOK x)) ∨ ((!(spec_l32Step x s)) = true)
  · rw [if_pos h1] at h; cases h
  · rw [if_neg h1] at h ⊢
    by_cases h2 : (!((spec_l32Make x s).2)) = true
    · rw [if_pos h2] at h; cases h
    · rw [if_neg h2]
      exact ⟨Classical.not_not.1 fun k => h1 (.inl k), by
        cases hh : spec_l32Step x s
        · exact absurd (Or.inr (by rw [hh]; rfl)) h1
        · rfl, by simpa using h2, rfl⟩
theorem spec_okL (h : (spec_StepLibrary x s).2 = true) : LibOK (spec_StepLibrary x s).1 := by
  obtain ⟨-, -, h2, e⟩ := spec_yesL h
  rw [e]; exact make_okL h2
theorem step_lenS (x : Library) (s : LibraryStep) : (spec_StepLibrary x s).1.Maps.length ≤ 8 ∧ (spec_StepLibrary x s).1.Away.length ≤ 8 := by
  unfold spec_StepLibrary; split
  · simp
  · split
    · simp
    · rename_i h
      have := lib_rng (make_okL (x := x) (s := s) (by simpa using h)); exact ⟨this.1, this.2.1⟩
theorem step_lenMS (x : Library) (s : LibraryStep) : (spec_StepLibrary x s).1.Maps.length ≤ 8 := (step_lenS x s).1
theorem step_lenAS (x : Library) (s : LibraryStep) : (spec_StepLibrary x s).1.Away.length ≤ 8 := (step_lenS x s).2
theorem has_yes {M : List Int} {v y : Int} (hx : M[k]? = some v) (h : v = y) : y ∈ M := h ▸ List.mem_of_getElem? hx
theorem has_no {M : List Int} {y : Int} (h : y ∉ M.take k) (hk : M.length ≤ k) : y ∉ M := by rwa [List.take_of_length_le hk] at h
theorem has_next {M : List Int} {v y : Int} (h : y ∉ M.take k) (hx : M[k]? = some v) (hn : ¬ v = y) : y ∉ M.take (k + 1) := by
  rw [List.take_add_one, hx]; simp only [Option.toList_some, List.mem_append, List.mem_singleton, not_or]; exact ⟨h, fun e => hn e.symm⟩
/-- Who has a map. -/
theorem sh_mem (hx : LibOK x) {id r : Int} (h : r ∈ selL (ofM id) Away.Reader x.Away) : (1 ≤ r ∧ r ≤ 999) ∧ id ∈ selL (atR r) Away.Map x.Away := by
  unfold selL at h
  obtain ⟨a, ha, hr⟩ := List.mem_map.1 h
  obtain ⟨ha1, ha2⟩ := List.mem_filter.1 ha
  obtain ⟨j, hj⟩ := List.mem_iff_getElem?.1 ha1
  have hb := Classical.not_not.1 (hx.2.1.1 j (List.getElem?_eq_some_iff.1 hj).1)
  rw [gt_eq hj, hr] at hb
  refine ⟨hb.2.1, ?_⟩
  unfold selL
  refine List.mem_map.2 ⟨a, List.mem_filter.2 ⟨ha1, ?_⟩, ?_⟩
  · unfold atR; exact decide_eq_true hr
  · unfold ofM at ha2; exact of_decide_eq_true ha2
theorem sh_bad {id r : Int} (hk : k < (if LibOK x ∧ 0 ≤ idxF (hasId id) x.Maps then selL (ofM id) Away.Reader x.Away else []).length) (hr : r = gt (if LibOK x ∧ 0 ≤ idxF (hasId id) x.Maps then selL (ofM id) Away.Reader x.Away else []) k)
    (h : ¬ (LibOK x ∧ (1 ≤ r ∧ r ≤ 999)) ∨ ¬ id ∈ (if LibOK x ∧ (1 ≤ r ∧ r ≤ 999) then selL (atR r) Away.Map x.Away else [])) : False := by
  by_cases hc : LibOK x ∧ 0 ≤ idxF (hasId id) x.Maps
  · rw [if_pos hc] at hk hr
    have hm : r ∈ selL (ofM id) Away.Reader x.Away := by rw [hr]; exact List.mem_of_getElem? (gt_get hk)
    obtain ⟨h1, h2⟩ := sh_mem hc.1 hm
    rw [if_pos ⟨hc.1, h1⟩] at h
    exact h.elim (fun h => h ⟨hc.1, h1⟩) (fun h => h h2)
  · rw [if_neg hc] at hk; simp at hk
theorem sh_bad2 {id : Int} (h : ¬ (LibOK x ∧ (1 ≤ gt (if LibOK x ∧ 0 ≤ idxF (hasId id) x.Maps then selL (ofM id) Away.Reader x.Away else []) k ∧ gt (if LibOK x ∧ 0 ≤ idxF (hasId id) x.Maps then selL (ofM id) Away.Reader x.Away else []) k ≤ 999)) ∨
    ¬ id ∈ (if LibOK x ∧ (1 ≤ gt (if LibOK x ∧ 0 ≤ idxF (hasId id) x.Maps then selL (ofM id) Away.Reader x.Away else []) k ∧ gt (if LibOK x ∧ 0 ≤ idxF (hasId id) x.Maps then selL (ofM id) Away.Reader x.Away else []) k ≤ 999) then selL (atR (gt (if LibOK x ∧ 0 ≤ idxF (hasId id) x.Maps then selL (ofM id) Away.Reader x.Away else []) k)) Away.Map x.Away else []))
    (hk : k < (if LibOK x ∧ 0 ≤ idxF (hasId id) x.Maps then selL (ofM id) Away.Reader x.Away else []).length) : False := sh_bad hk rfl h
theorem self_no {α : Type} {a : α} (h : ¬ a = a) : False := h rfl
theorem tn_le (hx : LibOK x) : sumT x.Maps ≤ sumC x.Maps := by
  have := sums_rng hx.1.1 x.Maps.length (Nat.le_refl _)
  rw [List.take_of_length_le (Nat.le_refl _)] at this; omega
theorem tn_bad (h : (if LibOK x then sumC x.Maps else 0) < (if LibOK x then sumT x.Maps else 0)) : False := by
  by_cases hx : LibOK x
  · rw [if_pos hx, if_pos hx] at h; have := tn_le hx; omega
  · rw [if_neg hx, if_neg hx] at h; omega
theorem may_to (hx : MapsOK L) : ∀ k, k ≤ L.length → (0 < (selL mayM LMap.Id (L.take k)).length ↔ sumT (L.take k) < sumC (L.take k))
  | 0, _ => by simp [selL, sumT, sumC]
  | k + 1, h => by
    have ih := may_to hx k (by omega)
    have hm := maps_at hx (show k < L.length by omega)
    have hs := sums_rng hx k (by omega)
    rw [sumT_snoc (by omega), sumC_snoc (by omega)]
    cases hp : mayM (gt L k)
    · rw [← sel_no (by omega) hp, ih]
      have := of_decide_eq_false hp; omega
    · rw [← sel_yes (by omega) hp]
      have := of_decide_eq_true hp
      simp only [List.length_append, List.length_cons, List.length_nil]; omega
theorem may_iff (hx : LibOK x) : 0 < (selL mayM LMap.Id x.Maps).length ↔ sumT x.Maps < sumC x.Maps := by
  have := may_to hx.1.1 x.Maps.length (Nat.le_refl _)
  rwa [List.take_of_length_le (Nat.le_refl _)] at this
theorem may_bad (hn : n = (if LibOK x then selL mayM LMap.Id x.Maps else []).length) (h : LibOK x ∧ (!((decide (0 < (n : Int))) == (decide ((if LibOK x then sumT x.Maps else 0) < (if LibOK x then sumC x.Maps else 0))))) = true) : False := by
  obtain ⟨hx, h⟩ := h
  rw [if_pos hx] at hn
  rw [if_pos hx, if_pos hx] at h
  have := may_iff hx
  by_cases q : sumT x.Maps < sumC x.Maps
  · have : 0 < (n : Int) := by omega
    simp [q] at h; omega
  · have : ¬ 0 < (n : Int) := by omega
    simp [q] at h; omega
theorem may_bad2 (h : (¬ (if LibOK x then selL mayM LMap.Id x.Maps else []) = (if LibOK x then selL mayM LMap.Id x.Maps else [])) ∨ LibOK x ∧ (!((decide (0 < (n : Int))) == (decide ((if LibOK x then sumT x.Maps else 0) < (if LibOK x then sumC x.Maps else 0))))) = true) (hn : n = (if LibOK x then selL mayM LMap.Id x.Maps else []).length) : False :=
  may_bad hn (h.resolve_left fun h => h rfl)
end
end Go.Proofs.YtgobbcilgcbkaaaDoor
