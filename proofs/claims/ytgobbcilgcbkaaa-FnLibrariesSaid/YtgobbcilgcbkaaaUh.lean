/- Laws of libraries: plain words. -/
import Derived.Test.YtgobbcilgcbkaaaUg
import Derived.Test.YtgobbcilgcbkaaaDa
namespace Go.Proofs.Ytgobbcilgcbkaaa
open Go Go.RowKit Fw
/-- The maps of a library that was drawn. -/
def MapB (L : List LMap) : Prop := ∀ (k : Nat) (x : LMap), L[k]? = some x → (-100000 ≤ x.Copies ∧ x.Copies ≤ 100000) ∧ (-100000 ≤ x.Torn ∧ x.Torn ≤ 100000)
section
variable {x o y : Library} {S : List LibraryStep} {k n : Nat} {m : Int} {s : LibraryStep} {L : List LMap} {z : LMap}
theorem MapB.nil : MapB [] := fun k x h => by simp at h
theorem MapB.of (h : MapsOK L) : MapB L := fun k x hx => by
  have := maps_at h (List.getElem?_eq_some_iff.1 hx).1
  rw [gt_eq hx] at this; omega
theorem MapB.app (h : MapB L) (hz : (-100000 ≤ z.Copies ∧ z.Copies ≤ 100000) ∧ (-100000 ≤ z.Torn ∧ z.Torn ≤ 100000)) : MapB (L ++ [z]) := fun k x hx => by
  rw [List.getElem?_append] at hx
  split at hx
  · exact h k x hx
  · obtain ⟨h1, h2⟩ := List.getElem?_eq_some_iff.1 hx
    have h0 : k - L.length = 0 := by simp only [List.length_cons, List.length_nil] at h1; omega
    simp only [h0, List.getElem_cons_zero] at h2
    subst h2; exact hz
theorem MapB.at (h : MapB L) (hx : L[k]? = some z) : (-100000 ≤ z.Copies ∧ z.Copies ≤ 100000) ∧ (-100000 ≤ z.Torn ∧ z.Torn ≤ 100000) := h k z hx
theorem nil_lib : LibOK ⟨[], [], 0, 0, 0⟩ := by
  refine ⟨⟨fun j h => by simp at h, by simp⟩, ⟨fun j h => by simp at h, by simp⟩, ?_⟩
  simp [sumC]
theorem lib_bought (h : LibOK o) : (o.Maps.length ≤ 8 ∧ o.Away.length ≤ 8) ∧ (0 ≤ o.Bought ∧ o.Bought ≤ 9999) := ⟨⟨h.1.2, h.2.1.2⟩, h.2.2.1⟩
theorem impl_okL (h : (impl_StepLibrary x s).2 = true) : LibOK (impl_StepLibrary x s).1 ∧ LibOK x := by
  unfold impl_StepLibrary at *
  split
  · rename_i hx; rw [if_pos hx] at h; exact ⟨stepped_okL h, hx⟩
  · rename_i hx; rw [if_neg hx] at h; cases h
theorem spec_yesL (h : (spec_StepLibrary x s).2 = true) : LibOK x ∧ spec_l32Step x s = true ∧ (spec_l32Make x s).2 = true ∧ (spec_StepLibrary x s).1 = (spec_l32Make x s).1 := by
  unfold spec_StepLibrary at h ⊢
  by_cases h1 : (¬ (LibOK x)) ∨ ((!(spec_l32Step x s)) = true)
  · rw [if_pos h1] at h; cases h
  · rw [if_neg h1] at h ⊢
    by_cases h2 : (!((spec_l32Make x s).2)) = true
    · rw [if_pos h2] at h; cases h
    · rw [if_neg h2]
      exact ⟨Classical.not_not.1 fun k => h1 (.inl k), by
        cases hh : spec_l32Step x s
        · exact absurd (Or.inr (by rw [hh]; rfl)) h1
        · rfl, by simpa using h2, rfl⟩
theorem spec_okL (h : (spec_StepLibrary x s).2 = true) : LibOK (spec_StepLibrary x s).1 := by
  obtain ⟨-, -, h2, e⟩ := spec_yesL h
  rw [e]; exact make_okL h2
theorem runL_yesI (h : runToL x S k = (o, m)) (hs : S[k]? = some s) (hy : (impl_StepLibrary o s).2 = true) : runToL x S (k + 1) = ((impl_StepLibrary o s).1, m + 1) ∧ LibOK (impl_StepLibrary o s).1 := by
  have ho := (impl_okL hy).2
  have e : impl_StepLibrary o s = ((impl_Library_stepped o s).1, (impl_Library_stepped o s).2) := if_pos ho
  rw [e] at hy ⊢
  exact runL_yes h hs hy
theorem runL_noI (h : runToL x S k = (o, m)) (ho : LibOK o) (hs : S[k]? = some s) (hy : (impl_StepLibrary o s).2 = false) : runToL x S (k + 1) = (o, m) := by
  have e : impl_StepLibrary o s = ((impl_Library_stepped o s).1, (impl_Library_stepped o s).2) := if_pos ho
  rw [e] at hy
  exact runL_no h hs hy
theorem runFL_told (h : (runFL x S).2.2 = true) : LibOK x ∧ S.length ≤ 40 := by
  unfold runFL at h; split at h
  · assumption
  · cases h
theorem runFL_end (h : (runFL x S).2.2 = true) (hr : runToL x S k = (o, m)) (hk : k = S.length) : (runFL x S).1 = o ∧ (runFL x S).2.1 = m := by
  subst hk
  unfold runFL; rw [if_pos (runFL_told h)]; simp [hr]
theorem runL_bad (h : (runFL x S).2.2 = true) (hi : (k ≤ S.length ∧ 0 ≤ m ∧ m ≤ (k : Int)) ∧ runToL x S k = (o, m) ∧ LibOK o) (hk : k = S.length) (hb : ¬ m = (runFL x S).2.1 ∨ ¬ o = (runFL x S).1) : False := by
  have hr := runFL_end h hi.2.1 hk
  exact hb.elim (fun h => h hr.2.symm) (fun h => h hr.1.symm)
theorem StepsIn.nil : StepsIn [] := fun k s h => by simp at h
theorem StepsIn.app (h : StepsIn S) (hs : s.Value ≤ 9223372036854775807) : StepsIn (S ++ [s]) := fun k z hz => by
  rw [List.getElem?_append] at hz
  split at hz
  · exact h k z hz
  · obtain ⟨h1, h2⟩ := List.getElem?_eq_some_iff.1 hz
    have h0 : k - S.length = 0 := by simp only [List.length_cons, List.length_nil] at h1; omega
    simp only [h0, List.getElem_cons_zero] at h2
    subst h2; exact hs
theorem has_yes {M : List Int} {v y : Int} (hx : M[k]? = some v) (h : v = y) : y ∈ M := h ▸ List.mem_of_getElem? hx
theorem has_no {M : List Int} {y : Int} (h : y ∉ M.take k) (hk : M.length ≤ k) : y ∉ M := by rwa [List.take_of_length_le hk] at h
theorem has_next {M : List Int} {v y : Int} (h : y ∉ M.take k) (hx : M[k]? = some v) (hn : ¬ v = y) : y ∉ M.take (k + 1) := by
  rw [List.take_add_one, hx]; simp only [Option.toList_some, List.mem_append, List.mem_singleton, not_or]; exact ⟨h, fun e => hn e.symm⟩
theorem make_bought (h1 : ¬ s.Kind = 1) : (spec_l32Make x s).1.Bought = x.Bought := by
  unfold spec_l32Make spec_l32Readers; rw [if_neg h1]
  repeat' split
  all_goals rfl
theorem sumT_set {L : List LMap} {z : LMap} (hk : k < L.length) (hz : z.Torn = (gt L k).Torn) : sumT (L.set k z) = sumT L := by
  have e : L = L.take k ++ gt L k :: L.drop (k + 1) := by
    have h1 := List.take_append_drop k L
    rw [List.drop_eq_getElem_cons hk] at h1
    have h2 : gt L k = L[k] := gt_eq (List.getElem?_eq_getElem hk)
    rw [h2]; exact h1.symm
  have e2 : L.set k z = L.take k ++ z :: L.drop (k + 1) := by rw [List.set_eq_take_append_cons_drop, if_pos hk]
  rw [e2]
  conv => rhs; rw [e]
  unfold sumT; simp [hz]
/-- What lending does. -/
theorem lend_law (h : (spec_StepLibrary x s).2 = true) (h2 : s.Kind = 2) : (1 ≤ s.Reader ∧ s.Reader ≤ 999) ∧ s.Id ∈ selL mayM LMap.Id x.Maps ∧ s.Id ∈ selL (atR s.Reader) Away.Map (spec_StepLibrary x s).1.Away ∧
    0 ≤ idxF (hasId s.Id) (spec_StepLibrary x s).1.Maps ∧ s.Reader ∈ selL (ofM s.Id) Away.Reader (spec_StepLibrary x s).1.Away ∧ sumT x.Maps = sumT (spec_StepLibrary x s).1.Maps := by
  obtain ⟨hx, hs, hm, e⟩ := spec_yesL h
  have h0 : 0 ≤ idxF (hasId s.Id) x.Maps ∧ (1 ≤ s.Reader ∧ s.Reader ≤ 999) ∧ s.Value = 0 := by
    unfold spec_l32Step at hs
    rw [if_neg (by omega), if_pos h2] at hs
    exact of_decide_eq_true hs
  obtain ⟨z, hz, hid, -⟩ := idx_spec rfl h0.1
  have hlt := (List.getElem?_eq_some_iff.1 hz).1
  rw [e]
  unfold spec_l32Make at hm ⊢
  rw [if_neg (by omega), if_neg (by omega), if_neg (by omega), if_neg (by omega)] at hm ⊢
  unfold spec_l32Readers at hm ⊢
  rw [if_pos h2] at hm ⊢
  generalize (idxF (hasId s.Id) x.Maps).toNat = i at *
  have hg := gt_eq hz
  simp only [decide_eq_true_eq] at hm
  have hid' : z.Id = s.Id := by simpa [hasId] using hid
  have hA : (⟨s.Id, s.Reader⟩ : Away) ∈ (goneN x s.Id s.Reader).Away := by unfold goneN insAt; simp
  refine ⟨h0.2.1, ?_, ?_, ?_, ?_, ?_⟩
  · unfold selL
    rw [List.mem_map]
    refine ⟨z, List.mem_filter.2 ⟨List.mem_of_getElem? hz, ?_⟩, hid'⟩
    unfold mayM; rw [← hg]; exact decide_eq_true hm.1.2
  · unfold selL
    rw [List.mem_map]
    exact ⟨_, List.mem_filter.2 ⟨hA, by simp [atR]⟩, rfl⟩
  · rw [any_idx, List.any_eq_true]
    refine ⟨_, List.mem_of_getElem? (List.getElem?_set_self (show i < (goneN x s.Id s.Reader).Maps.length from hlt)), ?_⟩
    unfold hasId
    exact decide_eq_true (by show (gt x.Maps i).Id = s.Id; rw [hg]; exact hid')
  · unfold selL
    rw [List.mem_map]
    exact ⟨_, List.mem_filter.2 ⟨hA, by simp [ofM]⟩, rfl⟩
  · show sumT x.Maps = sumT (x.Maps.set i { gt x.Maps i with Copies := (gt x.Maps i).Copies - 1 })
    exact (sumT_set (z := { gt x.Maps i with Copies := (gt x.Maps i).Copies - 1 }) hlt rfl).symm
/-- What a step keeps. -/
def LiLaw (x : Library) (s : LibraryStep) : Prop := spec_StepLibrary x s = impl_StepLibrary x s ∧ ((impl_StepLibrary x s).2 = true → LibOK (impl_StepLibrary x s).1 ∧ LibOK x ∧
  (impl_StepLibrary x s).1.Bought = IntKind.i64.wrap (IntKind.i64.wrap ((if LibOK (impl_StepLibrary x s).1 then sumC (impl_StepLibrary x s).1.Maps else 0) + ((impl_StepLibrary x s).1.Away.length : Int)) + (impl_StepLibrary x s).1.Dropped) ∧
  (¬ s.Kind = 1 → (impl_StepLibrary x s).1.Bought = x.Bought) ∧
  (s.Kind = 2 → (1 ≤ s.Reader ∧ s.Reader ≤ 999) ∧ s.Id ∈ selL mayM LMap.Id x.Maps ∧ s.Id ∈ selL (atR s.Reader) Away.Map (impl_StepLibrary x s).1.Away ∧
    0 ≤ idxF (hasId s.Id) (impl_StepLibrary x s).1.Maps ∧ s.Reader ∈ selL (ofM s.Id) Away.Reader (impl_StepLibrary x s).1.Away ∧ sumT x.Maps = sumT (impl_StepLibrary x s).1.Maps))
theorem li_law (x : Library) (s : LibraryStep) (hv : s.Value ≤ 9223372036854775807) : LiLaw x s := by
  have e := step_eqL (x := x) hv
  refine ⟨e, fun h => ?_⟩
  have ho := impl_okL h
  rw [← e] at h ho ⊢
  obtain ⟨hx, hs, hm, e2⟩ := spec_yesL h
  have hb := ho.1.2.2
  have hc := sumC_rng ho.1.1.1 ho.1.1.2
  have ha := ho.1.2.1.2
  refine ⟨ho.1, hx, ?_, fun h1 => ?_, lend_law h⟩
  · rw [if_pos ho.1]
    have e1 : IntKind.i64.wrap (sumC (spec_StepLibrary x s).1.Maps + ((spec_StepLibrary x s).1.Away.length : Int)) = sumC (spec_StepLibrary x s).1.Maps + ((spec_StepLibrary x s).1.Away.length : Int) := wrap64_in (by omega)
    rw [e1, wrap64_in (by omega)]; exact hb.2.2.2
  · rw [e2]; exact make_bought h1
theorem li_bad1 (hl : LiLaw x s) (h : (!((impl_StepLibrary x s).2 == (spec_StepLibrary x s).2)) = true ∨ ¬ (impl_StepLibrary x s).1 = (spec_StepLibrary x s).1 ∨ (impl_StepLibrary x s).2 = true ∧ ¬ LibOK (impl_StepLibrary x s).1) : False := by
  obtain ⟨e, h2⟩ := hl
  rw [e] at h
  rcases h with h | h | h
  · simp at h
  · exact h rfl
  · exact h.2 (h2 h.1).1
theorem li_bad2 (hl : LiLaw x s) (h : (impl_StepLibrary x s).2 = true) (hn : n = (impl_StepLibrary x s).1.Away.length) (hb : ¬ LibOK (impl_StepLibrary x s).1 ∨ ¬ (impl_StepLibrary x s).1.Bought = IntKind.i64.wrap (IntKind.i64.wrap ((if LibOK (impl_StepLibrary x s).1 then sumC (impl_StepLibrary x s).1.Maps else 0) + (n : Int)) + (impl_StepLibrary x s).1.Dropped) ∨ ¬ s.Kind = 1 ∧ ¬ (impl_StepLibrary x s).1.Bought = x.Bought) : False := by
  subst hn
  obtain ⟨-, h2⟩ := hl
  obtain ⟨a1, a2, a3, a4, a5⟩ := h2 h
  rcases hb with hb | hb | hb
  · exact hb a1
  · exact hb a3
  · exact hb.2 (a4 hb.1)
theorem li_bad3 (hl : LiLaw x s) (h : (impl_StepLibrary x s).2 = true) (hk : s.Kind = 2) (hb : ¬ LibOK x ∨ (¬ s.Id ∈ if LibOK x then selL mayM LMap.Id x.Maps else []) ∨ ¬ (LibOK (impl_StepLibrary x s).1 ∧ 1 ≤ s.Reader ∧ s.Reader ≤ 999) ∨
    (¬ s.Id ∈ if LibOK (impl_StepLibrary x s).1 ∧ 1 ≤ s.Reader ∧ s.Reader ≤ 999 then selL (atR s.Reader) Away.Map (impl_StepLibrary x s).1.Away else []) ∨ ¬ (LibOK (impl_StepLibrary x s).1 ∧ 0 ≤ idxF (hasId s.Id) (impl_StepLibrary x s).1.Maps) ∨
    (¬ s.Reader ∈ if LibOK (impl_StepLibrary x s).1 ∧ 0 ≤ idxF (hasId s.Id) (impl_StepLibrary x s).1.Maps then selL (ofM s.Id) Away.Reader (impl_StepLibrary x s).1.Away else []) ∨ ¬ LibOK (impl_StepLibrary x s).1 ∨
    ¬ (if LibOK x then sumT x.Maps else 0) = if LibOK (impl_StepLibrary x s).1 then sumT (impl_StepLibrary x s).1.Maps else 0) : False := by
  obtain ⟨-, h2⟩ := hl
  obtain ⟨a1, a2, -, -, a5⟩ := h2 h
  obtain ⟨b1, b2, b3, b4, b5, b6⟩ := a5 hk
  rw [if_pos a1, if_pos a2, if_pos a2, if_pos ⟨a1, b1⟩, if_pos ⟨a1, b4⟩] at hb
  rcases hb with hb | hb | hb | hb | hb | hb | hb | hb
  · exact hb a2
  · exact hb b2
  · exact hb ⟨a1, b1⟩
  · exact hb b3
  · exact hb ⟨a1, b4⟩
  · exact hb b5
  · exact hb a1
  · exact hb b6
end
end Go.Proofs.Ytgobbcilgcbkaaa
