/- A step of the program and one of the reference are one. -/
import Derived.Test.YtgobbcilgcbkaaaG32m
import Derived.Test.YtgobbcilgcbkaaaG32j
namespace Go.Proofs.Ytgobbcilgcbkaaa
open Go Go.RowKit Fw
def noLib : Library := ⟨[], [], 0, 0, 0⟩
section
variable {x y : Library} {s : LibraryStep} {L : List LMap} {A : List Away} {k i : Nat} {m z : LMap} {v : Int}
theorem ins_set {α : Type} {L : List α} {k : Nat} {y z : α} (hk : k ≤ L.length) : (L.take k ++ [y] ++ L.drop k).set k z = L.take k ++ [z] ++ L.drop k := by
  have h : (L.take k).length = k := by simp; omega
  rw [List.append_assoc, List.set_append_right _ _ (by omega), h]; simp
theorem ins_gt {α : Type} [Inhabited α] {L : List α} {k : Nat} {y : α} (hk : k ≤ L.length) : gt (L.take k ++ [y] ++ L.drop k) k = y := by
  have h : (L.take k).length = k := by simp; omega
  refine gt_eq ?_
  rw [List.append_assoc, List.getElem?_append_right (by omega), h]; simp
theorem set_gt {α : Type} [Inhabited α] {L : List α} {k : Nat} {y : α} (hk : k < L.length) : gt (L.set k y) k = y := gt_eq (by simp [hk])
theorem buy_eq (hx : LibOK x) (h1 : 1 ≤ s.Value ∧ s.Value ≤ 50) : impl_Library_buy x s = boughtN x s.Id s.Value := by
  obtain ⟨e1, e2, e3⟩ := bsM hx.1.1 s.Id
  have hr := lib_rng hx
  unfold impl_Library_buy boughtN
  by_cases hf : bsF cmpM s.Id x.Maps
  · have e := e3 hf
    have hlt : bsP cmpM s.Id x.Maps < x.Maps.length := by have := hf.1; omega
    have hm := maps_at hx.1.1 hlt
    rw [if_pos hf, if_pos (e2.1 hf), ← e]
    simp only [Int.toNat_natCast]
    rw [wrap64_in (by omega), wrap64_in (by omega)]
    rfl
  · rw [if_neg hf, if_neg (mt e2.2 hf)]
    have hle := bsP_le (c := cmpM) (t := s.Id) (L := x.Maps)
    simp only [Int.toNat_natCast]
    rw [ins_gt hle, ins_set hle, e1]
    dsimp only
    rw [wrap64_in (by omega), wrap64_in (by omega)]
    unfold insAt; simp
theorem step_iff : spec_l32Step x s = true ↔ impl_isLibraryStep s = true ∧ (¬ s.Kind = 1 → 0 ≤ idxF (hasId s.Id) x.Maps) := by
  unfold spec_l32Step impl_isLibraryStep
  by_cases h1 : s.Kind = 1
  · simp only [if_pos h1, decide_eq_true_eq]
    exact ⟨fun h => ⟨h, fun q => absurd h1 q⟩, fun h => h.1⟩
  by_cases h2 : s.Kind = 2
  · simp only [if_neg h1, if_pos h2, decide_eq_true_eq]; omega
  by_cases h3 : s.Kind = 3
  · simp only [if_neg h1, if_neg h2, if_pos h3, decide_eq_true_eq]; omega
  by_cases h5 : s.Kind = 5
  · simp only [if_neg h1, if_neg h2, if_neg h3, if_pos h5, decide_eq_true_eq]; omega
  by_cases h4 : s.Kind = 4
  · simp only [if_neg h1, if_neg h2, if_neg h3, if_neg h5, if_pos h4, decide_eq_true_eq]; omega
  by_cases h6 : s.Kind = 6
  · simp only [if_neg h1, if_neg h2, if_neg h3, if_neg h5, if_neg h4, if_pos h6, decide_eq_true_eq]; omega
  by_cases h7 : s.Kind = 7
  · simp only [if_neg h1, if_neg h2, if_neg h3, if_neg h5, if_neg h4, if_neg h6, if_pos h7, decide_eq_true_eq]; omega
  simp only [if_neg h1, if_neg h2, if_neg h3, if_neg h5, if_neg h4, if_neg h6, if_neg h7, decide_eq_true_eq]
  exact ⟨fun h => by omega, fun h => absurd h.1 (by simp)⟩
theorem lib_at (h : LibOK y) (hy : y.Maps = L.set k m) (hk : k < L.length) : 0 ≤ m.Torn ∧ m.Torn ≤ m.Copies := by
  have h1 := maps_at (k := k) h.1.1 (by rw [hy]; simpa using hk)
  rw [hy, set_gt hk] at h1
  exact h1.2.2.1
/-- What a use must be: it is the reference's step where this one is possible, and else no library. -/
def UseOK (u s : Library × Bool) : Prop := ((u.2 = true ∧ LibOK u.1) ↔ s.2 = true) ∧ (s.2 = true → u.1 = s.1)
theorem useOK_same {u : Library × Bool} {q : Library} {p : Prop} [Decidable p] (h : u.2 = true ∧ LibOK u.1 → p) (h2 : p → u.2 = true ∧ u.1 = q) : UseOK u (q, decide (p ∧ LibOK q)) := by
  constructor
  · rw [decide_eq_true_eq]
    constructor
    · intro hh; have hp := h hh; exact ⟨hp, (h2 hp).2 ▸ hh.2⟩
    · rintro ⟨hp, hq⟩; exact ⟨(h2 hp).1, (h2 hp).2.symm ▸ hq⟩
  · intro hh; exact (h2 (of_decide_eq_true hh).1).2
theorem aw_idx (hx : LibOK x) (id r : Int) : bsP cmpA ⟨id, r⟩ x.Away = bdA ⟨id, r⟩ x.Away ∧ (bsF cmpA ⟨id, r⟩ x.Away ↔ 0 ≤ idxF (isA id r) x.Away) ∧ (bsF cmpA ⟨id, r⟩ x.Away → (bsP cmpA ⟨id, r⟩ x.Away : Int) = idxF (isA id r) x.Away) := bsA (aw_s hx.2.1.1) id r
theorem use_ok (hx : LibOK x) (hs : spec_l32Step x s = true) (h1 : ¬ s.Kind = 1) (hv : s.Value ≤ 9223372036854775807) : UseOK (impl_Library_use x s (idxF (hasId s.Id) x.Maps)) (spec_l32Make x s) := by
  have hsr := stepL_rng hs
  have hi := hsr.2.1 h1
  have hlt := (idx_lt (p := hasId s.Id) (L := x.Maps)).1
  unfold spec_l32Make impl_Library_use
  simp only [if_neg h1]
  generalize hj : (idxF (hasId s.Id) x.Maps).toNat = j
  have hjl : j < x.Maps.length := by omega
  have hm := maps_at hx.1.1 hjl
  have hr := lib_rng hx
  have hst : spec_l32Readers x s (idxF (hasId s.Id) x.Maps) = spec_l32Readers x s (idxF (hasId s.Id) x.Maps) := rfl
  by_cases h4 : s.Kind = 4
  · simp only [if_neg (show ¬ s.Kind = 2 by omega), if_neg (show ¬ s.Kind = 3 by omega), if_neg (show ¬ s.Kind = 5 by omega), if_pos h4]
    refine useOK_same (fun hh => ?_) (fun hp => ⟨rfl, ?_⟩)
    · have h := lib_at hh.2 rfl hjl
      dsimp only at h
      rw [wrap64_in (by omega)] at h; omega
    · rw [wrap64_in (by omega), wrap64_in (by omega), Int.min_eq_left hp]
  by_cases h6 : s.Kind = 6
  · simp only [if_neg (show ¬ s.Kind = 2 by omega), if_neg (show ¬ s.Kind = 3 by omega), if_neg (show ¬ s.Kind = 5 by omega), if_neg h4, if_pos h6]
    refine useOK_same (fun hh => ?_) (fun hp => ⟨rfl, ?_⟩)
    · have h := lib_at hh.2 (List.set_set ..) hjl
      dsimp only at h
      rw [wrap64_in (by omega)] at h; omega
    · rw [wrap64_in (by omega), wrap64_in (by omega), wrap64_in (by omega), Int.min_eq_left hp, List.set_set]
  by_cases h7 : s.Kind = 7
  · simp only [if_neg (show ¬ s.Kind = 2 by omega), if_neg (show ¬ s.Kind = 3 by omega), if_neg (show ¬ s.Kind = 5 by omega), if_neg h4, if_neg h6, if_pos h7]
    refine useOK_same (fun hh => ?_) (fun hp => ⟨rfl, ?_⟩)
    · have h := lib_at hh.2 rfl hjl
      dsimp only at h
      simp only [IntKind.wrap_i64] at h; omega
    · rw [wrap64_in (by omega), Int.min_eq_left (by omega)]
  simp only [if_neg h4, if_neg h6, if_neg h7]
  have hV := hsr.2.2.2 ⟨h4, h6, h7⟩
  have hV0 := hsr.2.2.1
  obtain ⟨a1, a2, a3⟩ := aw_idx hx s.Id s.Reader
  have hal := (idx_lt (p := isA s.Id s.Reader) (L := x.Away)).1
  unfold spec_l32Readers
  rw [hj]
  by_cases h2 : s.Kind = 2
  · simp only [if_pos h2]
    unfold impl_Library_give
    refine useOK_same (p := _ = true) (fun hh => ?_) (fun hp => ?_)
    · by_cases hf : bsF cmpA ⟨s.Id, s.Reader⟩ x.Away
      · rw [if_pos hf] at hh; exact absurd hh.1 (by simp)
      · rw [if_neg hf] at hh
        have h := lib_at hh.2 rfl hjl
        dsimp only at h
        rw [wrap64_in (by omega)] at h
        refine decide_eq_true ⟨?_, by omega⟩
        have := mt a2.2 hf; omega
    · have hp' := of_decide_eq_true hp
      have hf : ¬ bsF cmpA ⟨s.Id, s.Reader⟩ x.Away := fun hf => by have := a2.1 hf; omega
      rw [if_neg hf]
      refine ⟨rfl, ?_⟩
      dsimp only
      rw [a1, wrap64_in (by omega), Int.toNat_natCast]
      rfl
  simp only [if_neg h2]
  by_cases h3 : s.Kind = 3
  · simp only [if_pos h3, if_neg (show ¬ s.Kind = 5 by omega)]
    unfold impl_Library_fetch
    by_cases hf : bsF cmpA ⟨s.Id, s.Reader⟩ x.Away
    · rw [if_pos hf, if_neg (by have := a2.1 hf; omega)]
      refine useOK_same (p := _ = true) (fun hh => rfl) (fun hp => ⟨rfl, ?_⟩)
      have e := a3 hf
      dsimp only
      rw [← e, wrap64_in (by omega), wrap64_in (by omega), Int.toNat_natCast, show ((bsP cmpA ⟨s.Id, s.Reader⟩ x.Away : Int) + 1).toNat = bsP cmpA ⟨s.Id, s.Reader⟩ x.Away + 1 by omega]
      rfl
    · rw [if_neg hf, if_pos (by have := mt a2.2 hf; omega)]
      exact useOK_same (p := _ = true) (fun hh => absurd hh.1 (by simp)) (fun hp => absurd hp (by simp))
  simp only [if_neg h3]
  have h5 : s.Kind = 5 := by
    rcases step_iff.1 hs with ⟨h, _⟩
    unfold impl_isLibraryStep at h
    apply Classical.byContradiction; intro h5
    simp only [h1, h2, h3, h4, h5, h6, h7, if_false] at h
    exact absurd h (by simp)
  simp only [if_pos h5]
  obtain ⟨b1, b2, b3⟩ := aw_idx hx s.Id s.Value
  unfold impl_Library_hand
  by_cases hrv : s.Reader = s.Value
  · rw [if_pos hrv]
    split
    · exact useOK_same (p := _ = true) (fun hh => absurd hh.1 (by simp)) (fun hp => absurd hp (by simp))
    · refine useOK_same (p := _ = true) (fun hh => absurd hh.1 (by simp)) (fun hp => ?_)
      have := of_decide_eq_true hp
      rw [← hrv] at this; omega
  rw [if_neg hrv]
  by_cases hf : bsF cmpA ⟨s.Id, s.Reader⟩ x.Away
  · have e := a3 hf
    have hkl : bsP cmpA ⟨s.Id, s.Reader⟩ x.Away < x.Away.length := by have := hf.1; omega
    have hfe : impl_Library_fetch x s.Id s.Reader = (backN x (idxF (isA s.Id s.Reader) x.Away), true) := by
      unfold impl_Library_fetch backN delAt
      rw [if_pos hf, ← e, Int.toNat_natCast, show ((bsP cmpA ⟨s.Id, s.Reader⟩ x.Away : Int) + 1).toNat = bsP cmpA ⟨s.Id, s.Reader⟩ x.Away + 1 by omega]
    have hidx : ¬ idxF (isA s.Id s.Reader) x.Away < 0 := by have := a2.1 hf; omega
    simp only [hfe, if_neg hidx, Bool.not_true, Bool.false_eq_true, if_false]
    have hae : (backN x (idxF (isA s.Id s.Reader) x.Away)).Away = delAt x.Away (bsP cmpA ⟨s.Id, s.Reader⟩ x.Away) := by unfold backN; rw [← e, Int.toNat_natCast]
    obtain ⟨c1, c2, c3⟩ := bsA (del_s (aw_s hx.2.1.1) hkl) s.Id s.Value
    have hd := del_has (q := isA s.Id s.Value) hkl (by
      have := cmpA_eq.1 hf.2
      rw [this]; unfold isA; exact decide_eq_false (fun hh => hrv hh.2))
    unfold impl_Library_give
    rw [hae]
    by_cases hg : bsF cmpA ⟨s.Id, s.Value⟩ (delAt x.Away (bsP cmpA ⟨s.Id, s.Reader⟩ x.Away))
    · rw [if_pos hg]
      have := hd.1 (c2.1 hg)
      refine useOK_same (p := _ = true) (fun hh => absurd hh.1 (by simp)) (fun hp => ?_)
      have := of_decide_eq_true hp; omega
    · rw [if_neg hg]
      refine useOK_same (p := _ = true) (fun hh => decide_eq_true ?_) (fun hp => ⟨rfl, ?_⟩)
      · have := mt (fun q => c2.2 (hd.2 q)) hg; omega
      · unfold goneN insAt
        rw [hae, c1, Int.toNat_natCast]
  · have hfe : (impl_Library_fetch x s.Id s.Reader).2 = false := by unfold impl_Library_fetch; rw [if_neg hf]
    have hidx : idxF (isA s.Id s.Reader) x.Away < 0 := by have := mt a2.2 hf; omega
    have hn : (!(impl_Library_fetch x s.Id s.Reader).2) = true := by rw [hfe]; rfl
    simp only [if_pos hidx, if_pos hn]
    exact useOK_same (p := _ = true) (fun hh => absurd hh.1 (by simp)) (fun hp => absurd hp (by simp))
/-- One step, the program's and the reference's. -/
theorem stepped_yesL (hx : LibOK x) (hs : spec_l32Step x s = true) (hv : s.Value ≤ 9223372036854775807) : impl_Library_stepped x s = if (spec_l32Make x s).2 = true then ((spec_l32Make x s).1, true) else (noLib, false) := by
  have h0 := step_iff.1 hs
  unfold impl_Library_stepped
  rw [if_neg (by rw [h0.1]; simp)]
  by_cases h1 : s.Kind = 1
  · have hsr := (stepL_rng hs).1 h1
    rw [if_pos h1, buy_eq hx hsr.2]
    unfold spec_l32Make
    rw [if_pos h1]
    by_cases hl : LibOK (boughtN x s.Id s.Value)
    · rw [if_pos hl, if_pos (decide_eq_true hl)]
    · rw [if_neg hl, if_neg (by simpa using hl)]; rfl
  · have hf : bsF cmpM s.Id x.Maps := (bsM hx.1.1 s.Id).2.1.2 (h0.2 h1)
    have hu := use_ok hx hs h1 hv
    rw [if_neg h1, if_pos hf, (bsM hx.1.1 s.Id).2.2 hf]
    by_cases hy : (spec_l32Make x s).2 = true
    · have h2 := hu.1.2 hy
      rw [if_pos hy, if_neg (by rintro (q | q); rw [h2.1] at q; cases q; exact q h2.2), hu.2 hy]
    · rw [if_neg hy, if_pos (by
        apply Classical.byContradiction; intro q
        rw [not_or] at q
        exact hy (hu.1.1 ⟨by simpa using q.1, Classical.not_not.1 q.2⟩))]
      rfl
theorem stepped_noL (hx : LibOK x) (hs : ¬ spec_l32Step x s = true) : impl_Library_stepped x s = (noLib, false) := by
  unfold impl_Library_stepped
  by_cases h0 : impl_isLibraryStep s = true
  · have h1 : ¬ s.Kind = 1 := fun h1 => hs (step_iff.2 ⟨h0, fun h => absurd h1 h⟩)
    have hi : ¬ 0 ≤ idxF (hasId s.Id) x.Maps := fun hi => hs (step_iff.2 ⟨h0, fun _ => hi⟩)
    rw [if_neg (by rw [h0]; simp), if_neg h1, if_neg (fun hf => hi ((bsM hx.1.1 s.Id).2.1.1 hf))]; rfl
  · rw [if_pos (by simpa using h0)]; rfl
theorem step_eqL (hv : s.Value ≤ 9223372036854775807) : spec_StepLibrary x s = impl_StepLibrary x s := by
  unfold spec_StepLibrary impl_StepLibrary
  by_cases hx : LibOK x
  · rw [if_pos hx]
    by_cases hs : spec_l32Step x s = true
    · rw [if_neg (by rintro (q | q); exact q hx; rw [hs] at q; cases q), stepped_yesL hx hs hv]
      by_cases hy : (spec_l32Make x s).2 = true
      · rw [if_neg (by rw [hy]; simp), if_pos hy]
      · rw [if_pos (by simpa using hy), if_neg hy]; rfl
    · rw [if_pos (.inr (by simpa using hs)), stepped_noL hx hs]; rfl
  · rw [if_neg hx, if_pos (.inl hx)]
end
end Go.Proofs.Ytgobbcilgcbkaaa
