/- The room: plain words. -/
import Derived.Test.YthgbcadgnihdiaaGreatDoorRc
import Derived.Test.YthgbcadgnihdiaaGreatDoorRt
import Derived.Test.YthgbcadgnihdiaaGreatDoorVa
namespace Go.Proofs.YthgbcadgnihdiaaGreatDoor
open Go Go.RowKit Fw
/-- One more visit, for the longest time in which a seat is not kept: where that begins, its length, and where the next one begins. -/
def gapStep (s : Int) (t : Int × Int × Int) (v : Visit) : Int × Int × Int :=
  if v.Seat = s then (if t.2.1 < v.From - t.2.2 then (t.2.2, v.From - t.2.2, v.Until) else (t.1, t.2.1, v.Until)) else t
def gapTo (M : List Visit) (s : Int) (k : Nat) : Int × Int × Int := (M.take k).foldl (gapStep s) (480, 0, 480)
noncomputable def gapF (L : List Visit) (s : Int) : Int × Int :=
  if VsOK L ∧ (1 ≤ s ∧ s ≤ 6) then ((gapTo (L ++ ([(⟨0, s, 1200, 0⟩ : Visit)] : List Visit)) s (L.length + 1)).1, (gapTo (L ++ ([(⟨0, s, 1200, 0⟩ : Visit)] : List Visit)) s (L.length + 1)).2.1) else (0, 0)
section
variable {L M o : List Visit} {a b r m s : Int} {k j i n : Nat} {x y z : Visit} {t : Int × Int × Int}
theorem gap_next (hx : M[k]? = some x) : gapTo M s (k + 1) = gapStep s (gapTo M s k) x := by
  unfold gapTo; rw [List.take_add_one, hx]; simp
theorem gap_no (hx : M[k]? = some x) (h : ¬ x.Seat = s) : gapTo M s (k + 1) = gapTo M s k := by rw [gap_next hx]; exact if_neg h
theorem gap_yes (hx : M[k]? = some x) (h : x.Seat = s) (h2 : (gapTo M s k).2.1 < x.From - (gapTo M s k).2.2) : gapTo M s (k + 1) = ((gapTo M s k).2.2, x.From - (gapTo M s k).2.2, x.Until) := by
  rw [gap_next hx]; unfold gapStep; rw [if_pos h, if_pos h2]
theorem gap_low (hx : M[k]? = some x) (h : x.Seat = s) (h2 : ¬ (gapTo M s k).2.1 < x.From - (gapTo M s k).2.2) : gapTo M s (k + 1) = ((gapTo M s k).1, (gapTo M s k).2.1, x.Until) := by
  rw [gap_next hx]; unfold gapStep; rw [if_pos h, if_neg h2]
def VsD (M : List Visit) : Prop := ∀ (j : Nat) (x : Visit), M[j]? = some x → (0 ≤ x.From ∧ x.From ≤ 1200) ∧ (0 ≤ x.Until ∧ x.Until ≤ 1200)
theorem VsD.of (hv : VsOK L) : VsD L := fun j x hx => by have := vs_rng hv hx; omega
theorem VsD.sent (hv : VsOK L) (s : Int) : VsD (L ++ ([(⟨0, s, 1200, 0⟩ : Visit)] : List Visit)) := fun j x hx => by
  rw [List.getElem?_append] at hx
  split at hx
  · have := vs_rng hv hx; omega
  · obtain ⟨h1, h2⟩ := List.getElem?_eq_some_iff.1 hx
    have h0 : j - L.length = 0 := by simp only [List.length_cons, List.length_nil] at h1; omega
    simp only [h0, List.getElem_cons_zero] at h2
    subst h2; simp
theorem gap_rng (h : VsD M) (s : Int) : ∀ k, (0 ≤ (gapTo M s k).1 ∧ (gapTo M s k).1 ≤ 1200) ∧ (0 ≤ (gapTo M s k).2.1 ∧ (gapTo M s k).2.1 ≤ 1200) ∧ (0 ≤ (gapTo M s k).2.2 ∧ (gapTo M s k).2.2 ≤ 1200)
  | 0 => by simp [gapTo]
  | k + 1 => by
    have ih := gap_rng h s k
    cases hx : M[k]? with
    | none =>
      have : gapTo M s (k + 1) = gapTo M s k := by unfold gapTo; rw [List.take_add_one, hx]; simp
      rw [this]; exact ih
    | some x =>
      have := h k x hx
      rw [gap_next hx]
      unfold gapStep
      split
      · split <;> dsimp only <;> omega
      · exact ih
theorem gap_no1 (h : ¬ (VsOK L ∧ (1 ≤ s ∧ s ≤ 6))) : gapF L s = (0, 0) := if_neg h
theorem gap_in (h : VsOK L ∧ (1 ≤ s ∧ s ≤ 6)) (hk : k = L.length + 1) : gapF L s = ((gapTo (L ++ ([(⟨0, s, 1200, 0⟩ : Visit)] : List Visit)) s k).1, (gapTo (L ++ ([(⟨0, s, 1200, 0⟩ : Visit)] : List Visit)) s k).2.1) := by
  subst hk; exact if_pos h
theorem gap_sent (L : List Visit) (s : Int) : gapTo (L ++ ([(⟨0, s, 1200, 0⟩ : Visit)] : List Visit)) s (L.length + 1) = gapStep s (gapTo L s L.length) ⟨0, s, 1200, 0⟩ := by
  unfold gapTo
  rw [List.take_of_length_le (by simp), List.foldl_append, List.take_of_length_le (Nat.le_refl _)]; rfl
theorem gap_inS (h : VsOK L ∧ (1 ≤ s ∧ s ≤ 6)) (hk : k = L.length) (h2 : (gapTo L s k).2.1 < 1200 - (gapTo L s k).2.2) : gapF L s = ((gapTo L s k).2.2, 1200 - (gapTo L s k).2.2) := by
  subst hk
  rw [gap_in h rfl, gap_sent]; unfold gapStep; rw [if_pos rfl, if_pos h2]
theorem gap_inL (h : VsOK L ∧ (1 ≤ s ∧ s ≤ 6)) (hk : k = L.length) (h2 : ¬ (gapTo L s k).2.1 < 1200 - (gapTo L s k).2.2) : gapF L s = ((gapTo L s k).1, (gapTo L s k).2.1) := by
  subst hk
  rw [gap_in h rfl, gap_sent]; unfold gapStep; rw [if_pos rfl, if_neg h2]
/-- What holds of the first 'k' visits. -/
def GapI (L : List Visit) (s : Int) (k : Nat) (t : Int × Int × Int) : Prop :=
  (480 ≤ t.2.2 ∧ t.2.2 ≤ 1200) ∧ (∀ (i : Nat) (x : Visit), i < k → L[i]? = some x → x.Seat = s → x.Until ≤ t.2.2) ∧ (t.2.2 = 480 ∨ ∃ (i : Nat) (x : Visit), i < k ∧ L[i]? = some x ∧ x.Seat = s ∧ x.Until = t.2.2) ∧ 0 ≤ t.2.1 ∧
    (0 < t.2.1 → 480 ≤ t.1 ∧ t.1 + t.2.1 ≤ t.2.2 ∧ (∀ (i : Nat) (x : Visit), i < k → L[i]? = some x → x.Seat = s → x.Until ≤ t.1 ∨ t.1 + t.2.1 ≤ x.From) ∧ (t.1 = 480 ∨ ∃ (i : Nat) (x : Visit), L[i]? = some x ∧ x.Seat = s ∧ x.Until = t.1))
theorem vs_apart (hv : VsOK L) (hx : L[i]? = some x) (hy : L[j]? = some y) (hij : i < j) (hs : x.Seat = y.Seat) : x.Until ≤ y.From := by
  have h1 := (hv.1 j y hy).2.2 i x hij hx
  have h2 := vs_sorted hv (Nat.le_of_lt hij) hx hy
  have h3 := vs_rng hv hy
  unfold clash meetV at h1
  rcases Int.lt_or_le y.From x.Until with h4 | h4
  · exact absurd ⟨⟨by omega, h4⟩, .inl hs⟩ h1
  · exact h4
theorem gapI_next (hv : VsOK L) (h : GapI L s k t) (hx : L[k]? = some x) : GapI L s (k + 1) (gapStep s t x) := by
  obtain ⟨h1, h2, h3, h4, h5⟩ := h
  have hr := vs_rng hv hx
  unfold gapStep
  by_cases hs : x.Seat = s
  · rw [if_pos hs]
    have hf : t.2.2 ≤ x.From := by
      rcases h3 with h3 | ⟨i, y, hi, hy, hys, hyu⟩
      · omega
      · have := vs_apart hv hy hx hi (hys.trans hs.symm); omega
    have hU : ∀ i y, i < k + 1 → L[i]? = some y → y.Seat = s → y.Until ≤ x.Until := fun i y hi hy hys => by
      rcases Nat.lt_or_ge i k with q | q
      · have := h2 i y q hy hys; omega
      · obtain rfl : i = k := by omega
        rw [hx] at hy; injection hy with hy; subst hy; exact Int.le_refl _
    split
    · rename_i hlt
      refine ⟨by dsimp only; omega, hU, .inr ⟨k, x, by omega, hx, hs, rfl⟩, by dsimp only; omega, fun _ => ⟨h1.1, by dsimp only; omega, fun i y hi hy hys => ?_, ?_⟩⟩
      · dsimp only
        rcases Nat.lt_or_ge i k with q | q
        · exact .inl (h2 i y q hy hys)
        · obtain rfl : i = k := by omega
          rw [hx] at hy; injection hy with hy; subst hy; exact .inr (by omega)
      · rcases h3 with h3 | ⟨i, y, hi, hy, hys, hyu⟩
        · exact .inl h3
        · exact .inr ⟨i, y, hy, hys, hyu⟩
    · refine ⟨by dsimp only; omega, hU, .inr ⟨k, x, by omega, hx, hs, rfl⟩, h4, fun h0 => ?_⟩
      obtain ⟨a1, a2, a3, a4⟩ := h5 h0
      refine ⟨a1, by dsimp only; omega, fun i y hi hy hys => ?_, a4⟩
      dsimp only
      rcases Nat.lt_or_ge i k with q | q
      · exact a3 i y q hy hys
      · obtain rfl : i = k := by omega
        rw [hx] at hy; injection hy with hy; subst hy; exact .inr (by omega)
  · rw [if_neg hs]
    have key : ∀ i y, i < k + 1 → L[i]? = some y → y.Seat = s → i < k := fun i y hi hy hys => by
      rcases Nat.lt_or_ge i k with q | q
      · exact q
      · obtain rfl : i = k := by omega
        rw [hx] at hy; injection hy with hy; subst hy; exact absurd hys hs
    refine ⟨h1, fun i y hi hy hys => h2 i y (key i y hi hy hys) hy hys, ?_, h4, fun h0 => ?_⟩
    · rcases h3 with h3 | ⟨i, y, hi, q⟩
      · exact .inl h3
      · exact .inr ⟨i, y, by omega, q⟩
    · obtain ⟨a1, a2, a3, a4⟩ := h5 h0
      exact ⟨a1, a2, fun i y hi hy hys => a3 i y (key i y hi hy hys) hy hys, a4⟩
theorem gapI_to (hv : VsOK L) (s : Int) : ∀ k, k ≤ L.length → GapI L s k (gapTo L s k)
  | 0, _ => ⟨by simp [gapTo], fun i x h => absurd h (by omega), .inl rfl, by simp [gapTo], fun h => by simp [gapTo] at h⟩
  | k + 1, h => by
    have hx := gt_get' (L := L) (k := k) (by omega)
    rw [gap_next hx]; exact gapI_next hv (gapI_to hv s k (by omega)) hx
/-- What the longest time is. -/
theorem gap_law (h : VsOK L ∧ (1 ≤ s ∧ s ≤ 6)) (h0 : 0 < (gapF L s).2) : 480 ≤ (gapF L s).1 ∧ (gapF L s).1 + (gapF L s).2 ≤ 1200 ∧ (∀ (i : Nat) (x : Visit), L[i]? = some x → x.Seat = s → x.Until ≤ (gapF L s).1 ∨ (gapF L s).1 + (gapF L s).2 ≤ x.From) ∧
    ((gapF L s).1 = 480 ∨ ∃ (i : Nat) (x : Visit), L[i]? = some x ∧ x.Seat = s ∧ x.Until = (gapF L s).1) := by
  obtain ⟨h1, h2, h3, h4, h5⟩ := gapI_to h.1 s L.length (Nat.le_refl _)
  have hl : ∀ {i : Nat} {x : Visit}, L[i]? = some x → i < L.length := fun hx => (List.getElem?_eq_some_iff.1 hx).1
  by_cases q : (gapTo L s L.length).2.1 < 1200 - (gapTo L s L.length).2.2
  · rw [gap_inS h rfl q] at h0 ⊢
    dsimp only at h0 ⊢
    refine ⟨h1.1, by omega, fun i x hx hs => .inl (h2 i x (hl hx) hx hs), ?_⟩
    rcases h3 with h3 | ⟨i, y, hi, hy⟩
    · exact .inl h3
    · exact .inr ⟨i, y, hy⟩
  · rw [gap_inL h rfl q] at h0 ⊢
    dsimp only at h0 ⊢
    obtain ⟨a1, a2, a3, a4⟩ := h5 h0
    exact ⟨a1, by omega, fun i x hx hs => a3 i x (hl hx) hx hs, a4⟩
theorem mem_free {v : Int} : ∀ {k : Nat}, v ∈ freeN L a b k ↔ ∃ j : Nat, j < k ∧ v = (j : Int) + 1 ∧ ¬ L.any (keepV ((j : Int) + 1) a b) = true
  | 0 => by simp [freeN]
  | k + 1 => by
    unfold freeN
    rw [List.mem_append, mem_free (k := k)]
    constructor
    · rintro (⟨j, h1, h2⟩ | h)
      · exact ⟨j, by omega, h2⟩
      · split at h
        · simp at h
        · rename_i hn
          exact ⟨k, by omega, by simpa using h, hn⟩
    · rintro ⟨j, h1, h2, h3⟩
      rcases Nat.lt_or_ge j k with q | q
      · exact .inl ⟨j, q, h2, h3⟩
      · obtain rfl : j = k := by omega
        refine .inr ?_
        rw [if_neg h3]; simp [h2]
theorem mem_freeF (h : VsOK L ∧ (480 ≤ a ∧ a ≤ 1200) ∧ (480 ≤ b ∧ b ≤ 1200) ∧ a < b) (hs : 1 ≤ s ∧ s ≤ 6) : s ∈ freeF L a b ↔ ∀ (i : Nat) (x : Visit), L[i]? = some x → x.Seat = s → ¬ meetV x a b := by
  unfold freeF; rw [if_pos h, mem_free]
  constructor
  · rintro ⟨j, h1, h2, h3⟩ i x hx hxs hm
    apply h3
    rw [List.any_eq_true]
    exact ⟨x, List.mem_of_getElem? hx, by unfold keepV; exact decide_eq_true ⟨by omega, hm⟩⟩
  · intro hf
    refine ⟨(s - 1).toNat, by omega, by omega, fun hk => ?_⟩
    rw [List.any_eq_true] at hk
    obtain ⟨x, hx, hp⟩ := hk
    obtain ⟨i, hi⟩ := List.mem_iff_getElem?.1 hx
    have := of_decide_eq_true hp
    exact hf i x hi (by omega) this.2
/-- In its longest gap a seat is free. -/
def GaLaw (L : List Visit) (s : Int) : Prop := VsOK L ∧ (1 ≤ s ∧ s ≤ 6) → 0 < (gapF L s).2 →
  (VsOK L ∧ (480 ≤ (gapF L s).1 ∧ (gapF L s).1 ≤ 1200) ∧ (480 ≤ (gapF L s).1 + (gapF L s).2 ∧ (gapF L s).1 + (gapF L s).2 ≤ 1200) ∧ (gapF L s).1 < (gapF L s).1 + (gapF L s).2) ∧ s ∈ freeF L (gapF L s).1 ((gapF L s).1 + (gapF L s).2) ∧
    (480 < (gapF L s).1 → (VsOK L ∧ (480 ≤ (gapF L s).1 - 1 ∧ (gapF L s).1 - 1 ≤ 1200) ∧ (480 ≤ (gapF L s).1 + (gapF L s).2 ∧ (gapF L s).1 + (gapF L s).2 ≤ 1200) ∧ (gapF L s).1 - 1 < (gapF L s).1 + (gapF L s).2) ∧ ¬ s ∈ freeF L ((gapF L s).1 - 1) ((gapF L s).1 + (gapF L s).2))
theorem ga_law (L : List Visit) (s : Int) : GaLaw L s := fun h h0 => by
  obtain ⟨h1, h2, h3, h4⟩ := gap_law h h0
  have k1 : VsOK L ∧ (480 ≤ (gapF L s).1 ∧ (gapF L s).1 ≤ 1200) ∧ (480 ≤ (gapF L s).1 + (gapF L s).2 ∧ (gapF L s).1 + (gapF L s).2 ≤ 1200) ∧ (gapF L s).1 < (gapF L s).1 + (gapF L s).2 := ⟨h.1, by omega, by omega, by omega⟩
  refine ⟨k1, ?_, fun h5 => ?_⟩
  · rw [mem_freeF k1 h.2]
    intro i x hx hs hm
    have := h3 i x hx hs
    unfold meetV at hm; omega
  · have k2 : VsOK L ∧ (480 ≤ (gapF L s).1 - 1 ∧ (gapF L s).1 - 1 ≤ 1200) ∧ (480 ≤ (gapF L s).1 + (gapF L s).2 ∧ (gapF L s).1 + (gapF L s).2 ≤ 1200) ∧ (gapF L s).1 - 1 < (gapF L s).1 + (gapF L s).2 := ⟨h.1, by omega, by omega, by omega⟩
    refine ⟨k2, fun hm => ?_⟩
    rw [mem_freeF k2 h.2] at hm
    rcases h4 with h4 | ⟨i, x, hx, hs, hu⟩
    · omega
    · have := vs_rng h.1 hx
      exact hm i x hx hs (by unfold meetV; omega)
theorem gapF_rng (L : List Visit) (s : Int) : (0 ≤ (gapF L s).1 ∧ (gapF L s).1 ≤ 1200) ∧ (0 ≤ (gapF L s).2 ∧ (gapF L s).2 ≤ 1200) := by
  by_cases h : VsOK L ∧ (1 ≤ s ∧ s ≤ 6)
  · have := gap_rng (VsD.sent h.1 s) s (L.length + 1)
    rw [gap_in h rfl]; dsimp only; omega
  · rw [gap_no1 h]; simp
/-- No minute is fuller than the fullest one. -/
def FuLaw (L : List Visit) (m : Int) : Prop := VsOK L → (480 ≤ m ∧ m ≤ 1200 → ((satL L m).length : Int) ≤ (fullN L 720).2) ∧ (480 ≤ (fullN L 720).1 ∧ (fullN L 720).1 ≤ 1200) ∧ ((satL L (fullN L 720).1).length : Int) = (fullN L 720).2
theorem cnt_1200 (h : VsOK L) : cntV L 1200 = 0 := by
  rw [cnt_rdrs]
  refine Nat.eq_zero_of_not_pos fun hp => ?_
  rw [List.countP_pos_iff] at hp
  obtain ⟨x, hx, hv⟩ := hp
  obtain ⟨i, hi⟩ := List.mem_iff_getElem?.1 hx
  have h1 := vs_rng h hi
  have h2 := of_decide_eq_true hv
  omega
theorem fu_law (L : List Visit) (m : Int) : FuLaw L m := fun h => by
  obtain ⟨h1, h2, h3, h4⟩ := fullM_N L 720
  have hb : (480 ≤ (fullN L 720).1 ∧ (fullN L 720).1 ≤ 1200) ∧ (cntV L (fullN L 720).1 : Int) = (fullN L 720).2 := by
    rcases Int.lt_or_le 0 (fullN L 720).2 with q | q
    · have := h4 q
      exact ⟨⟨this.1, by omega⟩, this.2.2.1⟩
    · have e : (fullN L 720).2 = 0 := by omega
      have e1 := h3 e
      have := h1 480 (by omega) (by omega)
      rw [e1]; exact ⟨by omega, by omega⟩
  refine ⟨fun hm => ?_, hb.1, ?_⟩
  · have e : (satL L m).length = cntV L m := by unfold satL; rw [if_pos ⟨h, hm⟩]; rfl
    rw [e]
    rcases Int.lt_or_le m 1200 with q | q
    · exact h1 m hm.1 (by omega)
    · obtain rfl : m = 1200 := by omega
      rw [cnt_1200 h]; omega
  · have e : (satL L (fullN L 720).1).length = cntV L (fullN L 720).1 := by unfold satL; rw [if_pos ⟨h, hb.1⟩]; rfl
    rw [e]; exact hb.2
theorem fullN_rng (L : List Visit) : (480 ≤ (fullN L 720).1 ∧ (fullN L 720).1 ≤ 1200) ∧ 0 ≤ (fullN L 720).2 := by
  obtain ⟨h1, h2, h3, h4⟩ := fullM_N L 720
  rcases Int.lt_or_le 0 (fullN L 720).2 with q | q
  · have := h4 q; omega
  · have := h3 (by omega); omega
/-- Who changes the seat keeps the time. -/
def CsLaw (L : List Visit) (r m s : Int) : Prop := (chg L r m s).isSome = true → (VsOK ((chg L r m s).getD []) ∧ (1 ≤ r ∧ r ≤ 999) ∧ (480 ≤ m ∧ m ≤ 1200)) ∧ VsOK L ∧ seatO ((chg L r m s).getD []) r m = s ∧ minsN L r = minsN ((chg L r m s).getD []) r
theorem mins_set (hx : L[i]? = some x) : minsN (L.set i { x with Seat := s }) r = minsN L r := by
  have hi := (List.getElem?_eq_some_iff.1 hx).1
  have e1 : L = L.take i ++ x :: L.drop (i + 1) := by
    have := List.take_append_drop i L
    rw [List.drop_eq_getElem_cons hi, (List.getElem?_eq_some_iff.1 hx).2] at this
    exact this.symm
  have e2 : L.set i { x with Seat := s } = L.take i ++ { x with Seat := s } :: L.drop (i + 1) := by
    rw [List.set_eq_take_append_cons_drop, if_pos hi]
  rw [e2, mins_app]
  conv => rhs; rw [e1]
  rw [mins_app]; simp [minsN]
theorem cs_law (L : List Visit) (r m s : Int) : CsLaw L r m s := by
  intro hs
  by_cases hc : VsOK L ∧ 480 ≤ m ∧ m ≤ 1200 ∧ 0 ≤ idxF (atV r m) L
  · obtain ⟨x, hx, ha, hn⟩ := idx_spec rfl hc.2.2.2
    have hrr := at_rdr hc.1 hc.2.2.2
    have hi := (List.getElem?_eq_some_iff.1 hx).1
    by_cases hsx : x.Seat = s
    · rw [chg_same hx rfl hsx] at hs; cases hs
    by_cases hv : VsOK (L.set (idxF (atV r m) L).toNat { x with Seat := s })
    · rw [chg_yes hx rfl hc hsx hv]
      dsimp only [Option.getD_some]
      have hj : idxF (atV r m) (L.set (idxF (atV r m) L).toNat { x with Seat := s }) = idxF (atV r m) L := by
        have := idx_at (p := atV r m) (L := L.set (idxF (atV r m) L).toNat { x with Seat := s }) (k := (idxF (atV r m) L).toNat) (x := { x with Seat := s }) (fun j y hj hy => ?_) (by rw [List.getElem?_set_self hi]) (by unfold atV at ha ⊢; exact ha)
        · rw [← this]; have := hc.2.2.2; omega
        · rw [List.getElem?_set, if_neg (by omega)] at hy; exact hn j y hj hy
      refine ⟨⟨hv, hrr, hc.2.1, hc.2.2.1⟩, hc.1, ?_, (mins_set hx).symm⟩
      exact (seatO_in (i := idxF (atV r m) L) ⟨hv, hrr, hc.2.1, hc.2.2.1⟩ (x := { x with Seat := s }) (by rw [List.getElem?_set_self hi]) hj.symm hc.2.2.2).symm
    · rw [chg_bad hx rfl hv] at hs; cases hs
  · rw [chg_no hc] at hs; cases hs
end
end Go.Proofs.YthgbcadgnihdiaaGreatDoor
