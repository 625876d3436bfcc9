/- Laws of visits: plain words. -/
import Derived.Test.YthgbcadgnihdiaaRc
namespace Go.Proofs.Ythgbcadgnihdiaa
open Go Go.RowKit Fw
section
variable {L o : List Visit} {a b r m s : Int} {k j i : Nat} {x y z : Visit}
theorem at_iff : atV r m x = true ↔ x.Reader = r ∧ x.From ≤ m ∧ m ≤ x.Until - 1 := by simp [atV]
theorem at_uniq (hv : VsOK L) (hx : L[i]? = some x) (hy : L[j]? = some y) (ha : atV r m x = true) (hb : atV r m y = true) : i = j := by
  rw [at_iff] at ha hb
  rcases Nat.lt_trichotomy i j with h | h | h
  · exact absurd ⟨⟨by omega, by omega⟩, .inr (by omega)⟩ ((hv.1 j y hy).2.2 i x h hx)
  · exact h
  · exact absurd ⟨⟨by omega, by omega⟩, .inr (by omega)⟩ ((hv.1 i x hx).2.2 j y h hy)
theorem at_idx (hv : VsOK L) (hx : L[k]? = some x) (ha : atV r m x = true) : idxF (atV r m) L = (k : Int) := by
  have h0 : 0 ≤ idxF (atV r m) L := any_idx.2 (List.any_eq_true.2 ⟨x, List.mem_of_getElem? hx, ha⟩)
  obtain ⟨y, hy, hb, -⟩ := idx_spec rfl h0
  have := at_uniq hv hx hy ha hb
  omega
theorem idx_none (h : ∀ (j : Nat) (y : Visit), o[j]? = some y → ¬ atV r m y = true) : idxF (atV r m) o < 0 := by
  rcases Int.lt_or_le (idxF (atV r m) o) 0 with h0 | h0
  · exact h0
  · obtain ⟨y, hy, hb, -⟩ := idx_spec rfl h0
    exact absurd hb (h _ _ hy)
theorem er_get (L : List Visit) (i j : Nat) : (L.take i ++ L.drop (i + 1))[j]? = if j < i then L[j]? else L[j + 1]? := by
  rw [← List.eraseIdx_eq_take_drop_succ]; exact List.getElem?_eraseIdx
theorem er_ok (hv : VsOK L) : VsOK (L.take i ++ L.drop (i + 1)) := by
  have key : ∀ j z, (L.take i ++ L.drop (i + 1))[j]? = some z → ∃ q, L[q]? = some z ∧ q = if j < i then j else j + 1 := by
    intro j z hz; rw [er_get] at hz
    by_cases h : j < i
    · rw [if_pos h] at hz; exact ⟨j, hz, (if_pos h).symm⟩
    · rw [if_neg h] at hz; exact ⟨j + 1, hz, (if_neg h).symm⟩
  refine ⟨fun j z hz => ?_, ?_⟩
  · obtain ⟨q, hq, eq⟩ := key j z hz
    have hs := hv.1 q z hq
    refine ⟨hs.1, fun y h0 hy => ?_, fun p y hp hy => ?_⟩
    · obtain ⟨p, hp, ep⟩ := key _ y hy
      exact vs_sorted hv (i := p) (j := q) (by rw [eq, ep]; split <;> split <;> omega) hp hq
    · obtain ⟨t, ht, et⟩ := key _ y hy
      exact hs.2.2 t y (by rw [eq, et]; split <;> split <;> omega) ht
  · have := vs_len hv
    simp only [List.length_append, List.length_take, List.length_drop]; omega
theorem st_get (L : List Visit) (hx : L[i]? = some x) (y : Visit) (j : Nat) : (L.set i y)[j]? = if i = j then some y else L[j]? := by
  have := (List.getElem?_eq_some_iff.1 hx).1
  rw [List.getElem?_set]; simp [this]
theorem st_ok (hv : VsOK L) (hx : L[i]? = some x) (h1 : x.From < m) (h2 : m ≤ x.Until - 1) : VsOK (L.set i { x with Until := m }) := by
  have hxs := hv.1 i x hx
  refine ⟨fun j z hz => ?_, by rw [List.length_set]; exact vs_len hv⟩
  rw [st_get L hx] at hz
  by_cases e : i = j
  · subst e
    rw [if_pos rfl] at hz; injection hz with hz; subst hz
    have hok := hxs.1
    refine ⟨by unfold VOK at *; dsimp only; omega, fun y h0 hy => ?_, fun p y hp hy => ?_⟩
    · rw [st_get L hx, if_neg (by omega)] at hy; exact hxs.2.1 y h0 hy
    · rw [st_get L hx, if_neg (by omega)] at hy
      have := hxs.2.2 p y hp hy
      unfold clash meetV at *
      dsimp only
      intro hc; exact this ⟨⟨by omega, by omega⟩, hc.2⟩
  · rw [if_neg e] at hz
    have hzs := hv.1 j z hz
    refine ⟨hzs.1, fun y h0 hy => ?_, fun p y hp hy => ?_⟩
    · rw [st_get L hx] at hy
      by_cases e2 : i = j - 1
      · rw [if_pos e2] at hy; injection hy with hy; subst hy
        exact hzs.2.1 x h0 (e2 ▸ hx)
      · rw [if_neg e2] at hy; exact hzs.2.1 y h0 hy
    · rw [st_get L hx] at hy
      by_cases e2 : i = p
      · rw [if_pos e2] at hy; injection hy with hy; subst hy
        have := hzs.2.2 i x (by omega) hx
        unfold clash meetV at *
        dsimp only
        intro hc; exact this ⟨⟨by omega, by omega⟩, hc.2⟩
      · rw [if_neg e2] at hy; exact hzs.2.2 p y hp hy
/-- Who leaves is not there. -/
def LeLaw (L : List Visit) (r m : Int) : Prop := (lvs L r m).isSome = true → (VsOK ((lvs L r m).getD []) ∧ (1 ≤ r ∧ r ≤ 999) ∧ (480 ≤ m ∧ m ≤ 1200)) ∧ seatO ((lvs L r m).getD []) r m = 0
theorem le_law (L : List Visit) (r m : Int) : LeLaw L r m := by
  intro hs
  by_cases hc : VsOK L ∧ 480 ≤ m ∧ m ≤ 1200 ∧ 0 ≤ idxF (atV r m) L
  · obtain ⟨x, hx, ha, -⟩ := idx_spec rfl hc.2.2.2
    have ha' := at_iff.1 ha
    have hr := vs_rng hc.1 hx
    have hrr : 1 ≤ r ∧ r ≤ 999 := by omega
    by_cases he : x.From = m
    · have e := lvs_del hx rfl hc he
      rw [show (idxF (atV r m) L + 1).toNat = (idxF (atV r m) L).toNat + 1 by have := hc.2.2.2; omega] at e
      rw [e]
      refine ⟨⟨er_ok hc.1, hrr, hc.2.1, hc.2.2.1⟩, seatO_out (idx_none fun j y hy hb => ?_)⟩
      rw [Option.getD_some, er_get] at hy
      split at hy
      · have := at_uniq hc.1 hx hy ha hb; omega
      · have := at_uniq hc.1 hx hy ha hb; omega
    · have e := lvs_set hx rfl hc he
      rw [e]
      refine ⟨⟨st_ok hc.1 hx (by omega) (by omega), hrr, hc.2.1, hc.2.2.1⟩, seatO_out (idx_none fun j y hy hb => ?_)⟩
      rw [Option.getD_some, st_get L hx] at hy
      split at hy
      · injection hy with hy; subst hy
        have := at_iff.1 hb; dsimp only at this; omega
      · rename_i hne
        exact hne (at_uniq hc.1 hx hy ha hb)
  · rw [lvs_no hc] at hs; cases hs
/-- Who is seated has a seat that was free, sits on it, and has left it when they leave. -/
def ViLaw (L : List Visit) (r a b : Int) : Prop := (seatR L r a b).isSome = true → (VsOK L ∧ (480 ≤ a ∧ a ≤ 1200) ∧ (480 ≤ b ∧ b ≤ 1200) ∧ a < b) ∧ (VsOK ((seatR L r a b).elim [] (·.1)) ∧ (1 ≤ r ∧ r ≤ 999) ∧ (480 ≤ a ∧ a ≤ 1200)) ∧ (lvs ((seatR L r a b).elim [] (·.1)) r a).isSome = true ∧ (seatR L r a b).elim 0 (·.2) ∈ freeF L a b ∧
  seatO ((seatR L r a b).elim [] (·.1)) r a = (seatR L r a b).elim 0 (·.2) ∧ minsN ((seatR L r a b).elim [] (·.1)) r - minsN L r = b - a ∧ (lvs ((seatR L r a b).elim [] (·.1)) r a).getD [] = L
theorem vi_law (L : List Visit) (r a b : Int) : ViLaw L r a b := by
  intro hs
  by_cases hc : VsOK L ∧ (480 ≤ a ∧ a ≤ 1200) ∧ (480 ≤ b ∧ b ≤ 1200) ∧ a < b
  · cases hf : (freeN L a b 6)[0]? with
    | none => unfold seatR at hs; rw [if_pos hc, hf] at hs; cases hs
    | some s =>
      by_cases hv : VsOK (L.take (posV L a) ++ [⟨r, s, a, b⟩] ++ L.drop (posV L a))
      · rw [seat_yes hc.1 hc.2 hf rfl hv]
        have hp : posV L a ≤ L.length := by
          unfold posV; exact (List.takeWhile_sublist _).length_le
        generalize posV L a = p at *
        have hx : (L.take p ++ [(⟨r, s, a, b⟩ : Visit)] ++ L.drop p)[p]? = some ⟨r, s, a, b⟩ := by
          have hl : (L.take p).length = p := by rw [List.length_take]; omega
          rw [List.append_assoc, List.getElem?_append_right (by omega), hl, Nat.sub_self]; rfl
        have hr := vs_rng hv hx
        dsimp only at hr
        have ha : atV r a (⟨r, s, a, b⟩ : Visit) = true := at_iff.2 ⟨rfl, Int.le_refl _, by dsimp only; omega⟩
        have hi := at_idx hv hx ha
        dsimp only [Option.elim]
        have hxi : (L.take p ++ [(⟨r, s, a, b⟩ : Visit)] ++ L.drop p)[(idxF (atV r a) (L.take p ++ [(⟨r, s, a, b⟩ : Visit)] ++ L.drop p)).toNat]? = some ⟨r, s, a, b⟩ := by rw [hi]; simpa using hx
        have hi0 : 0 ≤ idxF (atV r a) (L.take p ++ [(⟨r, s, a, b⟩ : Visit)] ++ L.drop p) := by rw [hi]; omega
        have el := lvs_del (r := r) (m := a) hxi rfl ⟨hv, hc.2.1.1, hc.2.1.2, hi0⟩ rfl
        have ht : (L.take p ++ [(⟨r, s, a, b⟩ : Visit)] ++ L.drop p).take p = L.take p := by
          rw [List.append_assoc, List.take_append_of_le_length (by simp; omega), List.take_of_length_le (by simp; omega)]
        have hd : (L.take p ++ [(⟨r, s, a, b⟩ : Visit)] ++ L.drop p).drop (p + 1) = L.drop p := by
          rw [List.drop_append, List.drop_of_length_le (by simp; omega)]
          simp only [List.length_append, List.length_take, List.length_cons, List.length_nil, List.nil_append]
          rw [show p + 1 - (min p L.length + (0 + 1)) = 0 by omega]; rfl
        rw [hi, show (p : Int).toNat = p by omega, show ((p : Int) + 1).toNat = p + 1 by omega, ht, hd, List.take_append_drop] at el
        refine ⟨hc, ⟨hv, hr.1, hc.2.1⟩, by rw [el]; rfl, ?_, ?_, ?_, by rw [el]; rfl⟩
        · unfold freeF; rw [if_pos hc]; exact List.mem_of_getElem? hf
        · exact (seatO_in ⟨hv, hr.1, hc.2.1⟩ hxi rfl (by omega)).symm
        · have e : minsN L r = minsN (L.take p) r + minsN (L.drop p) r := by rw [← mins_app, List.take_append_drop]
          rw [mins_app, mins_app, e]
          simp [minsN]; omega
      · rw [seat_bad hf rfl hv] at hs; cases hs
  · rw [seat_no hc] at hs; cases hs
theorem vi_bad (hl : ViLaw L r a b) (hs : (seatR L r a b).isSome = true) (h : ¬ (VsOK L ∧ (480 ≤ a ∧ a ≤ 1200) ∧ (480 ≤ b ∧ b ≤ 1200) ∧ a < b) ∨ ¬ (VsOK ((seatR L r a b).elim [] (·.1)) ∧ (1 ≤ r ∧ r ≤ 999) ∧ 480 ≤ a ∧ a ≤ 1200) ∨ ¬ (VsOK L ∧ 1 ≤ r ∧ r ≤ 999) ∨ ¬ (VsOK ((seatR L r a b).elim [] (·.1)) ∧ 1 ≤ r ∧ r ≤ 999) ∨
    (!(lvs ((seatR L r a b).elim [] (·.1)) r a).isSome) = true ∨ ¬ ((seatR L r a b).elim 0 (·.2)) ∈ freeF L a b ∨ ¬ seatO ((seatR L r a b).elim [] (·.1)) r a = ((seatR L r a b).elim 0 (·.2)) ∨ ¬ (if VsOK ((seatR L r a b).elim [] (·.1)) ∧ 1 ≤ r ∧ r ≤ 999 then minsN ((seatR L r a b).elim [] (·.1)) r else 0) - (if VsOK L ∧ 1 ≤ r ∧ r ≤ 999 then minsN L r else 0) = b - a ∨ ¬ (lvs ((seatR L r a b).elim [] (·.1)) r a).getD [] = L) : False := by
  obtain ⟨h1, h2, h3, h4, h5, h6, h7⟩ := hl hs
  rw [if_pos ⟨h2.1, h2.2.1⟩, if_pos ⟨h1.1, h2.2.1⟩] at h
  rcases h with h | h | h | h | h | h | h | h | h
  · exact h h1
  · exact h h2
  · exact h ⟨h1.1, h2.2.1⟩
  · exact h ⟨h2.1, h2.2.1⟩
  · rw [h3] at h; cases h
  · exact h h4
  · exact h h5
  · exact h h6
  · exact h h7
theorem le_bad (hl : LeLaw L r m) (hs : (lvs L r m).isSome = true) (h : ¬ (VsOK ((lvs L r m).getD []) ∧ (1 ≤ r ∧ r ≤ 999) ∧ 480 ≤ m ∧ m ≤ 1200) ∨ ¬ seatO ((lvs L r m).getD []) r m = 0) : False := h.elim (fun h => h (hl hs).1) (fun h => h (hl hs).2)
end
end Go.Proofs.Ythgbcadgnihdiaa
