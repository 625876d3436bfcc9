/- Plain words on lists, for loops over slices. -/
import Derived.Test.YtnbbfokkpkphoaaGreatDoorFm
namespace Go.Proofs.YtnbbfokkpkphoaaGreatDoor.Fw
section
variable {α : Type} {L L' : List α} {k n m : Nat} {x y z : α}
theorem tk_init : List.replicate n z = L.take 0 ++ List.replicate (n - 0) z := by simp
theorem tk_set (hx : L[k]? = some x) (hn : n = L.length) : (L.take k ++ List.replicate (n - k) z).set k x = L.take (k + 1) ++ List.replicate (n - (k + 1)) z := by
  have hk := (List.getElem?_eq_some_iff.1 hx).1
  have hkx := (List.getElem?_eq_some_iff.1 hx).2
  have h1 : (L.take k).length = k := by simp; omega
  rw [List.set_append_right _ _ (by omega), h1, Nat.sub_self, show n - k = (n - (k + 1)) + 1 by omega, List.replicate_succ, List.set_cons_zero, List.take_succ_eq_append_getElem hk, hkx, List.append_assoc, List.singleton_append]
theorem tk_end (hn : n = L.length) (hk : ¬ (k : Int) < (n : Int)) (hkn : k ≤ n) : L.take k ++ List.replicate (n - k) z = L := by
  obtain rfl : k = n := by omega
  subst hn; simp
theorem tk_get (hx : (L.take k ++ List.replicate (n - k) z)[k]? = some y) (hn : n = L.length) (hk : k < n) : y = z := by
  rw [List.getElem?_append_right (by simp; omega)] at hx
  simp at hx
  rw [List.getElem?_replicate, if_pos (by omega)] at hx
  simpa using hx.symm
theorem take_next (h : L.take k = L'.take k) (hx : L[k]? = some x) (hy : L'[k]? = some y) (e : x = y) : L.take (k + 1) = L'.take (k + 1) := by
  subst e
  rw [List.take_add_one, List.take_add_one, hx, hy, h]
theorem take_end (h : L.take k = L'.take k) (hn : n = L.length) (hm : m = L'.length) (e : n = m) (hk : ¬ (k : Int) < (n : Int)) : L = L' := by
  rw [← List.take_of_length_le (l := L) (i := k) (by omega), h, List.take_of_length_le (by omega)]
theorem ne_at (hx : L[k]? = some x) (hy : L'[k]? = some y) (e : ¬ x = y) : ¬ L = L' := by
  rintro rfl
  rw [hx] at hy; exact e (by simpa using hy)
theorem take_snoc (hx : L[k]? = some x) : L.take (k + 1) = L.take k ++ [x] := by rw [List.take_add_one, hx]; rfl
theorem take_all (hn : n = L.length) (hk : ¬ (k : Int) < (n : Int)) : L.take k = L := List.take_of_length_le (by omega)
end
/-- How much room is left behind a list of 'm' elements. -/
def szN (m : Nat) (left : Int) : Int := if left - m < 0 then -1 else left - m
theorem szN_neg {m : Nat} {left : Int} (h : szN m left < 0) : -1 = szN m left := by unfold szN at *; split at h <;> omega
theorem szN_neg1 {m k : Nat} {left : Int} (h : szN m left < 0) : -1 = szN (m + k) left := by unfold szN at *; split at h <;> split <;> omega
theorem szN_neg2 {m k : Nat} {left : Int} (h : ¬ szN m left < 0) (h' : szN k (szN m left) < 0) : -1 = szN (m + k) left := by unfold szN at *; split at h <;> split at h' <;> split <;> omega
theorem szN_add {m k : Nat} {left : Int} (h : ¬ szN m left < 0) (h' : ¬ szN k (szN m left) < 0) : szN k (szN m left) = szN (m + k) left := by unfold szN at *; split at h <;> split at h' <;> split <;> omega
theorem szN_ok {m : Nat} {left : Int} (h : ¬ szN m left < 0) : (m : Int) ≤ left ∧ szN m left = left - m := by
  unfold szN at *
  split at h
  · omega
  · rename_i h1; rw [if_neg h1]; omega
/-- A list that was marked: element i is 'mk (k + s * i)'. -/
def mkL {α : Type} (mk : Int → α) (s : Int) (n : Nat) (k : Int) : List α := (List.range n).map fun (i : Nat) => mk (k + s * (i : Int))
section
variable {α : Type} {mk : Int → α} {s k : Int} {n i : Nat} {x : α} {L : List α}
theorem mkL_len : (mkL mk s n k).length = n := by simp [mkL]
theorem mkL_get (hx : (mkL mk s n k)[i]? = some x) : x = mk (k + s * i) := by
  have h := (List.getElem?_eq_some_iff.1 hx).1
  rw [mkL_len] at h
  simp only [mkL, List.getElem?_map, List.getElem?_range h, Option.map_some, Option.some.injEq] at hx
  exact hx.symm
theorem mkL_init : L = mkL mk s 0 k ++ L.drop 0 := by simp [mkL]
theorem mkL_set (h : i < L.length) (e : x = mk (k + s * i)) : (mkL mk s i k ++ L.drop i).set i x = mkL mk s (i + 1) k ++ L.drop (i + 1) := by
  subst e
  rw [List.set_append_right _ _ (by rw [mkL_len]; exact Nat.le_refl _), mkL_len, Nat.sub_self, List.drop_eq_getElem_cons h, List.set_cons_zero]
  simp [mkL, List.range_succ]
theorem mkL_end (hn : n = L.length) (hi : ¬ (i : Int) < (n : Int)) (hin : i ≤ n) : mkL mk s i k ++ L.drop i = mkL mk s L.length k := by
  obtain rfl : i = n := by omega
  subst hn; simp
end
end Go.Proofs.YtnbbfokkpkphoaaGreatDoor.Fw
