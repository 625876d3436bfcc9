/- Plain words on numerals that are read. -/
import Derived.Test.YtnbbfokkpkphoaaGreatDoorWa
import Derived.Lib.AtoiAll
namespace Go.Proofs.YtnbbfokkpkphoaaGreatDoor
open Go Go.RowKit Fw
theorem dig_all : ∀ (u : Nat), ∀ c ∈ Lib.decDigits u, 48 ≤ c.toNat ∧ c.toNat ≤ 57 := by
  intro u
  induction u using Nat.strongRecOn with
  | _ u ih =>
    intro c hc
    rw [Lib.decDigits] at hc
    split at hc
    · rename_i h
      obtain rfl := List.mem_singleton.1 hc
      rw [UInt8.toNat_ofNat']; omega
    · rename_i h
      rcases List.mem_append.1 hc with h1 | h1
      · exact ih _ (by omega) c h1
      · obtain rfl := List.mem_singleton.1 h1
        rw [UInt8.toNat_ofNat']; omega
theorem parse_snoc {c : UInt8} : ∀ (l : List UInt8) (acc v : Nat), Lib.parseUint10 acc l = .ok v → v < 1000000000 → 48 ≤ c.toNat ∧ c.toNat ≤ 57 → Lib.parseUint10 acc (l ++ [c]) = .ok (v * 10 + (c.toNat - 48))
  | [], acc, v, h, hv, hc => by
    simp only [Lib.parseUint10] at h
    injection h with h
    subst h
    simp only [List.nil_append, Lib.parseUint10, if_pos hc]
    rw [if_neg (by omega), if_neg (by omega)]
  | d :: r, acc, v, h, hv, hc => by
    simp only [List.cons_append, Lib.parseUint10] at h ⊢
    split at h
    · rw [if_pos ‹_›]
      split at h
      · cases h
      · rw [if_neg ‹_›]
        split at h
        · cases h
        · rw [if_neg ‹_›]; exact parse_snoc r _ v h hv hc
    · cases h
theorem parse_dig : ∀ (u : Nat), u < 1000000000 → Lib.parseUint10 0 (Lib.decDigits u) = .ok u := by
  intro u
  induction u using Nat.strongRecOn with
  | _ u ih =>
    intro hu
    by_cases h : u < 10
    · rw [Lib.decDigits_one h]
      simp only [Lib.parseUint10]
      have e : (UInt8.ofNat (48 + u)).toNat = 48 + u := by rw [UInt8.toNat_ofNat']; omega
      rw [e, if_pos (by omega), if_neg (by omega), if_neg (by omega)]
      congr 1; omega
    · rw [Lib.decDigits, dif_neg h]
      have e : (UInt8.ofNat (48 + u % 10)).toNat = 48 + u % 10 := by rw [UInt8.toNat_ofNat']; omega
      rw [parse_snoc _ _ (u / 10) (ih (u / 10) (by omega) (by omega)) (by omega) (by omega), e]
      congr 1; omega
theorem dig_ne (u : Nat) : Lib.decDigits u ≠ [] := by
  rw [Lib.decDigits]; split <;> simp
theorem atoi_itoa {n : Int} (h : -999999999 ≤ n ∧ n ≤ 999999999) : Lib.atoiAll (Lib.itoa n) = .ok n := by
  unfold Lib.itoa
  split
  · unfold Lib.atoiAll Lib.parseMag
    simp only [show (45 : UInt8).toNat = 45 from rfl, or_true, if_true, if_neg (dig_ne _), parse_dig n.natAbs (by omega)]
    rw [if_neg (by simp), if_neg (by omega)]
    congr 1; omega
  · have hp := parse_dig n.toNat (by omega)
    have hd := dig_all n.toNat
    cases hl : Lib.decDigits n.toNat with
    | nil => exact absurd hl (dig_ne _)
    | cons c r =>
      rw [hl] at hp hd
      have hc := hd c (by simp)
      unfold Lib.atoiAll Lib.parseMag
      simp only
      rw [if_neg (show ¬ (c.toNat = 43 ∨ c.toNat = 45) by omega), if_neg (by simp), hp]
      simp only
      rw [if_neg (by omega), if_neg (by omega), if_neg (by omega)]
      congr 1; omega
theorem itoa_inj {n m : Int} (hn : -999999999 ≤ n ∧ n ≤ 999999999) (hm : -999999999 ≤ m ∧ m ≤ 999999999) (h : Lib.itoa n = Lib.itoa m) : n = m := by
  have h1 := atoi_itoa hn
  rw [h, atoi_itoa hm] at h1
  injection h1 with h1; exact h1.symm
/-- A text that is a number's own. -/
def IsNum (s : List UInt8) (n : Int) : Prop := (-999999 ≤ n ∧ n ≤ 999999) ∧ Lib.itoa n = s
open Classical in
noncomputable def readN (s : List UInt8) : Int × Bool := if h : ∃ n, IsNum s n then (h.choose, true) else (0, false)
section
variable {s : List UInt8} {n : Int}
theorem readN_yes (h : IsNum s n) : readN s = (n, true) := by
  have hx : ∃ n, IsNum s n := ⟨n, h⟩
  unfold readN; rw [dif_pos hx]
  have h2 := hx.choose_spec
  rw [itoa_inj (by have := h2.1; omega) (by have := h.1; omega) (h2.2.trans h.2.symm)]
theorem readN_no (h : ∀ n, ¬ IsNum s n) : readN s = (0, false) := by
  unfold readN; rw [dif_neg (fun ⟨n, hn⟩ => h n hn)]
theorem readN_rng (s : List UInt8) : -999999 ≤ (readN s).1 ∧ (readN s).1 ≤ 999999 := by
  by_cases h : ∃ n, IsNum s n
  · obtain ⟨n, hn⟩ := h; rw [readN_yes hn]; exact hn.1
  · rw [readN_no (fun n hn => h ⟨n, hn⟩)]; simp
theorem num_atoi (h : IsNum s n) : Lib.atoiAll s = .ok n := by rw [← h.2]; exact atoi_itoa (by have := h.1; omega)
end
/-- What the digits spell. -/
def decV (l : List UInt8) : Int := l.foldl (fun h c => 10 * h + ((c.toNat : Int) - 48)) 0
theorem decV_snoc (l : List UInt8) (c : UInt8) : decV (l ++ [c]) = 10 * decV l + ((c.toNat : Int) - 48) := by unfold decV; rw [List.foldl_append]; rfl
theorem decV_dig : ∀ (u : Nat), decV (Lib.decDigits u) = u := by
  intro u
  induction u using Nat.strongRecOn with
  | _ u ih =>
    by_cases h : u < 10
    · rw [Lib.decDigits_one h]
      have e : (UInt8.ofNat (48 + u)).toNat = 48 + u := by rw [UInt8.toNat_ofNat']; omega
      simp only [decV, List.foldl_cons, List.foldl_nil, e]; omega
    · rw [Lib.decDigits, dif_neg h]
      have e : (UInt8.ofNat (48 + u % 10)).toNat = 48 + u % 10 := by rw [UInt8.toNat_ofNat']; omega
      rw [decV_snoc, ih (u / 10) (by omega), e]; omega
theorem dig_len : ∀ (k u : Nat), u < 10 ^ (k + 1) → (Lib.decDigits u).length ≤ k + 1
  | 0, u, h => by rw [Lib.decDigits_one (by simpa using h)]; simp
  | k + 1, u, h => by
    by_cases h1 : u < 10
    · rw [Lib.decDigits_one h1]; simp
    · rw [Lib.decDigits, dif_neg h1]
      have := dig_len k (u / 10) (by rw [Nat.pow_succ] at h; omega)
      simp; omega
/-- A text without its sign. -/
def stripS (s : List UInt8) : List UInt8 := if 1 < s.length ∧ gt s 0 = 45 then s.drop 1 else s
section
variable {s : List UInt8} {n : Int} {k : Nat}
theorem strip_num (h : IsNum s n) : stripS s = Lib.decDigits n.natAbs ∧ ((stripS s).length < s.length ↔ n < 0) := by
  obtain ⟨h1, rfl⟩ := h
  unfold Lib.itoa stripS
  split
  · rename_i hn
    have : 0 < (Lib.decDigits n.natAbs).length := List.length_pos_iff.2 (dig_ne _)
    rw [if_pos ⟨by simp; omega, rfl⟩]
    simp [hn]
  · rename_i hn
    have hd := dig_all n.toNat
    rw [if_neg (fun hh => by
      cases hl : Lib.decDigits n.toNat with
      | nil => exact absurd hl (dig_ne _)
      | cons c r =>
        rw [hl] at hd hh
        have := hd c (by simp)
        have e : c = 45 := hh.2
        subst e; exact absurd this.1 (by decide))]
    rw [show n.natAbs = n.toNat by omega]
    exact ⟨rfl, by omega⟩
theorem num_len (h : IsNum s n) : 1 ≤ (stripS s).length ∧ (stripS s).length ≤ 6 := by
  have h1 := h.1
  rw [(strip_num h).1]
  have h2 : 0 < (Lib.decDigits n.natAbs).length := List.length_pos_iff.2 (dig_ne _)
  have h3 := dig_len 5 n.natAbs (by omega)
  omega
theorem num_dig (h : IsNum s n) (hk : k < (stripS s).length) : 48 ≤ (gt (stripS s) k).toNat ∧ (gt (stripS s) k).toNat ≤ 57 := by
  refine dig_all n.natAbs _ ?_
  rw [← (strip_num h).1]
  exact List.mem_iff_getElem?.2 ⟨k, gb_get hk⟩
theorem num_val (h : IsNum s n) : n = if (stripS s).length < s.length then - decV (stripS s) else decV (stripS s) := by
  have h2 := strip_num h
  rw [h2.1, decV_dig]
  split
  · rename_i q; rw [← h2.1] at q; have := h2.2.1 q; omega
  · rename_i q; rw [← h2.1] at q; have := mt h2.2.2 q; omega
theorem decV_next (hk : k < s.length) : decV (s.take (k + 1)) = 10 * decV (s.take k) + (((gt s k).toNat : Int) - 48) := by
  rw [List.take_add_one, gb_get hk, Option.toList_some, decV_snoc]
theorem decV_rng (h : ∀ j, j < k → 48 ≤ (gt s j).toNat ∧ (gt s j).toNat ≤ 57) (hk : k ≤ s.length) (h6 : k ≤ 6) : 0 ≤ decV (s.take k) ∧ decV (s.take k) ≤ 999999 := by
  have : ∀ m, m ≤ k → 0 ≤ decV (s.take m) ∧ decV (s.take m) < 10 ^ m := by
    intro m
    induction m with
    | zero => intro _; simp [decV]
    | succ m ih =>
      intro hm
      have h1 := ih (by omega)
      have h2 := h m (by omega)
      rw [decV_next (by omega), Int.pow_succ]
      omega
  have h1 := this k (Nat.le_refl _)
  have h2 : (10 : Int) ^ k ≤ 10 ^ 6 := by
    have := Nat.pow_le_pow_right (show 0 < 10 by omega) h6
    exact_mod_cast this
  omega
end
end Go.Proofs.YtnbbfokkpkphoaaGreatDoor
