/- Plain words on strings. -/
import Derived.Test.YtnbbfokkpkphoaaGreatDoorFu
import Derived.Lib.ItoaNum
import Derived.Lib.ItoaLen
import Derived.Lib.IndexMore
import Derived.Lib.Strings
namespace Go.Proofs.YtnbbfokkpkphoaaGreatDoor
open Go Go.RowKit Fw
section
variable {s r : List UInt8} {c : UInt8} {k i : Nat} {n : Int}
theorem gb_get (h : k < s.length) : s[k]? = some (gt s k) := by simp [gt, List.getD, List.getElem?_eq_getElem h]
/-! Numerals. -/
theorem itoa_m (h : n < 0) : [45] ++ Lib.itoa (-n) = Lib.itoa n := by
  unfold Lib.itoa
  rw [if_neg (by omega), if_pos h, show (-n).toNat = n.natAbs by omega]; rfl
theorem itoa_d (h0 : 0 ≤ n) (h : n < 10) : (([48, 49, 50, 51, 52, 53, 54, 55, 56, 57] : List UInt8).drop n.toNat).take ((n + 1).toNat - n.toNat) = Lib.itoa n := by
  obtain ⟨m, rfl⟩ := Int.eq_ofNat_of_zero_le h0
  have h1 : m < 10 := by omega
  unfold Lib.itoa
  rw [if_neg (by omega), Lib.decDigits_one (by simpa using h1)]
  match m, h1 with
  | 0, _ => rfl
  | 1, _ => rfl
  | 2, _ => rfl
  | 3, _ => rfl
  | 4, _ => rfl
  | 5, _ => rfl
  | 6, _ => rfl
  | 7, _ => rfl
  | 8, _ => rfl
  | 9, _ => rfl
theorem itoa_10 (h : 10 ≤ n) : Lib.itoa (n / 10) ++ Lib.itoa (n % 10) = Lib.itoa n := by
  unfold Lib.itoa
  rw [if_neg (by omega), if_neg (by omega), if_neg (by omega)]
  have h1 : ¬ n.toNat < 10 := by omega
  rw [show (n / 10).toNat = n.toNat / 10 by omega, show (n % 10).toNat = n.toNat % 10 by omega, Lib.decDigits_one (i := n.toNat % 10) (by omega)]
  conv => rhs; rw [Lib.decDigits, dif_neg h1]
theorem itoa_b (h : 10 ≤ n) : Lib.itoa (n / 10) ++ (([48, 49, 50, 51, 52, 53, 54, 55, 56, 57] : List UInt8).drop (n % 10).toNat).take ((n % 10 + 1).toNat - (n % 10).toNat) = Lib.itoa n := by
  rw [itoa_d (by omega) (by omega), itoa_10 h]
theorem itoa_len (h0 : -9223372036854775808 ≤ n) (h1 : n ≤ 9223372036854775807) : (Lib.itoa n).length ≤ 21 := Lib.itoa_length_le n h0 h1
/-- Two digits. -/
def twoD (n : Int) : List UInt8 := Lib.itoa (n / 10) ++ Lib.itoa (n % 10)
theorem two_len (h : 0 ≤ n ∧ n ≤ 99) : (twoD n).length ≤ 42 := by
  have h1 := itoa_len (n := n / 10) (by omega) (by omega)
  have h2 := itoa_len (n := n % 10) (by omega) (by omega)
  unfold twoD; simp only [List.length_append]; omega
theorem itoa_0 : Lib.itoa 0 = [48] := by unfold Lib.itoa; rw [if_neg (by omega), Lib.decDigits_one (by decide)]; rfl
theorem two_lt (h0 : 0 ≤ n) (h : n < 10) : twoD n = [48] ++ Lib.itoa n := by
  unfold twoD
  rw [show n / 10 = 0 by omega, show n % 10 = n by omega, itoa_0]
theorem two_ge (h : 10 ≤ n) : twoD n = Lib.itoa n := itoa_10 h
theorem cut_len (s p : List UInt8) : (Lib.cut s p).1.length ≤ s.length ∧ (Lib.cut s p).2.1.length ≤ s.length := by
  unfold Lib.cut
  split <;> simp <;> omega
theorem trim_len (s p : List UInt8) : (Lib.trimPrefix s p).length ≤ s.length := by
  unfold Lib.trimPrefix
  split <;> simp
/-! The part before a byte, and the part behind it. -/
def befB (s : List UInt8) (c : UInt8) : List UInt8 := s.takeWhile (fun x => !decide (x = c))
def aftB (s : List UInt8) (c : UInt8) : List UInt8 := s.drop ((befB s c).length + 1)
theorem befB_nil : befB [] c = [] := rfl
theorem befB_hit : befB (c :: s) c = [] := by simp [befB]
theorem befB_miss {x : UInt8} (h : ¬ x = c) : befB (x :: s) c = x :: befB s c := by simp [befB, h]
theorem befB_none : ∀ {s : List UInt8}, c ∉ s → befB s c = s
  | [], _ => rfl
  | x :: t, h => by
    have h1 : ¬ x = c := fun e => h (by simp [e])
    rw [befB_miss h1, befB_none (fun e => h (by simp [e]))]
theorem befB_len : ∀ (s : List UInt8), (befB s c).length ≤ s.length
  | [] => Nat.le_refl _
  | x :: t => by
    by_cases h : x = c
    · subst h; rw [befB_hit]; simp
    · rw [befB_miss h]; have := befB_len t; simp; omega
theorem befB_lt : ∀ {s : List UInt8}, c ∈ s → (befB s c).length < s.length
  | [], h => by cases h
  | x :: t, h => by
    by_cases h1 : x = c
    · subst h1; rw [befB_hit]; simp
    · rw [befB_miss h1]
      have := befB_lt (s := t) (by rcases List.mem_cons.1 h with e | e; exact absurd e.symm h1; exact e)
      simp; omega
theorem befB_take : ∀ (s : List UInt8), s.take (befB s c).length = befB s c
  | [] => rfl
  | x :: t => by
    by_cases h : x = c
    · subst h; rw [befB_hit]; rfl
    · rw [befB_miss h]; simp [befB_take t]
theorem befB_join : ∀ {s : List UInt8}, c ∈ s → s = befB s c ++ c :: aftB s c
  | [], h => by cases h
  | x :: t, h => by
    by_cases h1 : x = c
    · subst h1; unfold aftB; rw [befB_hit]; rfl
    · have := befB_join (s := t) (by rcases List.mem_cons.1 h with e | e; exact absurd e.symm h1; exact e)
      unfold aftB at *
      rw [befB_miss h1]
      simp only [List.length_cons, List.drop_succ_cons, List.cons_append, List.cons.injEq, true_and]
      exact this
theorem befB_not : ∀ (s : List UInt8), c ∉ befB s c
  | [] => by simp [befB]
  | x :: t => by
    by_cases h : x = c
    · subst h; rw [befB_hit]; simp
    · rw [befB_miss h]
      intro k
      rcases List.mem_cons.1 k with e | e
      · exact h e.symm
      · exact befB_not t e
theorem befB_app (h : c ∉ s) : befB (s ++ c :: r) c = s ∧ aftB (s ++ c :: r) c = r := by
  have e : befB (s ++ c :: r) c = s := by
    induction s with
    | nil => exact befB_hit
    | cons x t ih =>
      have h1 : ¬ x = c := fun e => h (by simp [e])
      rw [List.cons_append, befB_miss h1, ih (fun e => h (by simp [e]))]
  refine ⟨e, ?_⟩
  unfold aftB; rw [e]; simp
theorem aftB_none (h : c ∉ s) : aftB s c = [] := by unfold aftB; rw [befB_none h]; simp
theorem index1 : ∀ (s : List UInt8), Lib.index s [c] = if c ∈ s then ((befB s c).length : Int) else -1
  | [] => by simp [Lib.index]
  | x :: t => by
    unfold Lib.index
    by_cases h : x = c
    · subst h; simp [befB_hit]
    · have h2 : ([c].isPrefixOf (x :: t)) = false := by simp [List.isPrefixOf, beq_eq_false_iff_ne]; exact fun e => h e.symm
      rw [h2, index1 t, befB_miss h]
      by_cases hc : c ∈ t
      · simp [hc]
      · simp [hc, Ne.symm h]
theorem cut1 (s : List UInt8) (c : UInt8) : Lib.cut s [c] = (befB s c, aftB s c, decide (c ∈ s)) := by
  unfold Lib.cut
  rw [index1]
  by_cases h : c ∈ s
  · simp only [h, if_true, decide_true]
    rw [if_pos (by omega)]
    simp only [Int.toNat_natCast, befB_take]
    rfl
  · simp only [h, if_false, decide_false]
    rw [if_neg (by omega), befB_none h, aftB_none h]
theorem contains1 (s : List UInt8) (c : UInt8) : Lib.contains s [c] = decide (c ∈ s) := by
  unfold Lib.contains
  rw [index1]
  by_cases h : c ∈ s <;> simp [h]
theorem trimP (s r : List UInt8) : Lib.trimPrefix (r ++ s) r = s := by
  unfold Lib.trimPrefix Lib.hasPrefix
  rw [if_pos (List.isPrefixOf_iff_prefix.2 ⟨s, rfl⟩)]; simp
/-! All parts between a byte. -/
def splitB (c : UInt8) : List UInt8 → List (List UInt8)
  | [] => [[]]
  | x :: t => if x = c then [] :: splitB c t else (x :: (splitB c t).headD []) :: (splitB c t).tail
theorem splitB_ne (c : UInt8) : ∀ s, splitB c s ≠ []
  | [] => by simp [splitB]
  | x :: t => by unfold splitB; split <;> simp
theorem splitB_len (c : UInt8) (s : List UInt8) : 1 ≤ (splitB c s).length := by
  have := splitB_ne c s
  cases h : splitB c s with
  | nil => exact absurd h this
  | cons a t => simp
theorem splitB_none : ∀ {s : List UInt8}, c ∉ s → splitB c s = [s]
  | [], _ => rfl
  | x :: t, h => by
    have h1 : ¬ x = c := fun e => h (by simp [e])
    unfold splitB
    rw [if_neg h1, splitB_none (fun e => h (by simp [e]))]; rfl
theorem splitB_cut (h : c ∉ s) : splitB c (s ++ c :: r) = s :: splitB c r := by
  induction s with
  | nil => simp [splitB]
  | cons x t ih =>
    have h1 : ¬ x = c := fun e => h (by simp [e])
    rw [List.cons_append]
    conv => lhs; unfold splitB
    rw [if_neg h1, ih (fun e => h (by simp [e]))]; rfl
theorem splitB_head (c : UInt8) : ∀ s, gt (splitB c s) 0 = befB s c
  | [] => rfl
  | x :: t => by
    have ih := splitB_head c t
    unfold splitB
    by_cases h : x = c
    · subst h; rw [if_pos rfl, befB_hit]; rfl
    · rw [if_neg h, befB_miss h, ← ih]
      cases h2 : splitB c t with
      | nil => exact absurd h2 (splitB_ne c t)
      | cons a u => rfl
theorem splitB_gt (c : UInt8) (s : List UInt8) : (gt (splitB c s) 0).length ≤ s.length := by rw [splitB_head]; exact befB_len s
theorem splitB_two (c : UInt8) (s : List UInt8) : (2 : Int) ≤ ((splitB c s).length : Int) ↔ c ∈ s := by
  by_cases h : c ∈ s
  · have e := befB_join h
    rw [e, splitB_cut (befB_not s)]
    have := splitB_len c (aftB s c)
    simp; omega
  · rw [splitB_none h]; simp [h]
/-- The loop that splits: what lies before 'from' is split, nothing up to 'i' stands behind it. -/
def SpTo (c : UInt8) (s : List UInt8) (O : List (List UInt8)) (f i : Nat) : Prop := f ≤ i ∧ i ≤ s.length ∧ splitB c s = O ++ splitB c (s.drop f) ∧ c ∉ (s.drop f).take (i - f)
theorem SpTo.zero : SpTo c s [] 0 0 := ⟨Nat.le_refl _, Nat.zero_le _, rfl, by simp⟩
theorem SpTo.rng {O : List (List UInt8)} {f : Nat} (h : SpTo c s O f i) : f ≤ i ∧ i ≤ s.length := ⟨h.1, h.2.1⟩
theorem SpTo.hit {O : List (List UInt8)} {f : Nat} (h : SpTo c s O f i) (hi : i < s.length) (hc : gt s i = c) : SpTo c s (O ++ [(s.drop f).take (i - f)]) (i + 1) (i + 1) := by
  obtain ⟨h1, h2, h3, h4⟩ := h
  refine ⟨Nat.le_refl _, hi, ?_, by simp⟩
  have e : s.drop f = (s.drop f).take (i - f) ++ c :: s.drop (i + 1) := by
    have h5 := List.take_append_drop (i - f) (s.drop f)
    rw [List.drop_drop, show f + (i - f) = i by omega, List.drop_eq_getElem_cons hi] at h5
    have h6 : s[i] = c := by rw [← hc]; have := gb_get hi; rw [List.getElem?_eq_getElem hi] at this; exact Option.some.inj this
    rw [h6] at h5; exact h5.symm
  rw [h3]
  conv => lhs; rw [e, splitB_cut h4]
  simp
theorem SpTo.miss {O : List (List UInt8)} {f : Nat} (h : SpTo c s O f i) (hi : i < s.length) (hc : ¬ gt s i = c) : SpTo c s O f (i + 1) := by
  obtain ⟨h1, h2, h3, h4⟩ := h
  refine ⟨by omega, hi, h3, fun hm => ?_⟩
  have e : (s.drop f).take (i + 1 - f) = (s.drop f).take (i - f) ++ [gt s i] := by
    rw [show i + 1 - f = (i - f) + 1 by omega, List.take_add_one, List.getElem?_drop, show f + (i - f) = i by omega, gb_get hi]; rfl
  rw [e] at hm
  rcases List.mem_append.1 hm with k | k
  · exact h4 k
  · exact hc (List.mem_singleton.1 k).symm
theorem SpTo.all {O : List (List UInt8)} {f : Nat} (h : SpTo c s O f i) (hi : s.length ≤ i) : O ++ [s.drop f] = splitB c s := by
  obtain ⟨h1, h2, h3, h4⟩ := h
  rw [h3, splitB_none (by rwa [List.take_of_length_le (by simp; omega)] at h4)]
/-! Whether a byte stands in a string. -/
theorem stands_no (h : ∀ j, j < k → ¬ gt s j = c) (hk : s.length ≤ k) : ¬ c ∈ s := fun hm => by
  obtain ⟨j, hj⟩ := List.mem_iff_getElem?.1 hm
  exact h j (by have := (List.getElem?_eq_some_iff.1 hj).1; omega) (gt_eq hj)
theorem stands_yes (hk : k < s.length) (h : gt s k = c) : c ∈ s := List.mem_iff_getElem?.2 ⟨k, by rw [gb_get hk, h]⟩
theorem none_next {p : Nat → Prop} (h : ∀ j, j < k → ¬ p j) (h1 : ¬ p k) : ∀ j, j < k + 1 → ¬ p j := fun j hj => by
  rcases Nat.lt_or_ge j k with h2 | h2
  · exact h j h2
  · obtain rfl : j = k := by omega
    exact h1
theorem all_next {p : Nat → Prop} (h : ∀ j, j < k → p j) (h1 : p k) : ∀ j, j < k + 1 → p j := fun j hj => by
  rcases Nat.lt_or_ge j k with h2 | h2
  · exact h j h2
  · obtain rfl : j = k := by omega
    exact h1
theorem u8_eq {a b : UInt8} : ((a.toNat : Int) = (b.toNat : Int)) ↔ a = b := by
  constructor
  · intro h; exact UInt8.toNat_inj.1 (by omega)
  · rintro rfl; rfl
/-! The checksum. -/
def csum (s : List UInt8) : Int := s.foldl (fun h c => (41 * h + (c.toNat : Int) + 1) % 999979) 7
theorem csum_rng (s : List UInt8) : 0 ≤ csum s ∧ csum s ≤ 999978 := by
  unfold csum
  have : ∀ (s : List UInt8) (h : Int), 0 ≤ h ∧ h ≤ 999978 → 0 ≤ s.foldl (fun h c => (41 * h + (c.toNat : Int) + 1) % 999979) h ∧ s.foldl (fun h c => (41 * h + (c.toNat : Int) + 1) % 999979) h ≤ 999978 := by
    intro s
    induction s with
    | nil => exact fun h hh => hh
    | cons x t ih => exact fun h hh => ih _ (by show 0 ≤ (41 * h + (x.toNat : Int) + 1) % 999979 ∧ (41 * h + (x.toNat : Int) + 1) % 999979 ≤ 999978; omega)
  exact this s 7 (by omega)
theorem csum_snoc (h : k < s.length) : csum (s.take (k + 1)) = (41 * csum (s.take k) + ((gt s k).toNat : Int) + 1) % 999979 := by
  unfold csum; rw [List.take_add_one, gb_get h, Option.toList_some, List.foldl_append]; rfl
theorem csum_all (h : s.length ≤ k) : csum (s.take k) = csum s := by rw [List.take_of_length_le h]
/-! Plain bytes. -/
def PlB (c : UInt8) : Prop := (32 ≤ (c.toNat : Int) ∧ (c.toNat : Int) ≤ 126) ∧ ¬ (c.toNat : Int) = 35
instance (c : UInt8) : Decidable (PlB c) := by unfold PlB; infer_instance
def Plain (s : List UInt8) : Prop := ∀ c ∈ s, PlB c
noncomputable instance (s : List UInt8) : Decidable (Plain s) := Classical.propDecidable _
theorem plain_at (h : ∀ j, j < k → PlB (gt s j)) (hk : s.length ≤ k) : Plain s := fun c hc => by
  obtain ⟨j, hj⟩ := List.mem_iff_getElem?.1 hc
  have := h j (by have := (List.getElem?_eq_some_iff.1 hj).1; omega)
  rwa [gt_eq hj] at this
theorem plain_no (hk : k < s.length) (h : ¬ PlB (gt s k)) : ¬ Plain s := fun hp => h (hp _ (List.mem_iff_getElem?.2 ⟨k, gb_get hk⟩))
end
end Go.Proofs.YtnbbfokkpkphoaaGreatDoor
