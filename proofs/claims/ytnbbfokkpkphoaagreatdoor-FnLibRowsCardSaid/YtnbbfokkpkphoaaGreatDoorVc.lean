/- Lines that are read: plain words. -/
import Derived.Test.YtnbbfokkpkphoaaGreatDoorVb
import Derived.Test.YtnbbfokkpkphoaaGreatDoorNa
import Derived.Lib.SplitLaws
namespace Go.Proofs.YtnbbfokkpkphoaaGreatDoor
open Go Go.RowKit Fw
section
variable {s A B : List UInt8} {c : UInt8} {p : List UInt8}
theorem occ_not {L : List UInt8} {j : Nat} (h : ∀ x, L[j]? = some x → ¬ x = c) : Lib.occAt L (c :: p) j = false := by
  cases h2 : Lib.occAt L (c :: p) j
  · rfl
  · exfalso
    unfold Lib.occAt at h2
    obtain ⟨t, ht⟩ := List.isPrefixOf_iff_prefix.1 h2
    have := congrArg (·[0]?) ht
    simp at this
    exact h c this.symm rfl
/-- A separator that begins with 'c', behind a text without it. -/
theorem index_cut (h : c ∉ A) : Lib.index (A ++ (c :: p) ++ B) (c :: p) = (A.length : Int) := by
  refine Lib.index_first (by simp) ?_ (fun j hj => occ_not fun x hx e => ?_)
  · unfold Lib.occAt
    rw [List.isPrefixOf_iff_prefix, List.append_assoc, List.drop_left]
    exact List.prefix_append _ _
  · rw [List.append_assoc, List.getElem?_append_left hj] at hx
    exact h (e ▸ List.mem_of_getElem? hx)
theorem index_nil (h : c ∉ A) : Lib.index A (c :: p) = -1 :=
  Lib.index_none fun j _ => occ_not fun x hx e => h (e ▸ List.mem_of_getElem? hx)
theorem cut_at (h : c ∉ A) : Lib.cut (A ++ (c :: p) ++ B) (c :: p) = (A, B, true) := by
  unfold Lib.cut
  rw [index_cut h, if_pos (by omega)]
  have e : ((A.length : Int).toNat + (c :: p).length) = (A ++ (c :: p)).length := by simp
  rw [e, List.drop_left, Int.toNat_natCast, List.append_assoc, List.take_left]
theorem split_cut (h : c ∉ A) : Lib.split (A ++ (c :: p) ++ B) (c :: p) = A :: Lib.split B (c :: p) := by
  unfold Lib.split
  rw [Lib.count_hit (by simp) (index_cut h)]
  have e : (A.length + (c :: p).length) = (A ++ (c :: p)).length := by simp
  rw [e, List.drop_left, Nat.add_comm 1]
  conv => lhs; unfold Lib.splitK
  have hm : ¬ ((Lib.index (A ++ (c :: p) ++ B) (c :: p) == -1) = true) := by rw [index_cut h]; simp
  rw [if_neg hm, index_cut h]
  have e2 : ((A.length : Int).toNat + (c :: p).length) = (A ++ (c :: p)).length := by simp
  rw [e2, List.drop_left, Int.toNat_natCast, Nat.add_zero, List.append_assoc, List.take_left]
theorem split_one (h : c ∉ A) : Lib.split A (c :: p) = [A] := by
  unfold Lib.split
  rw [Lib.count_miss (index_nil h)]; rfl
end
theorem splitK_el {p : List UInt8} {sv : Nat} (h0 : sv = 0) : ∀ (k : Nat) {s x : List UInt8}, x ∈ Lib.splitK p sv k s → x.length ≤ s.length
  | 0, s, x, h => by simp [Lib.splitK] at h; subst h; exact Nat.le_refl _
  | k + 1, s, x, h => by
    unfold Lib.splitK at h
    split at h
    · simp at h; subst h; exact Nat.le_refl _
    · rcases List.mem_cons.1 h with rfl | h
      · rw [List.length_take]; omega
      · have := splitK_el h0 k h; rw [List.length_drop] at this; omega
theorem split_el {s p x : List UInt8} {k : Nat} (h : (Lib.split s p)[k]? = some x) : x.length ≤ s.length := splitK_el rfl _ (List.mem_of_getElem? h)
/-- Texts with a separator between them. -/
def joinS (p : List UInt8) : List (List UInt8) → List UInt8
  | [] => []
  | [w] => w
  | w :: v :: r => w ++ p ++ joinS p (v :: r)
theorem split_join {c : UInt8} {p : List UInt8} : ∀ {l : List (List UInt8)}, l ≠ [] → (∀ w ∈ l, c ∉ w) → Lib.split (joinS (c :: p) l) (c :: p) = l
  | [], h, _ => absurd rfl h
  | [w], _, h => split_one (h w (by simp))
  | w :: v :: r, _, h => by
    show Lib.split (w ++ (c :: p) ++ joinS (c :: p) (v :: r)) (c :: p) = _
    rw [split_cut (h w (by simp)), split_join (by simp) (fun x hx => h x (by simp only [List.mem_cons] at hx ⊢; exact .inr hx))]
theorem splitB_join {c : UInt8} : ∀ {l : List (List UInt8)}, l ≠ [] → (∀ w ∈ l, c ∉ w) → splitB c (joinS [c] l) = l
  | [], h, _ => absurd rfl h
  | [w], _, h => splitB_none (h w (by simp))
  | w :: v :: r, _, h => by
    show splitB c (w ++ [c] ++ joinS [c] (v :: r)) = _
    rw [List.append_assoc, List.singleton_append, splitB_cut (h w (by simp)), splitB_join (by simp) (fun x hx => h x (by simp only [List.mem_cons] at hx ⊢; exact .inr hx))]
section
variable {n a b : Int} {s : List UInt8} {c : UInt8}
theorem itoa_dig (h : 0 ≤ n) : Lib.itoa n = Lib.decDigits n.toNat := by unfold Lib.itoa; rw [if_neg (by omega)]
theorem itoa_not (h : 0 ≤ n) (hc : c.toNat < 48 ∨ 57 < c.toNat) : c ∉ Lib.itoa n := fun hm => by
  rw [itoa_dig h] at hm
  have := dig_all n.toNat c hm
  omega
theorem itoa_le {k : Nat} (h : 0 ≤ n) (hk : n.toNat < 10 ^ (k + 1)) : (Lib.itoa n).length ≤ k + 1 := by rw [itoa_dig h]; exact dig_len k _ hk
theorem itoa_pos (h : 0 ≤ n) : 0 < (Lib.itoa n).length := by rw [itoa_dig h]; exact List.length_pos_iff.2 (dig_ne _)
theorem itoa_one (h : 0 ≤ n ∧ n ≤ 9) : (Lib.itoa n).length = 1 := by
  have h1 := itoa_le (k := 0) h.1 (by omega)
  have h2 := itoa_pos h.1
  omega
theorem readN_itoa (h : 0 ≤ n ∧ n ≤ 999999) : readN (Lib.itoa n) = (n, true) := readN_yes ⟨by omega, rfl⟩
/-- A number, or one that is valid nowhere. -/
noncomputable def numN (s : List UInt8) : Int := if (readN s).2 = true then (readN s).1 else -1000000
theorem numN_yes (h : (readN s).2 = true) : (readN s).1 = numN s := (if_pos h).symm
theorem numN_no (h : (readN s).2 = false) : -1000000 = numN s := by unfold numN; rw [h]; rfl
theorem numN_yes' (h : (!(readN s).2) = false) : (readN s).1 = numN s := numN_yes (by simpa using h)
theorem numN_no' (h : (!(readN s).2) = true) : -1000000 = numN s := numN_no (by simpa using h)
theorem numN_rng (s : List UInt8) : -1000000 ≤ numN s ∧ numN s ≤ 999999 := by
  have := readN_rng s
  unfold numN; split <;> omega
theorem numN_itoa (h : 0 ≤ n ∧ n ≤ 999999) : numN (Lib.itoa n) = n := by unfold numN; rw [readN_itoa h]; rfl
theorem two_take (h : 0 ≤ n ∧ n ≤ 99) : (twoD n).take 1 = Lib.itoa (n / 10) ∧ (twoD n).drop 1 = Lib.itoa (n % 10) ∧ (twoD n).length = 2 := by
  have h1 := itoa_one (n := n / 10) (by omega)
  have h2 := itoa_one (n := n % 10) (by omega)
  unfold twoD
  refine ⟨List.take_left' h1, List.drop_left' h1, by rw [List.length_append]; omega⟩
theorem two_not (h : 0 ≤ n ∧ n ≤ 99) (hc : c.toNat < 48 ∨ 57 < c.toNat) : c ∉ twoD n := by
  unfold twoD
  rw [List.mem_append]
  exact fun hm => hm.elim (itoa_not (by omega) hc) (itoa_not (by omega) hc)
end
/-- The cents of a text. -/
noncomputable def fineN (s : List UInt8) : Int := if (Lib.cut s [46]).2.1.length = 2 then 100 * numN (Lib.cut s [46]).1 + 10 * numN ((Lib.cut s [46]).2.1.take 1) + numN ((Lib.cut s [46]).2.1.drop 1) else -1
noncomputable def monN (s : List UInt8) : Int :=
  if (splitB 46 s).length = 2 ∧ (gt (splitB 46 s) 1).length = 2 ∧ (readN (gt (splitB 46 s) 0)).2 = true ∧ (readN ((gt (splitB 46 s) 1).take 1)).2 = true ∧ (readN ((gt (splitB 46 s) 1).drop 1)).2 = true then
    100 * (readN (gt (splitB 46 s) 0)).1 + 10 * (readN ((gt (splitB 46 s) 1).take 1)).1 + (readN ((gt (splitB 46 s) 1).drop 1)).1 else -1
section
variable {s : List UInt8}
theorem mon_no1 {n : Nat} (hn : n = (splitB 46 s).length) (h : ¬ (n : Int) = 2 ∨ ¬ ((gt (splitB 46 s) 1).length : Int) = 2) : -1 = monN s := by
  unfold monN; rw [if_neg (fun k => by omega)]
theorem mon_no2 (h : (!(readN (gt (splitB 46 s) 0)).2) = true ∨ (!(readN ((gt (splitB 46 s) 1).take 1)).2) = true ∨ (!(readN ((gt (splitB 46 s) 1).drop 1)).2) = true) : -1 = monN s := by
  unfold monN; rw [if_neg (fun k => ?_)]
  rw [k.2.2.1, k.2.2.2.1, k.2.2.2.2] at h; simp at h
theorem mon_yes {n : Nat} (hn : n = (splitB 46 s).length) (h1 : ¬ (¬ (n : Int) = 2 ∨ ¬ ((gt (splitB 46 s) 1).length : Int) = 2)) (h : ¬ ((!(readN (gt (splitB 46 s) 0)).2) = true ∨ (!(readN ((gt (splitB 46 s) 1).take 1)).2) = true ∨ (!(readN ((gt (splitB 46 s) 1).drop 1)).2) = true)) :
    100 * (readN (gt (splitB 46 s) 0)).1 + 10 * (readN ((gt (splitB 46 s) 1).take 1)).1 + (readN ((gt (splitB 46 s) 1).drop 1)).1 = monN s := by
  simp only [not_or, Bool.not_eq_true', Bool.not_eq_false] at h
  unfold monN; rw [if_pos ⟨by omega, by omega, h.1, h.2.1, h.2.2⟩]
end
/-- One part of a line. -/
noncomputable def parStep (r : LibRow) (p : List UInt8) : LibRow :=
  if (Lib.cut p [32]).1 = [102, 105, 110, 101, 115] then { r with Fines := fineN (Lib.cut p [32]).2.1 }
  else if (Lib.cut p [32]).2.1 = [108, 101, 110, 116] then { r with Lent := numN (Lib.cut p [32]).1 }
  else if (Lib.cut p [32]).2.1 = [99, 111, 112, 105, 101, 100] then { r with Copied := numN (Lib.cut p [32]).1 }
  else if (Lib.cut p [32]).2.1 = [103, 105, 118, 101, 110] then { r with Given := numN (Lib.cut p [32]).1 }
  else r
def bodyS (s : List UInt8) : List UInt8 × List UInt8 × Bool := Lib.cut (Lib.trimPrefix s [109, 111, 110, 116, 104, 32]) [58, 32]
noncomputable def parTo (s : List UInt8) (k : Nat) : LibRow := ((Lib.split (bodyS s).2.1 [44, 32]).take k).foldl parStep ⟨numN (bodyS s).1, -1, -1, 0, 0⟩
noncomputable def parI (s : List UInt8) : LibRow := parTo s (Lib.split (bodyS s).2.1 [44, 32]).length
noncomputable def parS (s : List UInt8) : LibRow :=
  ⟨(readN ((gt (splitB 32 s) 1).take ((gt (splitB 32 s) 1).length - 1))).1, (readN (gt (splitB 32 s) 2)).1, (readN (gt (splitB 32 s) 4)).1,
    if 6 < (splitB 32 s).length ∧ ¬ gt (splitB 32 s) 6 = [102, 105, 110, 101, 115] then (readN (gt (splitB 32 s) 6)).1 else 0,
    if 6 < (splitB 32 s).length ∧ gt (splitB 32 s) ((splitB 32 s).length - 2) = [102, 105, 110, 101, 115] then monN (gt (splitB 32 s) ((splitB 32 s).length - 1)) else 0⟩
def partsT (r : LibRow) : List (List UInt8) :=
  [Lib.itoa r.Lent ++ [32] ++ [108, 101, 110, 116], Lib.itoa r.Copied ++ [32] ++ [99, 111, 112, 105, 101, 100]] ++ (if r.Given = 0 then [] else [Lib.itoa r.Given ++ [32] ++ [103, 105, 118, 101, 110]]) ++
    (if r.Fines = 0 then [] else [[102, 105, 110, 101, 115] ++ [32] ++ (Lib.itoa (r.Fines / 100) ++ [46] ++ twoD (r.Fines % 100))])
def wordsT (r : LibRow) : List (List UInt8) :=
  [[109, 111, 110, 116, 104], Lib.itoa r.Month ++ [58], Lib.itoa r.Lent, [108, 101, 110, 116, 44], Lib.itoa r.Copied] ++
    (if r.Given = 0 then (if r.Fines = 0 then [[99, 111, 112, 105, 101, 100]] else [[99, 111, 112, 105, 101, 100, 44], [102, 105, 110, 101, 115], Lib.itoa (r.Fines / 100) ++ [46] ++ twoD (r.Fines % 100)])
    else (if r.Fines = 0 then [[99, 111, 112, 105, 101, 100, 44], Lib.itoa r.Given, [103, 105, 118, 101, 110]]
      else [[99, 111, 112, 105, 101, 100, 44], Lib.itoa r.Given, [103, 105, 118, 101, 110, 44], [102, 105, 110, 101, 115], Lib.itoa (r.Fines / 100) ++ [46] ++ twoD (r.Fines % 100)]))
section
variable {r q : LibRow} {s : List UInt8} {k : Nat} {v : List UInt8}
theorem line_parts (r : LibRow) : lineT r = [109, 111, 110, 116, 104, 32] ++ (Lib.itoa r.Month ++ [58, 32] ++ joinS [44, 32] (partsT r)) := by
  unfold lineT partsT
  by_cases h1 : r.Given = 0 <;> by_cases h2 : r.Fines = 0 <;> simp [h1, h2, joinS]
theorem line_words (r : LibRow) : lineT r = joinS [32] (wordsT r) := by
  unfold lineT wordsT
  by_cases h1 : r.Given = 0 <;> by_cases h2 : r.Fines = 0 <;> simp [h1, h2, joinS]
theorem itoa_ne {n : Int} (h : 0 ≤ n) : ¬ Lib.itoa n = [102, 105, 110, 101, 115] := fun e => itoa_not (c := 102) h (by decide) (by rw [e]; simp)
theorem cut32 {A B : List UInt8} (h : (32 : UInt8) ∉ A) : Lib.cut (A ++ [32] ++ B) [32] = (A, B, true) := cut_at h
theorem fine_line {n : Int} (h : 0 ≤ n ∧ n ≤ 99999) : fineN (Lib.itoa (n / 100) ++ [46] ++ twoD (n % 100)) = n := by
  have e : Lib.cut (Lib.itoa (n / 100) ++ [46] ++ twoD (n % 100)) [46] = (Lib.itoa (n / 100), twoD (n % 100), true) := cut_at (itoa_not (by omega) (by decide))
  have h2 := two_take (n := n % 100) (by omega)
  unfold fineN
  rw [e]
  dsimp only
  rw [if_pos h2.2.2, h2.1, h2.2.1, numN_itoa (by omega), numN_itoa (by omega), numN_itoa (by omega)]; omega
theorem mon_line {n : Int} (h : 0 ≤ n ∧ n ≤ 99999) : monN (Lib.itoa (n / 100) ++ [46] ++ twoD (n % 100)) = n := by
  have e : splitB 46 (Lib.itoa (n / 100) ++ [46] ++ twoD (n % 100)) = [Lib.itoa (n / 100), twoD (n % 100)] :=
    splitB_join (c := 46) (l := [Lib.itoa (n / 100), twoD (n % 100)]) (by simp) (fun w hw => by
      simp only [List.mem_cons, List.not_mem_nil, or_false] at hw
      rcases hw with rfl | rfl
      · exact itoa_not (by omega) (by decide)
      · exact two_not (by omega) (by decide))
  have h2 := two_take (n := n % 100) (by omega)
  unfold monN
  rw [e]
  have g0 : gt [Lib.itoa (n / 100), twoD (n % 100)] 0 = Lib.itoa (n / 100) := rfl
  have g1 : gt [Lib.itoa (n / 100), twoD (n % 100)] 1 = twoD (n % 100) := rfl
  rw [g0, g1, h2.1, h2.2.1, readN_itoa (by omega), readN_itoa (by omega), readN_itoa (by omega), if_pos ⟨rfl, h2.2.2, rfl, rfl, rfl⟩]
  dsimp only; omega
theorem step_lent {x : LibRow} {n : Int} (h : 0 ≤ n ∧ n ≤ 999999) : parStep x (Lib.itoa n ++ [32] ++ [108, 101, 110, 116]) = { x with Lent := n } := by
  unfold parStep; rw [cut32 (itoa_not h.1 (by decide))]; dsimp only; rw [if_neg (itoa_ne h.1), if_pos rfl, numN_itoa h]
theorem step_copied {x : LibRow} {n : Int} (h : 0 ≤ n ∧ n ≤ 999999) : parStep x (Lib.itoa n ++ [32] ++ [99, 111, 112, 105, 101, 100]) = { x with Copied := n } := by
  unfold parStep; rw [cut32 (itoa_not h.1 (by decide))]; dsimp only; rw [if_neg (itoa_ne h.1), if_neg (by decide), if_pos rfl, numN_itoa h]
theorem step_given {x : LibRow} {n : Int} (h : 0 ≤ n ∧ n ≤ 999999) : parStep x (Lib.itoa n ++ [32] ++ [103, 105, 118, 101, 110]) = { x with Given := n } := by
  unfold parStep; rw [cut32 (itoa_not h.1 (by decide))]; dsimp only; rw [if_neg (itoa_ne h.1), if_neg (by decide), if_neg (by decide), if_pos rfl, numN_itoa h]
theorem step_fines {x : LibRow} {n : Int} (h : 0 ≤ n ∧ n ≤ 99999) : parStep x (102 :: 105 :: 110 :: 101 :: 115 :: 32 :: (Lib.itoa (n / 100) ++ [46] ++ twoD (n % 100))) = { x with Fines := n } := by
  show parStep x ([102, 105, 110, 101, 115] ++ [32] ++ (Lib.itoa (n / 100) ++ [46] ++ twoD (n % 100))) = { x with Fines := n }
  unfold parStep; rw [cut32 (by decide)]; dsimp only; rw [if_pos rfl, fine_line h]
theorem parts_not (h : RowOK r) : ∀ w ∈ partsT r, (44 : UInt8) ∉ w := by
  have hr := row_rng h
  have d : ∀ {n : Int}, 0 ≤ n → (44 : UInt8) ∉ Lib.itoa n := fun h => itoa_not h (by decide)
  have d2 := two_not (c := 44) (n := r.Fines % 100) (by omega) (by decide)
  have a1 := d (n := r.Lent) (by omega)
  have a2 := d (n := r.Copied) (by omega)
  have a3 := d (n := r.Given) (by omega)
  have a4 := d (n := r.Fines / 100) (by omega)
  intro w hw
  unfold partsT at hw
  by_cases h1 : r.Given = 0 <;> by_cases h2 : r.Fines = 0 <;> simp only [h1, h2, if_true, if_false, List.append_nil, List.mem_append, List.mem_cons, List.not_mem_nil, or_false] at hw
  · rcases hw with rfl | rfl <;> simp [a1, a2]
  · rcases hw with (rfl | rfl) | rfl <;> simp [a1, a2, a4, d2]
  · rcases hw with (rfl | rfl) | rfl <;> simp [a1, a2, a3]
  · rcases hw with ((rfl | rfl) | rfl) | rfl <;> simp [a1, a2, a3, a4, d2]
theorem parI_line (h : RowOK r) : parI (lineT r) = r := by
  have hr := row_rng h
  have hb : bodyS (lineT r) = (Lib.itoa r.Month, joinS [44, 32] (partsT r), true) := by
    unfold bodyS
    rw [line_parts, trimP]
    exact cut_at (itoa_not (by omega) (by decide))
  have hs : Lib.split (joinS [44, 32] (partsT r)) [44, 32] = partsT r := split_join (by unfold partsT; simp) (parts_not h)
  unfold parI parTo
  rw [hb, hs, List.take_of_length_le (Nat.le_refl _), numN_itoa (by omega)]
  unfold partsT
  by_cases h1 : r.Given = 0 <;> by_cases h2 : r.Fines = 0 <;> simp only [h1, h2, if_true, if_false, List.append_nil, List.cons_append, List.nil_append, List.foldl_cons, List.foldl_nil]
  · rw [step_lent (by omega), step_copied (by omega)]
    exact LibRow.ext rfl rfl rfl h1.symm h2.symm
  · rw [step_lent (by omega), step_copied (by omega), step_fines (by omega)]
    exact LibRow.ext rfl rfl rfl h1.symm rfl
  · rw [step_lent (by omega), step_copied (by omega), step_given (by omega)]
    exact LibRow.ext rfl rfl rfl rfl h2.symm
  · rw [step_lent (by omega), step_copied (by omega), step_given (by omega), step_fines (by omega)]
theorem words_not (h : RowOK r) : ∀ w ∈ wordsT r, (32 : UInt8) ∉ w := by
  have hr := row_rng h
  have d : ∀ {n : Int}, 0 ≤ n → (32 : UInt8) ∉ Lib.itoa n := fun h => itoa_not h (by decide)
  have d2 := two_not (c := 32) (n := r.Fines % 100) (by omega) (by decide)
  have a0 := d (n := r.Month) (by omega)
  have a1 := d (n := r.Lent) (by omega)
  have a2 := d (n := r.Copied) (by omega)
  have a3 := d (n := r.Given) (by omega)
  have a4 := d (n := r.Fines / 100) (by omega)
  intro w hw
  unfold wordsT at hw
  by_cases h1 : r.Given = 0 <;> by_cases h2 : r.Fines = 0 <;> simp only [h1, h2, if_true, if_false, List.cons_append, List.nil_append, List.mem_cons, List.not_mem_nil, or_false] at hw
  · rcases hw with rfl | rfl | rfl | rfl | rfl | rfl <;> simp [a0, a1, a2]
  · rcases hw with rfl | rfl | rfl | rfl | rfl | rfl | rfl | rfl <;> simp [a0, a1, a2, a4, d2]
  · rcases hw with rfl | rfl | rfl | rfl | rfl | rfl | rfl | rfl <;> simp [a0, a1, a2, a3]
  · rcases hw with rfl | rfl | rfl | rfl | rfl | rfl | rfl | rfl | rfl | rfl <;> simp [a0, a1, a2, a3, a4, d2]
theorem line_split (h : RowOK r) : splitB 32 (lineT r) = wordsT r := by
  rw [line_words]; exact splitB_join (by unfold wordsT; simp) (words_not h)
theorem parS_line (h : RowOK r) : parS (lineT r) = r := by
  have hr := row_rng h
  have hm : ((Lib.itoa r.Month ++ [58]).take ((Lib.itoa r.Month ++ [58]).length - 1)) = Lib.itoa r.Month := by
    rw [List.length_append, List.length_singleton, Nat.add_sub_cancel, List.take_left]
  unfold parS
  rw [line_split h]
  unfold wordsT
  by_cases h1 : r.Given = 0 <;> by_cases h2 : r.Fines = 0 <;> simp only [h1, h2, if_true, if_false, List.cons_append, List.nil_append] <;> simp only [gt, List.getD, List.getElem?_cons_succ, List.getElem?_cons_zero, Option.getD_some, List.length_cons, List.length_nil, Nat.reduceAdd, Nat.reduceSub, Nat.reduceLT, hm]
  · rw [readN_itoa (by omega), readN_itoa (by omega), readN_itoa (by omega)]
    exact LibRow.ext rfl rfl rfl (by simp [h1]) (by simp [h2])
  · rw [readN_itoa (by omega), readN_itoa (by omega), readN_itoa (by omega)]
    exact LibRow.ext rfl rfl rfl (by simp [h1]) (by simpa using mon_line (n := r.Fines) (by omega))
  · rw [readN_itoa (by omega), readN_itoa (by omega), readN_itoa (by omega), readN_itoa (by omega)]
    exact LibRow.ext rfl rfl rfl (by simp [itoa_ne (show 0 ≤ r.Given by omega)]) (by simp [h2, itoa_ne (show 0 ≤ r.Given by omega)])
  · rw [readN_itoa (by omega), readN_itoa (by omega), readN_itoa (by omega), readN_itoa (by omega)]
    exact LibRow.ext rfl rfl rfl (by simp [itoa_ne (show 0 ≤ r.Given by omega)]) (by simpa using mon_line (n := r.Fines) (by omega))
/-- What a line must be, for the reference. -/
theorem line_shape (h : RowOK r) : (lineT r).length ≤ 90 ∧ ((splitB 32 (lineT r)).length = 6 ∨ (splitB 32 (lineT r)).length = 8 ∨ (splitB 32 (lineT r)).length = 10) ∧ 2 ≤ (gt (splitB 32 (lineT r)) 1).length := by
  have hr := row_rng h
  have l0 := itoa_le (k := 3) (n := r.Month) (by omega) (by omega)
  have l1 := itoa_le (k := 3) (n := r.Lent) (by omega) (by omega)
  have l2 := itoa_le (k := 3) (n := r.Copied) (by omega) (by omega)
  have l3 := itoa_le (k := 2) (n := r.Given) (by omega) (by omega)
  have l4 := itoa_le (k := 2) (n := r.Fines / 100) (by omega) (by omega)
  have l5 := (two_take (n := r.Fines % 100) (by omega)).2.2
  have p0 := itoa_pos (n := r.Month) (by omega)
  refine ⟨?_, ?_, ?_⟩
  · unfold lineT; split <;> split <;> simp only [List.length_append, List.length_cons, List.length_nil] <;> omega
  · rw [line_split h]; unfold wordsT
    by_cases h1 : r.Given = 0 <;> by_cases h2 : r.Fines = 0 <;> simp [h1, h2]
  · rw [line_split h]; unfold wordsT
    show 2 ≤ (Lib.itoa r.Month ++ [58]).length
    simp only [List.length_append, List.length_cons, List.length_nil]; omega
open Classical in
noncomputable def parN (s : List UInt8) : LibRow × Bool := if h : ∃ r, RowOK r ∧ lineT r = s then (h.choose, true) else (⟨0, 0, 0, 0, 0⟩, false)
theorem parN_yes (h : RowOK r) (e : lineT r = s) : parN s = (r, true) := by
  have hx : ∃ r, RowOK r ∧ lineT r = s := ⟨r, h, e⟩
  unfold parN; rw [dif_pos hx]
  have h2 := hx.choose_spec
  rw [show hx.choose = r by rw [← parI_line h2.1, h2.2, ← e, parI_line h]]
theorem parN_no (h : ∀ r, RowOK r → lineT r = s → False) : parN s = (⟨0, 0, 0, 0, 0⟩, false) := by
  unfold parN; rw [dif_neg (fun ⟨r, h1, h2⟩ => h r h1 h2)]
theorem parN_noI (h : ¬ RowOK (parI s) ∨ ¬ lineT (parI s) = s) : parN s = (⟨0, 0, 0, 0, 0⟩, false) := parN_no fun r h1 h2 => by
  have e : parI s = r := by rw [← h2]; exact parI_line h1
  rw [e] at h; exact h.elim (fun h => h h1) (fun h => h h2)
theorem parN_noS (h : ¬ RowOK (parS s) ∨ ¬ lineT (parS s) = s) : parN s = (⟨0, 0, 0, 0, 0⟩, false) := parN_no fun r h1 h2 => by
  have e : parS s = r := by rw [← h2]; exact parS_line h1
  rw [e] at h; exact h.elim (fun h => h h1) (fun h => h h2)
theorem parN_shape (h : 90 < (s.length : Int) ∨ (¬ ((splitB 32 s).length : Int) = 6 ∧ ¬ ((splitB 32 s).length : Int) = 8 ∧ ¬ ((splitB 32 s).length : Int) = 10) ∨ ((gt (splitB 32 s) 1).length : Int) < 2) : parN s = (⟨0, 0, 0, 0, 0⟩, false) := parN_no fun r h1 h2 => by
  have := line_shape h1
  rw [h2] at this; omega
theorem parTo_next (h : (Lib.split (bodyS s).2.1 [44, 32])[k]? = some v) : parTo s (k + 1) = parStep (parTo s k) v := by
  unfold parTo; rw [List.take_add_one, h]; simp
theorem parTo_fines (h : (Lib.split (bodyS s).2.1 [44, 32])[k]? = some v) (h1 : (Lib.cut v [32]).1 = [102, 105, 110, 101, 115]) : parTo s (k + 1) = { parTo s k with Fines := fineN (Lib.cut v [32]).2.1 } := by
  rw [parTo_next h]; exact if_pos h1
theorem parTo_lent (h : (Lib.split (bodyS s).2.1 [44, 32])[k]? = some v) (h1 : ¬ (Lib.cut v [32]).1 = [102, 105, 110, 101, 115]) (h2 : (Lib.cut v [32]).2.1 = [108, 101, 110, 116]) : parTo s (k + 1) = { parTo s k with Lent := numN (Lib.cut v [32]).1 } := by
  rw [parTo_next h]; unfold parStep; rw [if_neg h1, if_pos h2]
theorem parTo_copied (h : (Lib.split (bodyS s).2.1 [44, 32])[k]? = some v) (h1 : ¬ (Lib.cut v [32]).1 = [102, 105, 110, 101, 115]) (h2 : ¬ (Lib.cut v [32]).2.1 = [108, 101, 110, 116]) (h3 : (Lib.cut v [32]).2.1 = [99, 111, 112, 105, 101, 100]) : parTo s (k + 1) = { parTo s k with Copied := numN (Lib.cut v [32]).1 } := by
  rw [parTo_next h]; unfold parStep; rw [if_neg h1, if_neg h2, if_pos h3]
theorem parTo_given (h : (Lib.split (bodyS s).2.1 [44, 32])[k]? = some v) (h1 : ¬ (Lib.cut v [32]).1 = [102, 105, 110, 101, 115]) (h2 : ¬ (Lib.cut v [32]).2.1 = [108, 101, 110, 116]) (h3 : ¬ (Lib.cut v [32]).2.1 = [99, 111, 112, 105, 101, 100]) (h4 : (Lib.cut v [32]).2.1 = [103, 105, 118, 101, 110]) : parTo s (k + 1) = { parTo s k with Given := numN (Lib.cut v [32]).1 } := by
  rw [parTo_next h]; unfold parStep; rw [if_neg h1, if_neg h2, if_neg h3, if_pos h4]
theorem parTo_other (h : (Lib.split (bodyS s).2.1 [44, 32])[k]? = some v) (h1 : ¬ (Lib.cut v [32]).1 = [102, 105, 110, 101, 115]) (h2 : ¬ (Lib.cut v [32]).2.1 = [108, 101, 110, 116]) (h3 : ¬ (Lib.cut v [32]).2.1 = [99, 111, 112, 105, 101, 100]) (h4 : ¬ (Lib.cut v [32]).2.1 = [103, 105, 118, 101, 110]) : parTo s (k + 1) = parTo s k := by
  rw [parTo_next h]; unfold parStep; rw [if_neg h1, if_neg h2, if_neg h3, if_neg h4]
theorem parN_yesI (h : ¬ (¬ RowOK (parI s) ∨ ¬ lineT (parI s) = s)) : parN s = (parI s, true) := parN_yes (Classical.not_not.1 fun q => h (.inl q)) (Classical.not_not.1 fun q => h (.inr q))
theorem parN_yesS (h : ¬ (¬ RowOK (parS s) ∨ ¬ lineT (parS s) = s)) : parN s = (parS s, true) := parN_yes (Classical.not_not.1 fun q => h (.inl q)) (Classical.not_not.1 fun q => h (.inr q))
theorem parTo_end (h : k = (Lib.split (bodyS s).2.1 [44, 32]).length) : parTo s k = parI s := by subst h; rfl
theorem parN_noK (hk : k = (Lib.split (bodyS s).2.1 [44, 32]).length) (h : ¬ RowOK (parTo s k) ∨ ¬ lineT (parTo s k) = s) : parN s = (⟨0, 0, 0, 0, 0⟩, false) := by
  rw [parTo_end hk] at h; exact parN_noI h
theorem parN_yesK (hk : k = (Lib.split (bodyS s).2.1 [44, 32]).length) (h : ¬ (¬ RowOK (parTo s k) ∨ ¬ lineT (parTo s k) = s)) : parN s = (parTo s k, true) := by
  rw [parTo_end hk] at h ⊢; exact parN_yesI h
theorem parS_mk {n : Nat} {G F : Int} (hn : n = (splitB 32 s).length) (h2 : 2 ≤ (gt (splitB 32 s) 1).length) (hG : (6 < (n : Int) ∧ ¬ gt (splitB 32 s) 6 = [102, 105, 110, 101, 115] ∧ G = (readN (gt (splitB 32 s) 6)).1) ∨ (¬ (6 < (n : Int) ∧ ¬ gt (splitB 32 s) 6 = [102, 105, 110, 101, 115]) ∧ G = 0)) (hF : (6 < (n : Int) ∧ gt (splitB 32 s) (n - 2) = [102, 105, 110, 101, 115] ∧ F = monN (gt (splitB 32 s) (n - 1))) ∨ (¬ (6 < (n : Int) ∧ gt (splitB 32 s) (n - 2) = [102, 105, 110, 101, 115]) ∧ F = 0)) : (⟨(readN ((gt (splitB 32 s) 1).take (((gt (splitB 32 s) 1).length : Int) - 1).toNat)).1, (readN (gt (splitB 32 s) 2)).1, (readN (gt (splitB 32 s) 4)).1, G, F⟩ : LibRow) = parS s := by
  subst hn
  have e : (((gt (splitB 32 s) 1).length : Int) - 1).toNat = (gt (splitB 32 s) 1).length - 1 := by omega
  unfold parS
  rw [e]
  refine LibRow.ext rfl rfl rfl ?_ ?_
  · dsimp only
    rcases hG with ⟨a, b, rfl⟩ | ⟨a, rfl⟩
    · rw [if_pos ⟨by omega, b⟩]
    · rw [if_neg (fun k => a ⟨by omega, k.2⟩)]
  · dsimp only
    rcases hF with ⟨a, b, rfl⟩ | ⟨a, rfl⟩
    · rw [if_pos ⟨by omega, b⟩]
    · rw [if_neg (fun k => a ⟨by omega, k.2⟩)]
theorem parS_no {n : Nat} {G F : Int} (h : ¬ RowOK (⟨(readN ((gt (splitB 32 s) 1).take (((gt (splitB 32 s) 1).length : Int) - 1).toNat)).1, (readN (gt (splitB 32 s) 2)).1, (readN (gt (splitB 32 s) 4)).1, G, F⟩ : LibRow) ∨ ¬ lineT (⟨(readN ((gt (splitB 32 s) 1).take (((gt (splitB 32 s) 1).length : Int) - 1).toNat)).1, (readN (gt (splitB 32 s) 2)).1, (readN (gt (splitB 32 s) 4)).1, G, F⟩ : LibRow) = s) (hn : n = (splitB 32 s).length) (h2 : 2 ≤ (gt (splitB 32 s) 1).length) (hG : (6 < (n : Int) ∧ ¬ gt (splitB 32 s) 6 = [102, 105, 110, 101, 115] ∧ G = (readN (gt (splitB 32 s) 6)).1) ∨ (¬ (6 < (n : Int) ∧ ¬ gt (splitB 32 s) 6 = [102, 105, 110, 101, 115]) ∧ G = 0)) (hF : (6 < (n : Int) ∧ gt (splitB 32 s) (n - 2) = [102, 105, 110, 101, 115] ∧ F = monN (gt (splitB 32 s) (n - 1))) ∨ (¬ (6 < (n : Int) ∧ gt (splitB 32 s) (n - 2) = [102, 105, 110, 101, 115]) ∧ F = 0)) : parN s = (⟨0, 0, 0, 0, 0⟩, false) := by
  rw [parS_mk hn h2 hG hF] at h; exact parN_noS h
theorem parS_ok {n : Nat} {G F : Int} (h : ¬ (¬ RowOK (⟨(readN ((gt (splitB 32 s) 1).take (((gt (splitB 32 s) 1).length : Int) - 1).toNat)).1, (readN (gt (splitB 32 s) 2)).1, (readN (gt (splitB 32 s) 4)).1, G, F⟩ : LibRow) ∨ ¬ lineT (⟨(readN ((gt (splitB 32 s) 1).take (((gt (splitB 32 s) 1).length : Int) - 1).toNat)).1, (readN (gt (splitB 32 s) 2)).1, (readN (gt (splitB 32 s) 4)).1, G, F⟩ : LibRow) = s)) (hn : n = (splitB 32 s).length) (h2 : 2 ≤ (gt (splitB 32 s) 1).length) (hG : (6 < (n : Int) ∧ ¬ gt (splitB 32 s) 6 = [102, 105, 110, 101, 115] ∧ G = (readN (gt (splitB 32 s) 6)).1) ∨ (¬ (6 < (n : Int) ∧ ¬ gt (splitB 32 s) 6 = [102, 105, 110, 101, 115]) ∧ G = 0)) (hF : (6 < (n : Int) ∧ gt (splitB 32 s) (n - 2) = [102, 105, 110, 101, 115] ∧ F = monN (gt (splitB 32 s) (n - 1))) ∨ (¬ (6 < (n : Int) ∧ gt (splitB 32 s) (n - 2) = [102, 105, 110, 101, 115]) ∧ F = 0)) : parN s = ((⟨(readN ((gt (splitB 32 s) 1).take (((gt (splitB 32 s) 1).length : Int) - 1).toNat)).1, (readN (gt (splitB 32 s) 2)).1, (readN (gt (splitB 32 s) 4)).1, G, F⟩ : LibRow), true) := by
  rw [parS_mk hn h2 hG hF] at h ⊢; exact parN_yesS h
end
theorem lineif_len (r : LibRow) : (if RowOK r then lineT r else []).length ≤ 300 := by
  split
  · exact line_len ‹_›
  · simp
end Go.Proofs.YtnbbfokkpkphoaaGreatDoor
