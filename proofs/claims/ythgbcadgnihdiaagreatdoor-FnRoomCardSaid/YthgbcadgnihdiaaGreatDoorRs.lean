/- Plain words on who is seated when. -/
import Derived.Test.YthgbcadgnihdiaaGreatDoorRa
import Derived.Test.YthgbcadgnihdiaaGreatDoorSo
namespace Go.Proofs.YthgbcadgnihdiaaGreatDoor
open Go Go.RowKit Fw
theorem no_and {a b : Prop} (h : ¬ a ∨ ¬ b) : ¬ (a ∧ b) := fun k => h.elim (fun h => h k.1) (fun h => h k.2)
def inV (m : Int) (v : Visit) : Bool := decide (v.From ≤ m ∧ m ≤ v.Until - 1)
/-- The readers of the first 'k' visits in a minute. -/
def rdrs (L : List Visit) (m : Int) (k : Nat) : List Int := ((L.take k).filter (inV m)).map Visit.Reader
def seatsAt (L : List Visit) (m : Int) : List Int := sortI (rdrs L m L.length)
section
variable {L : List Visit} {m : Int} {k i j n : Nat} {x y : Visit}
theorem gt_get' (h : k < L.length) : L[k]? = some (gt L k) := by simp [gt, List.getD, List.getElem?_eq_getElem h]
theorem rdrs_succ (h : k < L.length) : rdrs L m (k + 1) = rdrs L m k ++ if inV m (gt L k) then [(gt L k).Reader] else [] := by
  unfold rdrs
  rw [List.take_add_one, gt_get' h]
  cases hp : inV m (gt L k) <;> simp [hp]
theorem rdrs_yes (h : k < L.length) (hp : inV m (gt L k) = true) : rdrs L m k ++ [(gt L k).Reader] = rdrs L m (k + 1) := by rw [rdrs_succ h, hp]; rfl
theorem rdrs_no (h : k < L.length) (hp : inV m (gt L k) = false) : rdrs L m k = rdrs L m (k + 1) := by rw [rdrs_succ h, hp]; simp
theorem inV_w (hv : VsOK L) (h : k < L.length) : inV m (gt L k) = decide ((gt L k).From ≤ m ∧ m ≤ IntKind.i64.wrap ((gt L k).Until - 1)) := by
  have := vs_rng hv (gt_get' h)
  unfold inV; rw [wrap64_in (by omega)]
theorem rdrs_end (h : L.length ≤ k) : rdrs L m k = rdrs L m L.length := by
  unfold rdrs; rw [List.take_of_length_le h, List.take_of_length_le (Nat.le_refl _)]
theorem rdrs_mem {r : Int} (h : r ∈ rdrs L m k) : ∃ i, i < k ∧ i < L.length ∧ inV m (gt L i) = true ∧ (gt L i).Reader = r := by
  unfold rdrs at h
  simp only [List.mem_map, List.mem_filter] at h
  obtain ⟨v, ⟨hv, hp⟩, hr⟩ := h
  obtain ⟨i, hi⟩ := List.mem_iff_getElem?.1 hv
  rw [List.getElem?_take] at hi
  split at hi
  · rename_i hlt
    have e : gt L i = v := gt_eq hi
    exact ⟨i, hlt, (List.getElem?_eq_some_iff.1 hi).1, by rw [e]; exact hp, by rw [e]; exact hr⟩
  · cases hi
/-- Two visits in one minute: another seat and another reader. -/
theorem vs_two (hv : VsOK L) (hij : i < j) (hj : j < L.length) (hi : inV m (gt L i) = true) (hj' : inV m (gt L j) = true) : ¬ (gt L i).Seat = (gt L j).Seat ∧ ¬ (gt L i).Reader = (gt L j).Reader := by
  have h := (hv.1 j _ (gt_get' hj)).2.2 i _ hij (gt_get' (by omega))
  unfold inV at hi hj'
  simp only [decide_eq_true_eq] at hi hj'
  unfold clash meetV at h
  constructor <;> (intro hs; exact h ⟨⟨by omega, by omega⟩, by first | exact .inl hs | exact .inr hs⟩)
theorem rdr_new (hv : VsOK L) (h : k < L.length) (hp : inV m (gt L k) = true) : (gt L k).Reader ∉ rdrs L m k := fun hm => by
  obtain ⟨i, hi, _, hpi, hr⟩ := rdrs_mem hm
  exact (vs_two hv hi h hpi hp).2 hr
/-- Distinct numbers from 1 to n are no more than n. -/
theorem nd_len : ∀ (n : Nat) (S : List Int), S.Nodup → (∀ x ∈ S, 1 ≤ x ∧ x ≤ (n : Int)) → S.length ≤ n
  | 0, S, _, h => by
    cases S with
    | nil => simp
    | cons x t => have := h x (by simp); omega
  | n + 1, S, hn, h => by
    have h1 : (S.erase ((n : Int) + 1)).length ≤ n := nd_len n _ (hn.erase _) fun x hx => by
      have hm := (hn.mem_erase_iff).1 hx
      have := h x hm.2
      have := hm.1
      omega
    have h2 : S.length ≤ (S.erase ((n : Int) + 1)).length + 1 := by
      rw [List.length_erase]; split <;> omega
    omega
theorem seats_nd (hv : VsOK L) : ∀ k, k ≤ L.length → (((L.take k).filter (inV m)).map Visit.Seat).Nodup
  | 0, _ => by simp
  | k + 1, hk => by
    have ih := seats_nd hv k (by omega)
    rw [List.take_add_one, gt_get' (show k < L.length by omega)]
    cases hp : inV m (gt L k)
    · simpa [hp] using ih
    · simp only [Option.toList_some, List.filter_append, List.filter_cons, hp, if_true, List.filter_nil, List.map_append, List.map_cons, List.map_nil]
      rw [List.nodup_append]
      refine ⟨ih, by simp, fun a ha b hb => ?_⟩
      simp only [List.mem_singleton] at hb
      subst hb
      simp only [List.mem_map, List.mem_filter] at ha
      obtain ⟨v, ⟨hm, hpv⟩, hs⟩ := ha
      obtain ⟨i, hi⟩ := List.mem_iff_getElem?.1 hm
      rw [List.getElem?_take] at hi
      split at hi
      · rename_i hlt
        have e : gt L i = v := gt_eq hi
        have := (vs_two hv hlt (by omega) (by rw [e]; exact hpv) hp).1
        rw [e] at this
        exact fun h => this (hs.trans h)
      · cases hi
theorem rdrs_six (hv : VsOK L) (hk : k ≤ L.length) : (rdrs L m k).length ≤ 6 := by
  have h := nd_len 6 _ (seats_nd (m := m) hv k hk) fun x hx => by
    simp only [List.mem_map, List.mem_filter] at hx
    obtain ⟨v, ⟨hm, _⟩, rfl⟩ := hx
    obtain ⟨i, hi⟩ := List.mem_iff_getElem?.1 (List.mem_of_mem_take hm)
    have := vs_rng hv hi
    omega
  unfold rdrs
  simpa using h
/-- Putting a number to its place, once. -/
def putI : List Int → Int → List Int
  | [], v => [v]
  | x :: t, v => if x < v then x :: putI t v else if x = v then x :: t else v :: x :: t
def LtI (L : List Int) (v : Int) (k : Nat) : Prop := ∀ j, j < k → gt L j < v
theorem LtI.zero {L : List Int} {v : Int} : LtI L v 0 := fun _ h => absurd h (by omega)
theorem LtI.next {L : List Int} {v : Int} (h : LtI L v k) (hl : gt L k < v) : LtI L v (k + 1) := fun j hj => by
  rcases Nat.lt_or_ge j k with h1 | h1
  · exact h j h1
  · obtain rfl : j = k := by omega
    exact hl
theorem put_end : ∀ {L : List Int} {v : Int} {k : Nat}, LtI L v k → k = L.length → L.take k ++ [v] ++ L.drop k = putI L v
  | [], _, _, _, _ => by simp [putI]
  | x :: t, v, k, h, hk => by
    subst hk
    have h0 : x < v := by have := h 0 (by simp); simpa [gt] using this
    have ih := put_end (L := t) (v := v) (k := t.length) (fun j hj => by have := h (j + 1) (by simpa using hj); simpa [gt] using this) rfl
    simp only [putI, if_pos h0, List.length_cons, List.take_succ_cons, List.drop_succ_cons, List.cons_append]
    rw [← ih]
theorem put_mid : ∀ {L : List Int} {v : Int} {k : Nat}, LtI L v k → k < L.length → ¬ gt L k < v → ¬ gt L k = v → L.take k ++ [v] ++ L.drop k = putI L v
  | [], _, _, _, hk, _, _ => by simp at hk
  | x :: t, v, 0, _, _, h1, h2 => by
    have h1 : ¬ x < v := by simpa [gt] using h1
    have h2 : ¬ x = v := by simpa [gt] using h2
    simp [putI, h1, h2]
  | x :: t, v, k + 1, h, hk, h1, h2 => by
    have h0 : x < v := by have := h 0 (by omega); simpa [gt] using this
    have ih := put_mid (L := t) (v := v) (k := k) (fun j hj => by have := h (j + 1) (by omega); simpa [gt] using this) (by simpa using hk) (by simpa [gt] using h1) (by simpa [gt] using h2)
    simp only [putI, if_pos h0, List.take_succ_cons, List.drop_succ_cons, List.cons_append]
    rw [← ih]
theorem put_same : ∀ {L : List Int} {v : Int} {k : Nat}, LtI L v k → k < L.length → gt L k = v → L = putI L v
  | [], _, _, _, hk, _ => by simp at hk
  | x :: t, v, 0, _, _, h2 => by
    have h2 : x = v := by simpa [gt] using h2
    subst h2
    simp [putI]
  | x :: t, v, k + 1, h, hk, h2 => by
    have h0 : x < v := by have := h 0 (by omega); simpa [gt] using this
    have ih := put_same (L := t) (v := v) (k := k) (fun j hj => by have := h (j + 1) (by omega); simpa [gt] using this) (by simpa using hk) (by simpa [gt] using h2)
    simp only [putI, if_pos h0]
    rw [← ih]
theorem put_any {L : List Int} {v : Int} {k : Nat} (h : LtI L v k) (hk : k = L.length ∨ (k < L.length ∧ ¬ gt L k < v ∧ ¬ gt L k = v)) : L.take k ++ [v] ++ L.drop k = putI L v :=
  hk.elim (fun e => put_end h e) fun e => put_mid h e.1 e.2.1 e.2.2
theorem put_ins : ∀ {L : List Int} {v : Int}, v ∉ L → putI L v = insI L v
  | [], _, _ => rfl
  | x :: t, v, h => by
    have h1 : ¬ x = v := fun e => h (by simp [e])
    have h2 : v ∉ t := fun e => h (by simp [e])
    unfold putI insI
    split
    · rw [if_pos (by omega), put_ins h2]
    · try rw [if_neg h1]
      first | done | rfl | rw [if_neg (show ¬ x ≤ v by omega)]
theorem sort_mem {x : Int} : ∀ {L P : List Int}, x ∈ L.foldl insI P ↔ x ∈ P ∨ x ∈ L
  | [], P => by simp
  | y :: L, P => by
    simp only [List.foldl_cons]
    rw [sort_mem, insI_mem]
    simp only [List.mem_cons]
    constructor
    · rintro ((h | h) | h)
      · exact .inr (.inl h)
      · exact .inl h
      · exact .inr (.inr h)
    · rintro (h | h | h)
      · exact .inl (.inr h)
      · exact .inl (.inl h)
      · exact .inr h
theorem seat_put (hv : VsOK L) (h : k < L.length) (hp : inV m (gt L k) = true) : putI (sortI (rdrs L m k)) (gt L k).Reader = sortI (rdrs L m (k + 1)) := by
  rw [put_ins (fun hm => rdr_new hv h hp (by
    unfold sortI at hm
    rcases sort_mem.1 hm with h1 | h1
    · cases h1
    · exact h1)), ← rdrs_yes h hp]
  unfold sortI
  rw [List.foldl_append]; rfl
theorem seats_len (hv : VsOK L) (m : Int) : (seatsAt L m).length ≤ 6 := by
  unfold seatsAt; rw [sortI_len]; exact rdrs_six hv (Nat.le_refl _)
/-- The answer of 'SeatedAt'. -/
noncomputable def satL (L : List Visit) (m : Int) : List Int := if VsOK L ∧ 480 ≤ m ∧ m ≤ 1200 then seatsAt L m else []
theorem sat_len (L : List Visit) (m : Int) : (satL L m).length ≤ 6 := by
  unfold satL
  split
  · rename_i h; exact seats_len h.1 m
  · simp
end
end Go.Proofs.YthgbcadgnihdiaaGreatDoor
