/- Plain words on the fullest minute. -/
import Derived.Test.YthgbcadgnihdiaaGreatDoorRs
namespace Go.Proofs.YthgbcadgnihdiaaGreatDoor
open Go Go.RowKit Fw
def cntV (L : List Visit) (m : Int) : Nat := (seatsAt L m).length
/-- The best of the first 'k' minutes. -/
def fullN (L : List Visit) : Nat → Int × Int
  | 0 => (480, 0)
  | k + 1 => if (fullN L k).2 < (cntV L (480 + (k : Int)) : Int) then (480 + (k : Int), (cntV L (480 + (k : Int)) : Int)) else fullN L k
/-- The best of the first 'k' visits' beginnings. -/
def fullS (L : List Visit) : Nat → Int × Int
  | 0 => (480, 0)
  | k + 1 => if (fullS L k).2 < (cntV L (gt L k).From : Int) then ((gt L k).From, (cntV L (gt L k).From : Int)) else fullS L k
section
variable {L : List Visit} {m b q : Int} {k i j n : Nat}
theorem fullN_yes (h : (fullN L k).2 < ((seatsAt L (480 + (k : Int))).length : Int)) : fullN L (k + 1) = (480 + (k : Int), ((seatsAt L (480 + (k : Int))).length : Int)) := if_pos h
theorem fullN_no (h : ¬ (fullN L k).2 < ((seatsAt L (480 + (k : Int))).length : Int)) : fullN L (k + 1) = fullN L k := if_neg h
theorem sat_eq (hv : VsOK L) (h : k < L.length) : satL L (gt L k).From = seatsAt L (gt L k).From := by
  have := vs_rng hv (gt_get' h)
  unfold satL; rw [if_pos ⟨hv, by omega⟩]
theorem fullS_yes (hv : VsOK L) (hk : k < L.length) (h : (fullS L k).2 < ((satL L (gt L k).From).length : Int)) : fullS L (k + 1) = ((gt L k).From, ((satL L (gt L k).From).length : Int)) := by
  rw [sat_eq hv hk] at h ⊢; exact if_pos h
theorem fullS_no (hv : VsOK L) (hk : k < L.length) (h : ¬ (fullS L k).2 < ((satL L (gt L k).From).length : Int)) : fullS L (k + 1) = fullS L k := by
  rw [sat_eq hv hk] at h; exact if_neg h
theorem cnt_rdrs : cntV L m = L.countP (inV m) := by
  unfold cntV seatsAt rdrs; rw [sortI_len, List.take_of_length_le (Nat.le_refl _), List.length_map, List.countP_eq_length_filter]
theorem last_in (L : List Visit) (m : Int) : ∀ k, k ≤ L.length → (∀ j, j < k → inV m (gt L j) = false) ∨ ∃ i, i < k ∧ inV m (gt L i) = true ∧ ∀ j, i < j → j < k → inV m (gt L j) = false
  | 0, _ => .inl fun _ h => absurd h (by omega)
  | k + 1, hk => by
    cases hp : inV m (gt L k)
    · rcases last_in L m k (by omega) with h | ⟨i, hi, h1, h2⟩
      · refine .inl fun j hj => ?_
        rcases Nat.lt_or_ge j k with h3 | h3
        · exact h j h3
        · obtain rfl : j = k := by omega
          exact hp
      · refine .inr ⟨i, by omega, h1, fun j h3 h4 => ?_⟩
        rcases Nat.lt_or_ge j k with h5 | h5
        · exact h2 j h3 h5
        · obtain rfl : j = k := by omega
          exact hp
    · exact .inr ⟨k, by omega, hp, fun j h3 h4 => by omega⟩
theorem vs_mono (hv : VsOK L) : ∀ j, j < L.length → ∀ i, i ≤ j → (gt L i).From ≤ (gt L j).From
  | 0, _, i, hi => by obtain rfl : i = 0 := by omega
                      exact Int.le_refl _
  | j + 1, hj, i, hi => by
    rcases Nat.lt_or_ge i (j + 1) with h | h
    · have h1 := vs_mono hv j (by omega) i (by omega)
      have h2 := (hv.1 (j + 1) _ (gt_get' hj)).2.1 (gt L j) (by omega) (gt_get' (by omega))
      omega
    · obtain rfl : i = j + 1 := by omega
      exact Int.le_refl _
/-- Where somebody sits, the last to come came to no fewer. -/
theorem cnt_from (hv : VsOK L) (h : 0 < cntV L m) : ∃ i, i < L.length ∧ (gt L i).From ≤ m ∧ cntV L m ≤ cntV L (gt L i).From := by
  rcases last_in L m L.length (Nat.le_refl _) with h1 | ⟨i, hi, hp, hl⟩
  · exfalso
    rw [cnt_rdrs, List.countP_pos_iff] at h
    obtain ⟨x, hx, hp⟩ := h
    obtain ⟨j, hj⟩ := List.mem_iff_getElem?.1 hx
    have := h1 j (List.getElem?_eq_some_iff.1 hj).1
    rw [gt_eq hj, hp] at this
    cases this
  · have hm : (gt L i).From ≤ m := by unfold inV at hp; simp only [decide_eq_true_eq] at hp; exact hp.1
    refine ⟨i, hi, hm, ?_⟩
    rw [cnt_rdrs, cnt_rdrs]
    refine List.countP_mono_left fun x hx hp' => ?_
    obtain ⟨j, hj⟩ := List.mem_iff_getElem?.1 hx
    have hjl := (List.getElem?_eq_some_iff.1 hj).1
    have hji : j ≤ i := by
      rcases Nat.lt_or_ge i j with h2 | h2
      · have := hl j h2 hjl
        rw [gt_eq hj, hp'] at this
        cases this
      · exact h2
    have := vs_mono hv i hi j hji
    rw [gt_eq hj] at this
    unfold inV at hp' ⊢
    simp only [decide_eq_true_eq] at hp' ⊢
    omega
def FullM (L : List Visit) (e b q : Int) : Prop := (∀ m, 480 ≤ m → m < e → (cntV L m : Int) ≤ q) ∧ 0 ≤ q ∧ (q = 0 → b = 480) ∧ (0 < q → 480 ≤ b ∧ b < e ∧ (cntV L b : Int) = q ∧ ∀ m, 480 ≤ m → m < b → (cntV L m : Int) < q)
theorem fullM_one {e b q b' q' : Int} (h : FullM L e b q) (h' : FullM L e b' q') : b = b' ∧ q = q' := by
  obtain ⟨h1, h2, h3, h4⟩ := h
  obtain ⟨k1, k2, k3, k4⟩ := h'
  have hq : q = q' := by
    rcases Int.lt_or_le 0 q with a | a
    · have a1 := h4 a
      have a2 := k1 b a1.1 a1.2.1
      rcases Int.lt_or_le 0 q' with c | c
      · have c1 := k4 c
        have c2 := h1 b' c1.1 c1.2.1
        omega
      · omega
    · rcases Int.lt_or_le 0 q' with c | c
      · have c1 := k4 c
        have c2 := h1 b' c1.1 c1.2.1
        omega
      · omega
  subst hq
  refine ⟨?_, rfl⟩
  rcases Int.lt_or_le 0 q with a | a
  · have a1 := h4 a
    have c1 := k4 a
    rcases Int.lt_trichotomy b b' with t | t | t
    · have := c1.2.2.2 b a1.1 t; omega
    · exact t
    · have := a1.2.2.2 b' c1.1 t; omega
  · rw [h3 (by omega), k3 (by omega)]
theorem fullM_N (L : List Visit) : ∀ k : Nat, FullM L (480 + (k : Int)) (fullN L k).1 (fullN L k).2
  | 0 => ⟨fun m h1 h2 => by omega, Int.le_refl _, fun _ => rfl, fun h => absurd h (by simp [fullN])⟩
  | k + 1 => by
    obtain ⟨h1, h2, h3, h4⟩ := fullM_N L k
    unfold fullN
    split
    · rename_i h
      refine ⟨fun m a1 a2 => ?_, by simp only; omega, fun a => by simp only at a; omega, fun _ => ⟨by simp only; omega, by simp only; omega, rfl, fun m a1 a2 => ?_⟩⟩
      · simp only
        rcases Int.lt_or_le m (480 + (k : Int)) with c | c
        · have := h1 m a1 c; omega
        · obtain rfl : m = 480 + (k : Int) := by omega
          omega
      · simp only at a2 ⊢
        have := h1 m a1 a2; omega
    · rename_i h
      refine ⟨fun m a1 a2 => ?_, h2, h3, fun a => ?_⟩
      · rcases Int.lt_or_le m (480 + (k : Int)) with c | c
        · exact h1 m a1 c
        · obtain rfl : m = 480 + (k : Int) := by omega
          omega
      · have := h4 a
        exact ⟨this.1, by omega, this.2.2⟩
theorem fullS_inv (L : List Visit) : ∀ k : Nat, (∀ i, i < k → (cntV L (gt L i).From : Int) ≤ (fullS L k).2) ∧ 0 ≤ (fullS L k).2 ∧ ((fullS L k).2 = 0 → (fullS L k).1 = 480) ∧
    (0 < (fullS L k).2 → ∃ i, i < k ∧ (gt L i).From = (fullS L k).1 ∧ (cntV L (gt L i).From : Int) = (fullS L k).2 ∧ ∀ j, j < i → (cntV L (gt L j).From : Int) < (fullS L k).2)
  | 0 => ⟨fun _ h => absurd h (by omega), Int.le_refl _, fun _ => rfl, fun h => absurd h (by simp [fullS])⟩
  | k + 1 => by
    obtain ⟨h1, h2, h3, h4⟩ := fullS_inv L k
    unfold fullS
    split
    · rename_i h
      refine ⟨fun i a => ?_, by simp only; omega, fun a => by simp only at a; omega, fun _ => ⟨k, by omega, rfl, rfl, fun j a => ?_⟩⟩
      · simp only
        rcases Nat.lt_or_ge i k with c | c
        · have := h1 i c; omega
        · obtain rfl : i = k := by omega
          omega
      · simp only
        have := h1 j a; omega
    · rename_i h
      refine ⟨fun i a => ?_, h2, h3, fun a => ?_⟩
      · rcases Nat.lt_or_ge i k with c | c
        · exact h1 i c
        · obtain rfl : i = k := by omega
          omega
      · obtain ⟨i, a1, a2⟩ := h4 a
        exact ⟨i, by omega, a2⟩
theorem full_eq (hv : VsOK L) : fullS L L.length = fullN L 720 := by
  obtain ⟨h1, h2, h3, h4⟩ := fullS_inv L L.length
  have hN := fullM_N L 720
  have hS : FullM L (480 + ((720 : Nat) : Int)) (fullS L L.length).1 (fullS L L.length).2 := by
    refine ⟨fun m a1 a2 => ?_, h2, h3, fun a => ?_⟩
    · rcases Nat.eq_zero_or_pos (cntV L m) with c | c
      · omega
      · obtain ⟨i, i1, i2, i3⟩ := cnt_from hv c
        have := h1 i i1
        omega
    · obtain ⟨i, i1, i2, i3, i4⟩ := h4 a
      have hr := vs_rng hv (gt_get' i1)
      rw [i2] at hr i3
      refine ⟨by omega, by omega, i3, fun m c1 c2 => ?_⟩
      rcases Nat.eq_zero_or_pos (cntV L m) with c | c
      · omega
      · obtain ⟨j, j1, j2, j3⟩ := cnt_from hv c
        have hj : j < i := by
          rcases Nat.lt_or_ge j i with d | d
          · exact d
          · have := vs_mono hv j j1 i d
            omega
        have := i4 j hj
        omega
  have := fullM_one hS hN
  exact Prod.ext this.1 this.2
end
end Go.Proofs.YthgbcadgnihdiaaGreatDoor
