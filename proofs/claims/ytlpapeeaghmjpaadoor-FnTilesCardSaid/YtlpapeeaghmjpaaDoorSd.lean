/- Plain words on scan jobs. -/
import Derived.Test.YtlpapeeaghmjpaaDoorSa
namespace Go.Proofs.YtlpapeeaghmjpaaDoor
open Go Go.RowKit Fw
/-- How many tiles stand at the front. -/
def takenN : List Int → Nat
  | [] => 0
  | x :: t => if x = 0 then 0 else takenN t + 1
def wsum (L : List Int) : Int := L.foldl (fun a x => IntKind.i64.wrap (a + x)) 0
def sumI : List Int → Int
  | [] => 0
  | x :: t => x + sumI t
def Trail (L : List Int) : Prop := ∀ j, takenN L ≤ j → j < L.length → gt L j = 0
def TilesOK (L : List Int) : Prop := L.length ≤ 8 ∧ (∀ j, j < L.length → 0 ≤ gt L j ∧ gt L j ≤ 100) ∧ Trail L
noncomputable instance (L : List Int) : Decidable (Trail L) := Classical.propDecidable _
noncomputable instance (L : List Int) : Decidable (TilesOK L) := Classical.propDecidable _
def JobOK (x : ScanJob) : Prop := TilesOK x.Tiles ∧ (1 ≤ (x.Tiles.length : Int) ∧ x.Next = (takenN x.Tiles : Int) ∧ x.Size = 10 * sumI x.Tiles ∧ (0 ≤ x.State ∧ x.State ≤ 3) ∧ (0 ≤ x.Fails ∧ x.Fails ≤ 3) ∧ (x.Fails = 3 → x.State = 2) ∧ (x.State = 0 → takenN x.Tiles = 0 ∧ x.Fails = 0) ∧ (x.State = 3 → takenN x.Tiles = x.Tiles.length))
noncomputable instance (x : ScanJob) : Decidable (JobOK x) := Classical.propDecidable _
section
variable {L : List Int} {k j n b i : Nat} {x : Int}
theorem taken_le : ∀ L : List Int, takenN L ≤ L.length
  | [] => Nat.le_refl _
  | x :: t => by have := taken_le t; unfold takenN; split <;> simp; omega
theorem taken_eq : ∀ {L : List Int} {k : Nat}, (∀ j, j < k → gt L j ≠ 0) → (k = L.length ∨ k < L.length ∧ gt L k = 0) → takenN L = k
  | [], k, _, h => by simp at h; simp [takenN, h]
  | x :: t, 0, _, h => by
    have : x = 0 := by simpa [gt] using h
    simp [takenN, this]
  | x :: t, k + 1, h0, h => by
    have hx : ¬ x = 0 := by have := h0 0 (by omega); simpa [gt] using this
    have := taken_eq (L := t) (k := k) (fun j hj => by have := h0 (j + 1) (by omega); simpa [gt] using this) (by simpa [gt] using h)
    simp [takenN, hx, this]
theorem taken_nz : ∀ {L : List Int} {j : Nat}, j < takenN L → gt L j ≠ 0
  | [], j, h => by simp [takenN] at h
  | x :: t, j, h => by
    unfold takenN at h
    split at h
    · omega
    · rename_i hx
      cases j with
      | zero => simpa [gt] using hx
      | succ j => have := taken_nz (L := t) (j := j) (by omega); simpa [gt] using this
theorem taken_z : ∀ {L : List Int}, takenN L < L.length → gt L (takenN L) = 0
  | [], h => by simp at h
  | x :: t, h => by
    unfold takenN at h ⊢
    split
    · rename_i hx; simpa [gt] using hx
    · rename_i hx
      rw [if_neg hx] at h
      have := taken_z (L := t) (by simpa using h)
      simpa [gt] using this
theorem wsum_snoc (h : k < L.length) : wsum (L.take (k + 1)) = IntKind.i64.wrap (wsum (L.take k) + gt L k) := by
  unfold wsum; rw [List.take_add_one, gt_get h, Option.toList_some, List.foldl_append]; rfl
theorem sumI_app (A B : List Int) : sumI (A ++ B) = sumI A + sumI B := by
  induction A with
  | nil => simp [sumI]
  | cons x t ih => simp only [List.cons_append, sumI, ih]; omega
theorem sumI_snoc (h : k < L.length) : sumI (L.take (k + 1)) = sumI (L.take k) + gt L k := by
  rw [List.take_add_one, gt_get h, Option.toList_some, sumI_app]; simp [sumI]
theorem sum_tk (hr : ∀ j, j < L.length → 0 ≤ gt L j ∧ gt L j ≤ 100) : ∀ k, k ≤ L.length → k ≤ 8 → wsum (L.take k) = sumI (L.take k) ∧ 0 ≤ sumI (L.take k) ∧ sumI (L.take k) ≤ 100 * (k : Int)
  | 0, _, _ => by simp [wsum, sumI]
  | k + 1, h, h8 => by
    have ih := sum_tk hr k (by omega) (by omega)
    have := hr k (by omega)
    rw [wsum_snoc (by omega), sumI_snoc (by omega), ih.1, wrap64_in (by omega)]
    omega
theorem sum_from (hr : ∀ j, k ≤ j → j < L.length → gt L j = 0) : ∀ m, k ≤ m → m ≤ L.length → sumI (L.take m) = sumI (L.take k)
  | 0, h, _ => by obtain rfl : k = 0 := by omega
                  rfl
  | m + 1, h, hm => by
    rcases Nat.lt_or_ge m k with h1 | h1
    · obtain rfl : k = m + 1 := by omega
      rfl
    · rw [sumI_snoc (by omega), hr m h1 (by omega), sum_from hr m h1 (by omega)]; omega
theorem take_all : L.take L.length = L := List.take_of_length_le (Nat.le_refl _)
/-- What holds of the sums of good tiles. -/
theorem tiles_sum (h : TilesOK L) : wsum L = sumI L ∧ wsum (L.take (takenN L)) = sumI L ∧ 0 ≤ sumI L ∧ sumI L ≤ 800 := by
  have h1 := sum_tk h.2.1 L.length (Nat.le_refl _) h.1
  have h2 := sum_tk h.2.1 (takenN L) (taken_le L) (by have := taken_le L; have := h.1; omega)
  have h3 := sum_from h.2.2 L.length (taken_le L) (Nat.le_refl _)
  rw [take_all] at h1 h3
  have := h.1
  exact ⟨h1.1, by rw [h2.1, ← h3], h1.2.1, by omega⟩
def TTo (L : List Int) (k : Nat) : Prop := ∀ j, j < k → (0 ≤ gt L j ∧ gt L j ≤ 100) ∧ (takenN L < j → gt L j = 0)
theorem TTo.zero : TTo L 0 := fun _ h => absurd h (by omega)
theorem TTo.next (h : TTo L k) (h1 : (0 ≤ gt L k ∧ gt L k ≤ 100)) (h2 : takenN L < k → gt L k = 0) : TTo L (k + 1) := fun j hj => by
  rcases Nat.lt_or_ge j k with h3 | h3
  · exact h j h3
  · obtain rfl : j = k := by omega
    exact ⟨h1, h2⟩
theorem TTo.end_ (h : TTo L k) (hk : L.length ≤ k) (h8 : L.length ≤ 8) : TilesOK L := ⟨h8, fun j hj => (h j (by omega)).1, fun j h1 h2 => by
  rcases Nat.lt_or_ge (takenN L) j with h3 | h3
  · exact (h j (by omega)).2 h3
  · obtain rfl : j = takenN L := by omega
    exact taken_z h2⟩
theorem tiles_bad (h1 : k < L.length) (h2 : ¬ ((0 ≤ gt L k ∧ gt L k ≤ 100) ∧ (takenN L < k → gt L k = 0))) : ¬ TilesOK L := fun h => h2 ⟨h.2.1 k h1, fun h3 => h.2.2 k (by omega) h1⟩
theorem idx_tk_no (h : idxF (eqI 0) L < 0) : takenN L = L.length := by
  refine taken_eq (fun j hj h0 => ?_) (.inl rfl)
  have : (0 : Int) ∈ L := List.mem_iff_getElem?.2 ⟨j, by rw [gt_get hj, h0]⟩
  rw [mem_idx] at this
  omega
theorem idx_tk (h : 0 ≤ idxF (eqI 0) L) : (takenN L : Int) = idxF (eqI 0) L := by
  obtain ⟨x, hx, hp, hn⟩ := idx_spec rfl h
  have hl := (List.getElem?_eq_some_iff.1 hx).1
  have : takenN L = (idxF (eqI 0) L).toNat := taken_eq (fun j hj h0 => by
    have := hn j (gt L j) hj (gt_get (by omega))
    simp [eqI, h0] at this) (.inr ⟨hl, by rw [gt_eq hx]; simpa [eqI] using hp⟩)
  omega
theorem tz_no (h : idxF (eqI 0) L < 0) : Trail L := fun j h1 h2 => by have := idx_tk_no h; omega
theorem tz_any {i : Nat} (hi : i = takenN L) : (!(L.drop i).any fun x => !decide (x = 0)) = true ↔ Trail L := by
  subst hi
  simp only [Bool.not_eq_true', List.any_eq_false, decide_eq_true_eq, Bool.not_eq_true', decide_eq_false_iff_not, Classical.not_not]
  constructor
  · intro h j h1 h2
    refine h _ (List.mem_iff_getElem?.2 ⟨j - takenN L, ?_⟩)
    rw [List.getElem?_drop, show takenN L + (j - takenN L) = j from by omega]; exact gt_get h2
  · intro h x hx
    obtain ⟨j, hj⟩ := List.mem_iff_getElem?.1 hx
    rw [List.getElem?_drop] at hj
    have := h (takenN L + j) (by omega) (List.getElem?_eq_some_iff.1 hj).1
    rw [gt_eq hj] at this; exact this
theorem any_rng : (L.any fun x => !decide (0 ≤ x ∧ x ≤ 100)) = true ↔ ¬ ∀ j, j < L.length → 0 ≤ gt L j ∧ gt L j ≤ 100 := by
  simp only [List.any_eq_true, Bool.not_eq_true', decide_eq_false_iff_not]
  constructor
  · rintro ⟨x, hx, h⟩ k
    obtain ⟨j, hj⟩ := List.mem_iff_getElem?.1 hx
    have := k j (List.getElem?_eq_some_iff.1 hj).1
    rw [gt_eq hj] at this; exact h this
  · intro h
    apply Classical.byContradiction
    intro k
    exact h fun j hj => Classical.byContradiction fun h2 => k ⟨gt L j, List.mem_iff_getElem?.2 ⟨j, gt_get hj⟩, h2⟩
/-- The last tile below 'v' among the first 'n'. -/
def lastB (L : List Int) (v : Int) : Nat → Int
  | 0 => -1
  | n + 1 => if gt L n < v then (n : Int) else lastB L v n
theorem lastB_yes {v : Int} (h : gt L n < v) : lastB L v (n + 1) = (n : Int) := if_pos h
theorem lastB_no {v : Int} (h : ¬ gt L n < v) : lastB L v (n + 1) = lastB L v n := if_neg h
theorem lastB_at {v : Int} (h0 : 0 < n) (h : gt L (n - 1) < v) : lastB L v n = (n : Int) - 1 := by
  obtain ⟨m, rfl⟩ : ∃ m, n = m + 1 := ⟨n - 1, by omega⟩
  rw [lastB_yes (by simpa using h)]; omega
theorem lastB_dn {v : Int} (h0 : 0 < n) (h : ¬ gt L (n - 1) < v) : lastB L v n = lastB L v (n - 1) := by
  obtain ⟨m, rfl⟩ : ∃ m, n = m + 1 := ⟨n - 1, by omega⟩
  exact lastB_no (by simpa using h)
theorem lastB_zero {v : Int} (h0 : n = 0) : lastB L v n = -1 := by subst h0; rfl
theorem lastB_rng {v : Int} : ∀ n, -1 ≤ lastB L v n ∧ lastB L v n < (n : Int)
  | 0 => by simp [lastB]
  | n + 1 => by have := lastB_rng (v := v) n; unfold lastB; split <;> omega
/-- Nothing from 'b' up to 'i'. -/
def zf (L : List Int) (b i : Nat) : List Int := L.take b ++ List.replicate (i - b) 0 ++ L.drop i
theorem zf_len (h : i ≤ L.length) (hb : b ≤ i) : (zf L b i).length = L.length := by simp [zf]; omega
theorem zf_self (L : List Int) (b : Nat) : zf L b b = L := by simp [zf]
theorem zf_next (hb : b ≤ i) (h : i < L.length) : (zf L b i).set i 0 = zf L b (i + 1) := by
  refine List.ext_getElem? fun j => ?_
  rw [List.getElem?_set]
  unfold zf
  simp only [List.getElem?_append, List.getElem?_take, List.getElem?_replicate, List.getElem?_drop, List.length_append, List.length_take, List.length_replicate, List.length_drop]
  have h0 : min b L.length = b := by omega
  simp only [h0]
  split
  · rename_i e; subst e
    repeat' split
    all_goals first | omega | rfl | skip
  · repeat' split
    all_goals first | omega | rfl | (congr 1; omega) | skip
theorem zf_all (ht : ∀ j, i ≤ j → j < L.length → gt L j = 0) (hb : b ≤ i) (hi : i ≤ L.length) : zf L b L.length = zf L b i := by
  have hd : L.drop i = List.replicate (L.length - i) 0 := by
    refine List.eq_replicate_iff.2 ⟨by simp, fun x hx => ?_⟩
    obtain ⟨j, hj⟩ := List.mem_iff_getElem?.1 hx
    rw [List.getElem?_drop] at hj
    have := ht (i + j) (by omega) (List.getElem?_eq_some_iff.1 hj).1
    rw [gt_eq hj] at this; exact this
  unfold zf
  rw [hd, List.drop_of_length_le (Nat.le_refl _), List.append_nil, List.append_assoc, List.replicate_append_replicate]
  congr 2; omega
theorem sum_rep (n : Nat) : sumI (List.replicate n 0) = 0 := by
  induction n with
  | zero => rfl
  | succ n ih => simp [List.replicate_succ, sumI, ih]
theorem zf_sum (hi : i = L.length) : sumI (zf L b i) = sumI (L.take b) := by
  subst hi; unfold zf
  rw [List.drop_of_length_le (Nat.le_refl _), List.append_nil, sumI_app, sum_rep]; omega
end
theorem job_rng {x : ScanJob} (h : JobOK x) : x.Tiles.length ≤ 8 ∧ takenN x.Tiles ≤ x.Tiles.length ∧ (0 ≤ sumI x.Tiles ∧ sumI x.Tiles ≤ 800) ∧ (1 ≤ (x.Tiles.length : Int) ∧ x.Next = (takenN x.Tiles : Int) ∧ x.Size = 10 * sumI x.Tiles ∧ (0 ≤ x.State ∧ x.State ≤ 3) ∧ (0 ≤ x.Fails ∧ x.Fails ≤ 3) ∧ (x.Fails = 3 → x.State = 2) ∧ (x.State = 0 → takenN x.Tiles = 0 ∧ x.Fails = 0) ∧ (x.State = 3 → takenN x.Tiles = x.Tiles.length)) :=
  ⟨h.1.1, taken_le _, (tiles_sum h.1).2.2, h.2⟩
/-- The sums of a list that may be bad, turned for 'omega'. -/
theorem job_of {x : ScanJob} (ht : TilesOK x.Tiles) (h : wsum x.Tiles = sumI x.Tiles → wsum (x.Tiles.take (takenN x.Tiles)) = sumI x.Tiles → 0 ≤ sumI x.Tiles → sumI x.Tiles ≤ 800 → (1 ≤ (x.Tiles.length : Int) ∧ x.Next = (takenN x.Tiles : Int) ∧ x.Size = 10 * sumI x.Tiles ∧ (0 ≤ x.State ∧ x.State ≤ 3) ∧ (0 ≤ x.Fails ∧ x.Fails ≤ 3) ∧ (x.Fails = 3 → x.State = 2) ∧ (x.State = 0 → takenN x.Tiles = 0 ∧ x.Fails = 0) ∧ (x.State = 3 → takenN x.Tiles = x.Tiles.length))) : JobOK x := by
  have := tiles_sum ht
  exact ⟨ht, h this.1 this.2.1 this.2.2.1 this.2.2.2⟩
theorem job_iff {x : ScanJob} (ht : TilesOK x.Tiles) : JobOK x ↔ (1 ≤ (x.Tiles.length : Int) ∧ x.Next = (takenN x.Tiles : Int) ∧ x.Size = 10 * sumI x.Tiles ∧ (0 ≤ x.State ∧ x.State ≤ 3) ∧ (0 ≤ x.Fails ∧ x.Fails ≤ 3) ∧ (x.Fails = 3 → x.State = 2) ∧ (x.State = 0 → takenN x.Tiles = 0 ∧ x.Fails = 0) ∧ (x.State = 3 → takenN x.Tiles = x.Tiles.length)) :=
  ⟨And.right, fun h => ⟨ht, h⟩⟩
theorem tiles_of {L : List Int} (h8 : L.length ≤ 8) (hr : (L.any fun x => !decide (0 ≤ x ∧ x ≤ 100)) = false) (ht : Trail L) : TilesOK L :=
  ⟨h8, ⟨Classical.byContradiction (fun h => (by rw [any_rng.2 h] at hr; cases hr)), ht⟩⟩
theorem tiles_wrap {L : List Int} (h : TilesOK L) : IntKind.i64.wrap (10 * wsum L) = 10 * sumI L ∧ IntKind.i64.wrap (10 * wsum (L.take (takenN L))) = 10 * sumI L := by
  have hs := tiles_sum h
  rw [hs.1, hs.2.1, wrap64_in (by omega)]; exact ⟨rfl, rfl⟩
theorem wrap10 {a s : Int} (h : a = s) (h0 : 0 ≤ s) (h1 : s ≤ 800) : IntKind.i64.wrap (10 * a) = 10 * s := by rw [h, wrap64_in (by omega)]
/-- Where a job goes on. -/
def goN (x : ScanJob) (v : Int) : ScanJob :=
  if 0 < v then ⟨1, zf x.Tiles (lastB x.Tiles v x.Next.toNat).toNat x.Tiles.length, lastB x.Tiles v x.Next.toNat, 0, 10 * sumI (zf x.Tiles (lastB x.Tiles v x.Next.toNat).toNat x.Tiles.length)⟩
  else ⟨1, x.Tiles, x.Next, 0, x.Size⟩
theorem zf_wrap {x : ScanJob} (h : JobOK x) {b : Nat} (hb : b ≤ x.Tiles.length) : IntKind.i64.wrap (10 * wsum (zf x.Tiles b x.Tiles.length)) = 10 * sumI (zf x.Tiles b x.Tiles.length) := by
  have hl := zf_len (L := x.Tiles) (i := x.Tiles.length) (Nat.le_refl _) hb
  have h8 := h.1.1
  have hs := sum_tk (L := zf x.Tiles b x.Tiles.length) (fun j hj => by
    have e : zf x.Tiles b x.Tiles.length = x.Tiles.take b ++ List.replicate (x.Tiles.length - b) 0 := by
      unfold zf; rw [List.drop_of_length_le (Nat.le_refl _), List.append_nil]
    rcases Nat.lt_or_ge j b with h1 | h1
    · have : gt (zf x.Tiles b x.Tiles.length) j = gt x.Tiles j := by
        rw [e]; unfold gt; simp only [List.getD]
        rw [List.getElem?_append_left (by simp; omega), List.getElem?_take, if_pos h1]
      rw [this]; exact h.1.2.1 j (by omega)
    · have : gt (zf x.Tiles b x.Tiles.length) j = 0 := by
        rw [e]; unfold gt; simp only [List.getD]
        rw [List.getElem?_append_right (by simp; omega), List.getElem?_replicate, if_pos (by simp; omega)]; rfl
      rw [this]; omega) x.Tiles.length (by omega) h8
  rw [List.take_of_length_le (by omega)] at hs
  rw [hs.1, wrap64_in (by omega)]
/-- The same, as the reference goes on. -/
def agB (x : ScanJob) (v : Int) : Nat := (lastB x.Tiles v x.Next.toNat).toNat
def agS (x : ScanJob) (v : Int) (j : Nat) : Int := x.Size - 10 * (sumI (x.Tiles.take j) - sumI (x.Tiles.take (agB x v)))
def againN (x : ScanJob) (v : Int) : ScanJob :=
  if v = 0 then ⟨1, x.Tiles, x.Next, 0, x.Size⟩ else ⟨1, zf x.Tiles (agB x v) x.Next.toNat, (agB x v : Int), 0, agS x v x.Next.toNat⟩
theorem agS_next {x : ScanJob} {v : Int} {j : Nat} (h : j < x.Tiles.length) : agS x v j - 10 * gt x.Tiles j = agS x v (j + 1) := by
  unfold agS; rw [sumI_snoc h]; omega
theorem agS_zero (x : ScanJob) (v : Int) : x.Size = agS x v (agB x v) := by unfold agS; omega
theorem agS_rng {x : ScanJob} (h : JobOK x) (v : Int) {j : Nat} (hj : j ≤ x.Tiles.length) : -8000 ≤ agS x v j ∧ agS x v j ≤ 16000 := by
  have h1 := sum_tk h.1.2.1 j hj (by have := h.1.1; omega)
  have hb : agB x v ≤ x.Tiles.length := by
    have := (lastB_rng (L := x.Tiles) (v := v) x.Next.toNat).2
    have := job_rng h
    unfold agB; omega
  have h2 := sum_tk h.1.2.1 (agB x v) hb (by have := h.1.1; omega)
  have := job_rng h
  unfold agS; omega
theorem agB_le (x : ScanJob) (v : Int) : agB x v ≤ x.Next.toNat := by
  have := (lastB_rng (L := x.Tiles) (v := v) x.Next.toNat).2
  unfold agB; omega
theorem tile_rng {x : ScanJob} (h : JobOK x) (j : Nat) : 0 ≤ gt x.Tiles j ∧ gt x.Tiles j ≤ 100 := by
  rcases Nat.lt_or_ge j x.Tiles.length with h1 | h1
  · exact h.1.2.1 j h1
  · have : gt x.Tiles j = 0 := by unfold gt; simp only [List.getD]; rw [List.getElem?_eq_none h1]; rfl
    omega
end Go.Proofs.YtlpapeeaghmjpaaDoor
