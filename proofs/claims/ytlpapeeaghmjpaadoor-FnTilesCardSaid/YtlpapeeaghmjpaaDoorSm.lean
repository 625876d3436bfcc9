/- The end of scan jobs, their worst tiles and their texts: plain words. -/
import Derived.Test.YtlpapeeaghmjpaaDoorSq
import Derived.Test.YtlpapeeaghmjpaaDoorWa
namespace Go.Proofs.YtlpapeeaghmjpaaDoor
open Go Go.RowKit Fw
/-- The least of the first tiles, and where it stands first. -/
def minT (L : List Int) : Nat → Int
  | 0 => gt L 0
  | k + 1 => min (minT L k) (gt L (k + 1))
def bestT (L : List Int) : Nat → Nat
  | 0 => 0
  | k + 1 => if gt L (k + 1) < gt L (bestT L k) then k + 1 else bestT L k
section
variable {x o y : ScanJob} {L : List Int} {k j n i : Nat} {m v a b : Int} {s : ScanStep} {t : List UInt8}
theorem best_le (L : List Int) : ∀ k, bestT L k ≤ k
  | 0 => Nat.le_refl _
  | k + 1 => by have := best_le L k; unfold bestT; split <;> omega
theorem best_min (L : List Int) : ∀ k, gt L (bestT L k) = minT L k
  | 0 => rfl
  | k + 1 => by have := best_min L k; unfold bestT minT; split <;> omega
theorem minT_le : ∀ k j, j ≤ k → minT L k ≤ gt L j
  | 0, j, h => by obtain rfl : j = 0 := by omega
                  exact Int.le_refl _
  | k + 1, j, h => by
    unfold minT
    rcases Nat.lt_or_ge k j with h1 | h1
    · obtain rfl : j = k + 1 := by omega
      omega
    · have := minT_le k j h1; omega
theorem best_first : ∀ k j, j < bestT L k → minT L k < gt L j
  | 0, j, h => absurd h (by simp [bestT])
  | k + 1, j, h => by
    have h1 := best_min L k
    unfold bestT at h; unfold minT
    split at h
    · have := minT_le (L := L) k j (by omega); omega
    · have := best_first k j h; omega
theorem best_yes (h1 : L[k + 1]? = some a) (h2 : L[bestT L k]? = some b) (h : a < b) : bestT L (k + 1) = k + 1 := by
  unfold bestT; rw [gt_eq h1, gt_eq h2, if_pos h]
theorem best_no (h1 : L[k + 1]? = some a) (h2 : L[bestT L k]? = some b) (h : ¬ a < b) : bestT L (k + 1) = bestT L k := by
  conv => lhs; unfold bestT
  rw [gt_eq h1, gt_eq h2, if_neg h]
theorem min_next (h : L[k + 1]? = some a) : min (minT L k) a = minT L (k + 1) := by
  show _ = min (minT L k) (gt L (k + 1)); rw [gt_eq h]
theorem gt_take (h : j < n) : gt (L.take n) j = gt L j := by
  unfold gt; simp only [List.getD]; rw [List.getElem?_take, if_pos h]
theorem min_take : ∀ k, k < n → minT (L.take n) k = minT L k
  | 0, h => gt_take h
  | k + 1, h => by unfold minT; rw [min_take k (by omega), gt_take h]
theorem idx_best (hk : k < L.length) : idxF (eqI (minT L k)) L = (bestT L k : Int) := by
  refine (idx_at (fun j y hj hy => ?_) (gt_get (Nat.lt_of_le_of_lt (best_le L k) hk)) (by simp [eqI, best_min])).symm
  have := best_first k j hj
  rw [gt_eq hy] at this
  simp only [eqI, decide_eq_false_iff_not]; omega
/-- The worst tile, and its quality. -/
noncomputable def worstN (x : ScanJob) : Int × Int := if JobOK x ∧ ¬ x.Next = 0 then (((bestT x.Tiles (x.Next.toNat - 1) : Nat) : Int), gt x.Tiles (bestT x.Tiles (x.Next.toNat - 1))) else (0, 0)
theorem worst_no (h : ¬ JobOK x ∨ x.Next = 0) : worstN x = (0, 0) := if_neg fun k => h.elim (fun h => h k.1) (fun h => k.2 h)
theorem worst_yes (h : JobOK x) (h0 : ¬ x.Next = 0) : worstN x = (((bestT x.Tiles (x.Next.toNat - 1) : Nat) : Int), gt x.Tiles (bestT x.Tiles (x.Next.toNat - 1))) := if_pos ⟨h, h0⟩
theorem worst_len (h : JobOK x) (h0 : ¬ x.Next = 0) : x.Next.toNat - 1 < x.Tiles.length ∧ x.Next.toNat - 1 < x.Next.toNat ∧ (x.Tiles.take x.Next.toNat).length - 1 = x.Next.toNat - 1 := by
  have hr := job_rng h
  have : (x.Tiles.take x.Next.toNat).length = x.Next.toNat := by rw [List.length_take]; omega
  omega
theorem worst_min (h : JobOK x) (h0 : ¬ x.Next = 0) : minT (x.Tiles.take x.Next.toNat) ((x.Tiles.take x.Next.toNat).length - 1) = minT x.Tiles (x.Next.toNat - 1) := by
  have hl := worst_len h h0
  rw [hl.2.2, min_take _ hl.2.1]
theorem worst_2 (h : JobOK x) (h0 : ¬ x.Next = 0) : minT (x.Tiles.take x.Next.toNat) ((x.Tiles.take x.Next.toNat).length - 1) = (worstN x).2 := by
  rw [worst_min h h0, worst_yes h h0, best_min]
theorem worst_1 (h : JobOK x) (h0 : ¬ x.Next = 0) : idxF (eqI (minT (x.Tiles.take x.Next.toNat) ((x.Tiles.take x.Next.toNat).length - 1))) x.Tiles = (worstN x).1 := by
  rw [worst_min h h0, worst_yes h h0, idx_best (worst_len h h0).1]
theorem worst_1S (h : JobOK x) (h0 : ¬ x.Next = 0) (hk : (k : Int) + 1 = x.Next) : ((bestT x.Tiles k : Nat) : Int) = (worstN x).1 := by
  rw [worst_yes h h0]; obtain rfl : k = x.Next.toNat - 1 := by omega
  rfl
theorem worst_2S (h : JobOK x) (h0 : ¬ x.Next = 0) (hk : (k : Int) + 1 = x.Next) (hx : x.Tiles[bestT x.Tiles k]? = some v) : v = (worstN x).2 := by
  rw [worst_yes h h0]; obtain rfl : k = x.Next.toNat - 1 := by omega
  exact (gt_eq hx).symm
theorem worst_2G (h : JobOK x) (h0 : ¬ x.Next = 0) (hk : (k : Int) + 1 = x.Next) : gt x.Tiles (bestT x.Tiles k) = (worstN x).2 := by
  rw [worst_yes h h0]; obtain rfl : k = x.Next.toNat - 1 := by omega
  rfl
/-- No tile is worse than the worst. -/
theorem worst_least (h : JobOK x) (h0 : ¬ x.Next = 0) (hx : x.Tiles[k]? = some v) (hv : ¬ v = 0) : (worstN x).2 ≤ v := by
  have hr := job_rng h
  have hk := (List.getElem?_eq_some_iff.1 hx).1
  rw [worst_yes h h0]
  show gt x.Tiles (bestT x.Tiles (x.Next.toNat - 1)) ≤ v
  rw [best_min]
  rcases Nat.lt_or_ge k x.Next.toNat with h1 | h1
  · have := minT_le (L := x.Tiles) (x.Next.toNat - 1) k (by omega)
    rwa [gt_eq hx] at this
  · have := h.1.2.2 k (by omega) hk
    rw [gt_eq hx] at this; exact absurd this hv
/-- The tiles that are left, and the steps to the end. -/
noncomputable def leftN (x : ScanJob) : Int := if JobOK x then (x.Tiles.length : Int) - x.Next else 0
theorem left_no (h : ¬ JobOK x) : leftN x = 0 := if_neg h
theorem left_yes (h : JobOK x) : leftN x = (x.Tiles.length : Int) - x.Next := if_pos h
theorem left_rng (x : ScanJob) : 0 ≤ leftN x ∧ leftN x ≤ 8 := by
  by_cases h : JobOK x
  · have := job_rng h; rw [left_yes h]; omega
  · rw [left_no h]; omega
noncomputable def doneN (x : ScanJob) : Int := if JobOK x then (if x.State = 3 then 0 else if x.State = 1 then leftN x + 1 else leftN x + 2) else 0
theorem done_no (h : ¬ JobOK x) : doneN x = 0 := if_neg h
theorem done_3 (h : JobOK x) (h1 : x.State = 3) : doneN x = 0 := by unfold doneN; rw [if_pos h, if_pos h1]
theorem done_1 (h : JobOK x) (h1 : x.State = 1) : doneN x = (x.Tiles.length : Int) - x.Next + 1 := by unfold doneN; rw [if_pos h, if_neg (by omega), if_pos h1, left_yes h]
theorem done_2 (h : JobOK x) (h1 : ¬ x.State = 3) (h2 : ¬ x.State = 1) : doneN x = (x.Tiles.length : Int) - x.Next + 2 := by unfold doneN; rw [if_pos h, if_neg h1, if_neg h2, left_yes h]
theorem done_lit (h : JobOK x) (hx : ([(x.Tiles.length : Int) - x.Next + 2, (x.Tiles.length : Int) - x.Next + 1, (x.Tiles.length : Int) - x.Next + 2, 0] : List Int)[x.State.toNat]? = some v) : v = doneN x := by
  have hr := job_rng h
  have h3 : x.State = 0 ∨ x.State = 1 ∨ x.State = 2 ∨ x.State = 3 := by omega
  rcases h3 with e | e | e | e
  · rw [done_2 h (by omega) (by omega)]; rw [e] at hx; simpa using hx.symm
  · rw [done_1 h e]; rw [e] at hx; simpa using hx.symm
  · rw [done_2 h (by omega) (by omega)]; rw [e] at hx; simpa using hx.symm
  · rw [done_3 h e]; rw [e] at hx; simpa using hx.symm
/-- The told steps. -/
def stepsT (k : Nat) : List ScanStep := [⟨1, 0⟩, ⟨5, 0⟩] ++ List.replicate k ⟨2, 50⟩
theorem stepsT_next (k : Nat) : stepsT k ++ ([⟨2, 50⟩] : List ScanStep) = stepsT (k + 1) := by
  unfold stepsT; rw [List.replicate_succ', ← List.append_assoc]
theorem stepsT_len (k : Nat) : (stepsT k).length = k + 2 := by simp [stepsT]
theorem sum_set : ∀ {L : List Int} {i : Nat}, i < L.length → sumI (L.set i v) = sumI L - gt L i + v
  | [], i, h => by simp at h
  | z :: t, 0, _ => by simp [sumI, gt]; omega
  | z :: t, i + 1, h => by
    have := sum_set (L := t) (i := i) (by simpa using h)
    have e : gt (z :: t) (i + 1) = gt t i := by simp [gt]
    rw [e]; simp only [List.set_cons_succ, sumI, this]; omega
theorem gt_set (h : i < L.length) : gt (L.set i v) j = if i = j then v else gt L j := by
  unfold gt; simp only [List.getD]; rw [List.getElem?_set]
  split
  · rename_i e; subst e; simp [h]
  · rfl
theorem taken_set (h : takenN L < L.length) (hz : Trail L) (hv : ¬ v = 0) : takenN (L.set (takenN L) v) = takenN L + 1 := by
  refine taken_eq (fun j hj => ?_) ?_
  · rw [gt_set h]
    split
    · exact hv
    · exact taken_nz (by omega)
  · rw [List.length_set]
    rcases Nat.lt_or_ge (takenN L + 1) L.length with h1 | h1
    · refine .inr ⟨h1, ?_⟩
      rw [gt_set h, if_neg (by omega)]; exact hz _ (by omega) h1
    · exact .inl (by omega)
theorem take_ok (h : JobOK x) (hs : x.State = 1) (hl : takenN x.Tiles < x.Tiles.length) :
    JobOK (impl_ScanJob_after x ⟨2, 50⟩) ∧ (impl_ScanJob_after x ⟨2, 50⟩).State = 1 ∧ takenN (impl_ScanJob_after x ⟨2, 50⟩).Tiles = takenN x.Tiles + 1 ∧ (impl_ScanJob_after x ⟨2, 50⟩).Tiles.length = x.Tiles.length := by
  have hr := job_rng h
  have e : impl_ScanJob_after x ⟨2, 50⟩ = ⟨x.State, x.Tiles.set (takenN x.Tiles) 50, x.Next + 1, 0, x.Size + 500⟩ := by
    unfold impl_ScanJob_after
    rw [show x.Next.toNat = takenN x.Tiles by omega]; simp
  rw [e]
  have ht := taken_set hl h.1.2.2 (show ¬ (50 : Int) = 0 by omega)
  have hsum := sum_set (v := 50) hl
  rw [taken_z hl] at hsum
  refine ⟨⟨⟨by rw [List.length_set]; exact h.1.1, fun j hj => ?_, fun j h1 h2 => ?_⟩, ?_⟩, hs, ht, List.length_set ..⟩
  · dsimp only; rw [gt_set hl]; split
    · omega
    · rw [List.length_set] at hj; exact h.1.2.1 j hj
  · dsimp only at *; rw [ht] at h1; rw [List.length_set] at h2; rw [gt_set hl, if_neg (by omega)]; exact h.1.2.2 j (by omega) h2
  · dsimp only; rw [ht, hsum, List.length_set]
    refine ⟨by omega, by omega, by omega, by omega, by omega, by omega, by omega, by omega⟩
theorem made_yes (hs : impl_isScanStep s = true) (hr : impl_ScanJob_isReady x s = true) (hk : JobOK (impl_ScanJob_after x s)) (c : Int) : runJ (x, c) s = (impl_ScanJob_after x s, c + 1) := by
  unfold runJ impl_ScanJob_stepped; simp [hs, hr, hk]
theorem made_no (hr : ¬ impl_ScanJob_isReady x s = true) (c : Int) : runJ (x, c) s = (x, c) := by
  have e : impl_ScanJob_isReady x s = false := by cases h : impl_ScanJob_isReady x s; rfl; exact absurd h hr
  have : (impl_ScanJob_stepped x s).2 = false := by unfold impl_ScanJob_stepped; rw [e]; split <;> simp
  unfold runJ; rw [if_neg (by rw [this]; simp)]
theorem takes : ∀ (m : Nat) (o : ScanJob) (c : Int), JobOK o → o.State = 1 → takenN o.Tiles + m ≤ o.Tiles.length →
    ∃ p, (List.replicate m (⟨2, 50⟩ : ScanStep)).foldl runJ (o, c) = (p, c + (m : Int)) ∧ JobOK p ∧ p.State = 1 ∧ takenN p.Tiles = takenN o.Tiles + m ∧ p.Tiles.length = o.Tiles.length
  | 0, o, c, h, hs, hl => ⟨o, by simp, h, hs, rfl, rfl⟩
  | m + 1, o, c, h, hs, hl => by
    have hk := take_ok h hs (by omega)
    have hr := job_rng h
    have e := made_yes (x := o) (s := ⟨2, 50⟩) (by simp [impl_isScanStep]) (by unfold impl_ScanJob_isReady; simp [hs]; omega) hk.1 c
    obtain ⟨p, h1, h2, h3, h4, h5⟩ := takes m _ (c + 1) hk.1 hk.2.1 (by omega)
    refine ⟨p, ?_, h2, h3, by omega, by omega⟩
    rw [List.replicate_succ, List.foldl_cons, e, h1]
    congr 1; omega
theorem end_run (h : JobOK x) (hs : x.State = 1) {k : Nat} (hk : (k : Int) = (x.Tiles.length : Int) - x.Next) (c : Int) :
    ((List.replicate k (⟨2, 50⟩ : ScanStep) ++ ([⟨6, 0⟩] : List ScanStep)).foldl runJ (x, c)).2 = c + (k : Int) + 1 ∧ ((List.replicate k (⟨2, 50⟩ : ScanStep) ++ ([⟨6, 0⟩] : List ScanStep)).foldl runJ (x, c)).1.State = 3 := by
  have hr := job_rng h
  obtain ⟨p, h1, h2, h3, h4, h5⟩ := takes k x c h hs (by omega)
  have hp := job_rng h2
  have e3 : impl_ScanJob_after p ⟨6, 0⟩ = ⟨3, p.Tiles, p.Next, p.Fails, p.Size⟩ := by unfold impl_ScanJob_after; simp
  have hk3 : JobOK (impl_ScanJob_after p ⟨6, 0⟩) := by
    rw [e3]; refine ⟨h2.1, ?_⟩
    dsimp only
    refine ⟨by omega, by omega, by omega, by omega, by omega, by omega, by omega, by omega⟩
  have e := made_yes (x := p) (s := ⟨6, 0⟩) (by simp [impl_isScanStep]) (by unfold impl_ScanJob_isReady; simp [h3]; omega) hk3 (c + (k : Int))
  rw [List.foldl_append, h1, List.foldl_cons, List.foldl_nil, e, e3]
  exact ⟨rfl, rfl⟩
/-- The told steps lead to the end. -/
def DoLaw (x : ScanJob) : Prop := ∀ k : Nat, JobOK x → (k : Int) = leftN x → (runFJ x (stepsT k ++ ([⟨6, 0⟩] : List ScanStep))).2.2 = true ∧ (runFJ x (stepsT k ++ ([⟨6, 0⟩] : List ScanStep))).2.1 = doneN x ∧ (runFJ x (stepsT k ++ ([⟨6, 0⟩] : List ScanStep))).1.State = 3
theorem do_law (x : ScanJob) : DoLaw x := fun k h hk => by
  have hr := job_rng h
  have hlr := left_rng x
  have hlen : (stepsT k ++ ([⟨6, 0⟩] : List ScanStep)).length = k + 3 := by rw [List.length_append, stepsT_len]; rfl
  have e : runFJ x (stepsT k ++ ([⟨6, 0⟩] : List ScanStep)) = (((stepsT k ++ ([⟨6, 0⟩] : List ScanStep)).foldl runJ (x, 0)).1, ((stepsT k ++ ([⟨6, 0⟩] : List ScanStep)).foldl runJ (x, 0)).2, true) := by
    unfold runFJ runToJ; rw [if_pos ⟨h, by omega⟩, List.take_of_length_le (Nat.le_refl _)]
  have ef : (stepsT k ++ ([⟨6, 0⟩] : List ScanStep)).foldl runJ (x, 0) = (List.replicate k (⟨2, 50⟩ : ScanStep) ++ ([⟨6, 0⟩] : List ScanStep)).foldl runJ (runJ (runJ (x, 0) ⟨1, 0⟩) ⟨5, 0⟩) := by
    unfold stepsT; rw [List.append_assoc]; rfl
  rw [e, ef]
  refine ⟨rfl, ?_⟩
  dsimp only
  rw [left_yes h] at hk
  have h3 : x.State = 0 ∨ x.State = 1 ∨ x.State = 2 ∨ x.State = 3 := by omega
  rcases h3 with q | q | q | q
  · have e1 : impl_ScanJob_after x ⟨1, 0⟩ = ⟨1, x.Tiles, x.Next, x.Fails, x.Size⟩ := by unfold impl_ScanJob_after; simp
    have k1 : JobOK (impl_ScanJob_after x ⟨1, 0⟩) := by
      rw [e1]; refine ⟨h.1, ?_⟩
      dsimp only
      refine ⟨by omega, by omega, by omega, by omega, by omega, by omega, by omega, by omega⟩
    have m1 := made_yes (x := x) (s := ⟨1, 0⟩) (by simp [impl_isScanStep]) (by unfold impl_ScanJob_isReady; simp [q]) k1 0
    rw [m1]; rw [e1] at k1 ⊢
    rw [made_no (by unfold impl_ScanJob_isReady; simp)]
    have := end_run k1 rfl (k := k) (by dsimp only; exact hk) (0 + 1)
    rw [this.1, this.2, done_2 h (by omega) (by omega)]; exact ⟨by omega, rfl⟩
  · rw [made_no (x := x) (s := ⟨1, 0⟩) (by unfold impl_ScanJob_isReady; simp [q]), made_no (x := x) (s := ⟨5, 0⟩) (by unfold impl_ScanJob_isReady; simp [q])]
    have := end_run h q hk 0
    rw [this.1, this.2, done_1 h q]; exact ⟨by omega, rfl⟩
  · rw [made_no (x := x) (s := ⟨1, 0⟩) (by unfold impl_ScanJob_isReady; simp [q])]
    have e1 : impl_ScanJob_after x ⟨5, 0⟩ = ⟨1, x.Tiles, x.Next, 0, x.Size⟩ := by unfold impl_ScanJob_after goN; simp
    have k1 : JobOK (impl_ScanJob_after x ⟨5, 0⟩) := by
      rw [e1]; refine ⟨h.1, ?_⟩
      dsimp only
      refine ⟨by omega, by omega, by omega, by omega, by omega, by omega, by omega, by omega⟩
    have m1 := made_yes (x := x) (s := ⟨5, 0⟩) (by simp [impl_isScanStep]) (by unfold impl_ScanJob_isReady; simp [q]) k1 0
    rw [m1]; rw [e1] at k1 ⊢
    have := end_run k1 rfl (k := k) (by dsimp only; exact hk) (0 + 1)
    rw [this.1, this.2, done_2 h (by omega) (by omega)]; exact ⟨by omega, rfl⟩
  · obtain rfl : k = 0 := by omega
    rw [made_no (x := x) (s := ⟨1, 0⟩) (by unfold impl_ScanJob_isReady; simp [q]), made_no (x := x) (s := ⟨5, 0⟩) (by unfold impl_ScanJob_isReady; simp [q])]
    simp only [List.replicate_zero, List.nil_append, List.foldl_cons, List.foldl_nil]
    rw [made_no (by unfold impl_ScanJob_isReady; simp [q]), done_3 h q]
    exact ⟨rfl, q⟩
theorem dol_bad (hl : DoLaw x) (hc : JobOK x) (hk : (k : Int) = leftN x) (h : (!(runFJ x (stepsT k ++ ([⟨6, 0⟩] : List ScanStep))).2.2) = true ∨ ¬ (runFJ x (stepsT k ++ ([⟨6, 0⟩] : List ScanStep))).2.1 = doneN x ∨ ¬ (runFJ x (stepsT k ++ ([⟨6, 0⟩] : List ScanStep))).1.State = 3) : False := by
  obtain ⟨h1, h2, h3⟩ := hl k hc hk
  rcases h with h | h | h
  · rw [h1] at h; cases h
  · exact h h2
  · exact h h3
theorem wor_bad (hc : JobOK x ∧ ¬ x.Next = 0) (hj : j < x.Tiles.length) (h : ¬ gt x.Tiles j = 0 ∧ gt x.Tiles j < (worstN x).2) : False := by
  have := worst_least hc.1 hc.2 (gt_get hj) h.1; omega
/-- The text of a job. -/
def jT (x : ScanJob) : Nat → List UInt8
  | 0 => gt ([([105, 100, 108, 101] : List UInt8), ([114, 117, 110, 115] : List UInt8), ([104, 101, 108, 100] : List UInt8), ([100, 111, 110, 101] : List UInt8)] : List (List UInt8)) x.State.toNat
  | k + 1 => if gt x.Tiles k = 0 then jT x k ++ ([32, 45] : List UInt8) else jT x k ++ (([32] : List UInt8) ++ Lib.itoa (gt x.Tiles k))
noncomputable def jX (x : ScanJob) : List UInt8 := if JobOK x then jT x x.Tiles.length else []
theorem jX_no (h : ¬ JobOK x) : [] = jX x := (if_neg h).symm
theorem jX_yes (h : JobOK x) (hk : k = x.Tiles.length) : jT x k = jX x := by subst hk; exact (if_pos h).symm
theorem j_zero (h : ([([105, 100, 108, 101] : List UInt8), ([114, 117, 110, 115] : List UInt8), ([104, 101, 108, 100] : List UInt8), ([100, 111, 110, 101] : List UInt8)] : List (List UInt8))[x.State.toNat]? = some t) : t = jT x 0 := by
  unfold jT; rw [gt_eq h]
theorem j_none (h : x.Tiles[k]? = some v) (h0 : v = 0) : jT x k ++ ([32, 45] : List UInt8) = jT x (k + 1) := by
  conv => rhs; unfold jT
  rw [gt_eq h, if_pos h0]
theorem j_next (h : x.Tiles[k]? = some v) (h0 : ¬ v = 0) : jT x k ++ (([32] : List UInt8) ++ Lib.itoa v) = jT x (k + 1) := by
  conv => rhs; unfold jT
  rw [gt_eq h, if_neg h0]
theorem j_nextS (h : x.Tiles[k]? = some v) (h0 : ¬ v = 0) : jT x k ++ ([32] : List UInt8) ++ Lib.itoa v = jT x (k + 1) := by
  rw [← j_next h h0, List.append_assoc]
theorem tile_at (h : JobOK x) (hx : x.Tiles[k]? = some v) : 0 ≤ v ∧ v ≤ 100 := by have := tile_rng h k; rwa [gt_eq hx] at this
theorem j_len (h : JobOK x) : ∀ k, (jT x k).length ≤ 40 + 22 * k
  | 0 => by
    have hr := job_rng h
    have h3 : x.State = 0 ∨ x.State = 1 ∨ x.State = 2 ∨ x.State = 3 := by omega
    unfold jT
    rcases h3 with e | e | e | e <;> rw [e] <;> simp [gt]
  | k + 1 => by
    have h1 := j_len h k
    have h2 := tile_rng h k
    have h3 := itoa_len (n := gt x.Tiles k) (by omega) (by omega)
    unfold jT; split <;> simp only [List.length_append, List.length_cons, List.length_nil] <;> omega
end
end Go.Proofs.YtlpapeeaghmjpaaDoor
