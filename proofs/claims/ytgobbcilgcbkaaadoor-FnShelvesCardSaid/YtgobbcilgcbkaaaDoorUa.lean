/- Plain words on libraries. -/
import Derived.Test.YtgobbcilgcbkaaaDoorFn
import Derived.Test.YtgobbcilgcbkaaaDoorFt
namespace Go.Proofs.YtgobbcilgcbkaaaDoor
open Go Go.RowKit Fw
@[reducible] def encI (x : Int) : List Value := [.int .i64 x]
@[reducible] def encS (x : List UInt8) : List Value := [str x]
@[ext] structure LMap where
  Id : Int
  Copies : Int
  Torn : Int
  deriving DecidableEq, Inhabited
@[ext] structure Away where
  Map : Int
  Reader : Int
  deriving DecidableEq, Inhabited
@[ext] structure Library where
  Maps : List LMap
  Away : List Away
  Bought : Int
  Dropped : Int
  Mended : Int
  deriving DecidableEq, Inhabited
@[ext] structure LibraryStep where
  Kind : Int
  Id : Int
  Reader : Int
  Value : Int
  deriving DecidableEq, Inhabited
@[reducible] def encLMap (x : LMap) : List Value := [.int .i64 x.Id, .int .i64 x.Copies, .int .i64 x.Torn]
@[reducible] def encAway (x : Away) : List Value := [.int .i64 x.Map, .int .i64 x.Reader]
@[reducible] def encLibraryStep (x : LibraryStep) : List Value := [.int .i64 x.Kind, .int .i64 x.Id, .int .i64 x.Reader, .int .i64 x.Value]
@[reducible] def mkInt (k : Int) : Int := k
@[reducible] def mkLMap (k : Int) : LMap := ⟨k, k + 1, k + 2⟩
@[reducible] def mkAway (k : Int) : Away := ⟨k, k + 1⟩
@[reducible] def mkLibraryStep (k : Int) : LibraryStep := ⟨k, k + 1, k + 2, k + 3⟩
theorem gt_get {α : Type} [Inhabited α] {a : List α} {i : Nat} (h : i < a.length) : a[i]? = some (gt a i) := by simp [gt, List.getD, List.getElem?_eq_getElem h]
theorem bnot_f {b : Bool} (h : (!b) = false) : b = true := by simpa using h
theorem bnot_t {b : Bool} (h : (!b) = true) : b = false := by simpa using h
theorem bnot_n {b : Bool} (h : ¬ ((!b) = true)) : b = true := by simpa using h
theorem tk_le {α : Type} (L : List α) (k : Nat) : (L.take k).length ≤ L.length := by simp; omega
theorem take_gt {α : Type} [Inhabited α] {L : List α} {k : Nat} (h : k < L.length) : L.take (k + 1) = L.take k ++ [gt L k] := by
  rw [List.take_add_one, gt_get h]; rfl
/-! Comparing and searching. -/
def cmpI (a b : Int) : Int := if a < b then -1 else if b < a then 1 else 0
def orI : List Int → Int
  | [] => 0
  | x :: r => if x = 0 then orI r else x
theorem orI_at : ∀ {L : List Int} {k : Nat}, (∀ j, j < k → gt L j = 0) → k < L.length → gt L k ≠ 0 → orI L = gt L k
  | [], _, _, h, _ => by simp at h
  | x :: r, 0, _, _, h => by
    have : x ≠ 0 := by simpa [gt] using h
    simp [orI, this, gt]
  | x :: r, k + 1, h, hk, hx => by
    have h0 : x = 0 := by simpa [gt] using h 0 (by omega)
    have e : ∀ j, gt (x :: r) (j + 1) = gt r j := fun j => by simp [gt]
    rw [e] at hx ⊢
    simp only [orI, h0, if_true]
    exact orI_at (fun j hj => by have := h (j + 1) (by omega); rwa [e] at this) (by simpa using hk) hx
theorem orI_none : ∀ {L : List Int}, (∀ j, j < L.length → gt L j = 0) → orI L = 0
  | [], _ => rfl
  | x :: r, h => by
    have h0 : x = 0 := by simpa [gt] using h 0 (by simp)
    simp only [orI, h0, if_true]
    exact orI_none fun j hj => by have := h (j + 1) (by simpa using hj); simpa [gt] using this
section
variable {α β : Type} [Inhabited α]
def bsP (c : α → β → Int) (t : β) (L : List α) : Nat := bsr (fun x => decide (c x t < 0)) L 0 L.length
def bsF (c : α → β → Int) (t : β) (L : List α) : Prop := (bsP c t L : Int) < (L.length : Int) ∧ c (gt L (bsP c t L)) t = 0
instance (c : α → β → Int) (t : β) (L : List α) : Decidable (bsF c t L) := by unfold bsF; infer_instance
theorem bsP_le {c : α → β → Int} {t : β} {L : List α} : bsP c t L ≤ L.length := bsr_le L.length 0 L.length (by omega) (by omega)
end
def cmpM (m : LMap) (i : Int) : Int := cmpI m.Id i
def cmpA (p q : Away) : Int := orI [cmpI p.Map q.Map, cmpI p.Reader q.Reader]
def lexlt (p q : Away) : Prop := p.Map < q.Map ∨ (p.Map = q.Map ∧ p.Reader < q.Reader)
theorem cmpI_ge {a b : Int} : 0 ≤ cmpI a b ↔ ¬ a < b := by unfold cmpI; split <;> (try split) <;> omega
theorem cmpI_eq {a b : Int} : cmpI a b = 0 ↔ a = b := by unfold cmpI; split <;> (try split) <;> omega
theorem cmpI_lt {a b : Int} : cmpI a b < 0 ↔ a < b := by unfold cmpI; split <;> (try split) <;> omega
theorem cmpA_lt {p q : Away} : cmpA p q < 0 ↔ lexlt p q := by
  unfold cmpA lexlt orI orI orI
  have h1 := cmpI_eq (a := p.Map) (b := q.Map); have h2 := cmpI_lt (a := p.Map) (b := q.Map); have h3 := cmpI_lt (a := p.Reader) (b := q.Reader); have h4 := cmpI_eq (a := p.Reader) (b := q.Reader)
  split
  · split
    · omega
    · omega
  · omega
theorem cmpA_eq {p q : Away} : cmpA p q = 0 ↔ p = q := by
  unfold cmpA orI orI orI
  have h1 := cmpI_eq (a := p.Map) (b := q.Map); have h4 := cmpI_eq (a := p.Reader) (b := q.Reader)
  rw [Away.ext_iff]
  split
  · split
    · simp [h1.1 ‹_›, h4.1 ‹_›]
    · constructor
      · intro h; exact absurd h ‹_›
      · rintro ⟨_, h⟩; exact absurd (h4.2 h) ‹_›
  · constructor
    · intro h; exact absurd h ‹_›
    · rintro ⟨h, _⟩; exact absurd (h1.2 h) ‹_›
/-! What is valid. -/
def MBad (L : List LMap) (k : Nat) : Prop := (¬ (1 ≤ (gt L k).Id ∧ (gt L k).Id ≤ 99)) ∨ ((¬ (0 ≤ (gt L k).Copies ∧ (gt L k).Copies ≤ 99)) ∨ ((¬ (0 ≤ (gt L k).Torn ∧ (gt L k).Torn ≤ (gt L k).Copies)) ∨ ((0 < (k : Int)) ∧ ((gt L k).Id ≤ (gt L (k - 1)).Id))))
def MTo (L : List LMap) (k : Nat) : Prop := ∀ j, j < k → ¬ MBad L j
def MapsOK (L : List LMap) : Prop := ∀ j, j < L.length → ¬ MBad L j
def ABad (M : List LMap) (A : List Away) (k : Nat) : Prop := ¬ ((∃ m ∈ M, m.Id = (gt A k).Map) ∧ (1 ≤ (gt A k).Reader ∧ (gt A k).Reader ≤ 999) ∧ (0 < (k : Int) → lexlt (gt A (k - 1)) (gt A k)))
def ATo (M : List LMap) (A : List Away) (k : Nat) : Prop := ∀ j, j < k → ¬ ABad M A j
def AwayOK (M : List LMap) (A : List Away) : Prop := ∀ j, j < A.length → ¬ ABad M A j
def sumC (L : List LMap) : Int := (L.map LMap.Copies).sum
def sumT (L : List LMap) : Int := (L.map LMap.Torn).sum
def LibOK (x : Library) : Prop := (MapsOK x.Maps ∧ x.Maps.length ≤ 8) ∧ (AwayOK x.Maps x.Away ∧ x.Away.length ≤ 8) ∧ (0 ≤ x.Bought ∧ x.Bought ≤ 9999) ∧ (0 ≤ x.Dropped ∧ x.Dropped ≤ 9999) ∧ (0 ≤ x.Mended ∧ x.Mended ≤ 9999) ∧ x.Bought = sumC x.Maps + (x.Away.length : Int) + x.Dropped
noncomputable instance (L : List LMap) : Decidable (MapsOK L) := Classical.propDecidable _
noncomputable instance (M : List LMap) (A : List Away) : Decidable (AwayOK M A) := Classical.propDecidable _
noncomputable instance (x : Library) : Decidable (LibOK x) := Classical.propDecidable _
section
variable {L M : List LMap} {A : List Away} {k i : Nat} {x : Library} {id r : Int}
theorem MTo.zero : MTo L 0 := fun _ h => absurd h (by omega)
theorem MTo.next (h : MTo L k) (hb : ¬ MBad L k) : MTo L (k + 1) := fun j hj => by
  rcases Nat.lt_or_ge j k with h1 | h1
  · exact h j h1
  · obtain rfl : j = k := by omega
    exact hb
theorem MTo.end_ (h : MTo L k) (hk : L.length ≤ k) : MapsOK L := fun j hj => h j (by omega)
theorem ATo.zero : ATo M A 0 := fun _ h => absurd h (by omega)
theorem ATo.next (h : ATo M A k) (hb : ¬ ABad M A k) : ATo M A (k + 1) := fun j hj => by
  rcases Nat.lt_or_ge j k with h1 | h1
  · exact h j h1
  · obtain rfl : j = k := by omega
    exact hb
theorem ATo.end_ (h : ATo M A k) (hk : A.length ≤ k) : AwayOK M A := fun j hj => h j (by omega)
theorem maps_at (h : MapsOK L) (hk : k < L.length) : (1 ≤ (gt L k).Id ∧ (gt L k).Id ≤ 99) ∧ (0 ≤ (gt L k).Copies ∧ (gt L k).Copies ≤ 99) ∧ (0 ≤ (gt L k).Torn ∧ (gt L k).Torn ≤ (gt L k).Copies) ∧ (0 < (k : Int) → (gt L (k - 1)).Id < (gt L k).Id) := by
  have := h k hk
  unfold MBad at this
  omega
theorem maps_lt (h : MapsOK L) : ∀ {i j : Nat}, i < j → j < L.length → (gt L i).Id < (gt L j).Id
  | i, 0, hij, _ => by omega
  | i, j + 1, hij, hj => by
    have h1 := (maps_at h hj).2.2.2 (by omega)
    simp only [Nat.add_sub_cancel] at h1
    rcases Nat.lt_or_ge i j with h2 | h2
    · have := maps_lt h h2 (by omega); omega
    · obtain rfl : i = j := by omega
      exact h1
theorem maps_rng (h : MapsOK L) (hx : L[k]? = some (gt L k)) : ((1 : Int) ≤ (gt L k).Id ∧ (gt L k).Id ≤ 99) ∧ ((0 : Int) ≤ (gt L k).Copies ∧ (gt L k).Copies ≤ 99) ∧ ((0 : Int) ≤ (gt L k).Torn ∧ (gt L k).Torn ≤ (gt L k).Copies) := by
  have := maps_at h (List.getElem?_eq_some_iff.1 hx).1
  exact ⟨this.1, this.2.1, this.2.2.1⟩
def hasId (id : Int) (m : LMap) : Bool := decide (m.Id = id)
theorem ex_idx : (∃ m ∈ M, m.Id = id) ↔ 0 ≤ idxF (hasId id) M := by
  rw [any_idx]; simp [List.any_eq_true, hasId]
theorem bs_found (h : MapsOK M) : bsF cmpM id M ↔ ∃ m ∈ M, m.Id = id := by
  have hp := bsr_spec (p := fun m => decide (cmpM m id < 0)) (L := M) (fun a b hab hb hpb => by
    simp only [cmpM, decide_eq_true_eq, cmpI_lt] at hpb ⊢
    rcases Nat.lt_or_ge a b with h1 | h1
    · have := maps_lt h h1 hb; omega
    · obtain rfl : a = b := by omega
      exact hpb) M.length 0 M.length (by omega) (by omega) (by omega) (fun a ha => absurd ha (by omega)) (fun a h1 h2 => absurd h2 (by omega))
  constructor
  · rintro ⟨h1, h2⟩
    have hlt : bsP cmpM id M < M.length := by omega
    exact ⟨_, List.mem_iff_getElem?.2 ⟨_, gt_get hlt⟩, cmpI_eq.1 h2⟩
  · rintro ⟨m, hm, hid⟩
    obtain ⟨i, hi⟩ := List.mem_iff_getElem?.1 hm
    have hil := (List.getElem?_eq_some_iff.1 hi).1
    have hg : gt M i = m := gt_eq hi
    have hge : bsP cmpM id M ≤ i := by
      rcases Nat.lt_or_ge i (bsP cmpM id M) with h1 | h1
      · have := hp.2.1 i h1
        simp only [cmpM, decide_eq_true_eq, cmpI_lt, hg] at this; omega
      · exact h1
    have hlt : bsP cmpM id M < M.length := by omega
    have h2 := hp.2.2 (bsP cmpM id M) (Nat.le_refl _) hlt
    simp only [cmpM, decide_eq_false_iff_not, cmpI_lt] at h2
    refine ⟨by omega, ?_⟩
    refine cmpI_eq.2 ?_
    rcases Nat.lt_or_ge (bsP cmpM id M) i with h1 | h1
    · have := maps_lt h h1 hil; rw [hg] at this; omega
    · have e : bsP cmpM id M = i := by omega
      rw [e, hg]; exact hid
theorem sumC_snoc (h : k < L.length) : sumC (L.take (k + 1)) = sumC (L.take k) + (gt L k).Copies := by
  rw [take_gt h]; simp [sumC]
theorem sumT_snoc (h : k < L.length) : sumT (L.take (k + 1)) = sumT (L.take k) + (gt L k).Torn := by
  rw [take_gt h]; simp [sumT]
end
/-- What is chosen out of a list. -/
def selL {α : Type} (p : α → Bool) (f : α → Int) (L : List α) : List Int := (L.filter p).map f
section
variable {α : Type} [Inhabited α] {p : α → Bool} {f : α → Int} {L : List α} {k : Nat}
theorem sel_yes (h : k < L.length) (hp : p (gt L k) = true) : selL p f (L.take k) ++ [f (gt L k)] = selL p f (L.take (k + 1)) := by
  rw [take_gt h]; simp [selL, hp]
theorem sel_no (h : k < L.length) (hp : p (gt L k) = false) : selL p f (L.take k) = selL p f (L.take (k + 1)) := by
  rw [take_gt h]; simp [selL, hp]
end
section
variable {α : Type} {p : α → Bool} {f : α → Int} {L : List α} {k : Nat}
theorem sel_end (h : L.length ≤ k) : selL p f (L.take k) = selL p f L := by rw [List.take_of_length_le h]
theorem sel_len (L : List α) (p : α → Bool) (f : α → Int) : (selL p f L).length ≤ L.length := by simp [selL]; exact List.length_filter_le _ _
theorem sel_lenT (L : List α) (k : Nat) (p : α → Bool) (f : α → Int) : (selL p f (L.take k)).length ≤ L.length := by
  have h1 := sel_len (L.take k) p f; have h2 := tk_le L k; omega
end
def atR (r : Int) (a : Away) : Bool := decide (a.Reader = r)
def ofM (id : Int) (a : Away) : Bool := decide (a.Map = id)
def mayM (m : LMap) : Bool := decide (m.Torn < m.Copies)
def thereS (b : Bool) (L : List LMap) : Int := if b = true then sumT L else sumC L
section
variable {L M : List LMap} {A : List Away} {k : Nat} {x : Library} {id t : Int} {b : Bool}
theorem thereS_t (hb : b = true) (h : k < L.length) (e : thereS b (L.take k) = t) : thereS b (L.take (k + 1)) = t + (gt L k).Torn := by
  subst hb; simp only [thereS, if_true] at *; rw [sumT_snoc h, e]
theorem thereS_f (hb : b = false) (h : k < L.length) (e : thereS b (L.take k) = t) : thereS b (L.take (k + 1)) = t + (gt L k).Copies := by
  subst hb; simp only [thereS, Bool.false_eq_true, if_false] at *; rw [sumC_snoc h, e]
theorem sums_rng (h : MapsOK L) : ∀ k, k ≤ L.length → (0 ≤ sumC (L.take k) ∧ sumC (L.take k) ≤ 99 * (k : Int)) ∧ (0 ≤ sumT (L.take k) ∧ sumT (L.take k) ≤ 99 * (k : Int)) ∧ sumT (L.take k) ≤ sumC (L.take k)
  | 0, _ => by simp [sumC, sumT]
  | k + 1, hk => by
    have h1 := sums_rng h k (by omega)
    have h2 := maps_at h (show k < L.length by omega)
    rw [sumC_snoc (by omega), sumT_snoc (by omega)]
    omega
theorem sumC_rng (h : MapsOK L) (hl : L.length ≤ 8) : 0 ≤ sumC L ∧ sumC L ≤ 792 := by
  have := sums_rng h L.length (Nat.le_refl _); rw [List.take_length] at this; omega
theorem sumT_rng (h : MapsOK L) (hl : L.length ≤ 8) : 0 ≤ sumT L ∧ sumT L ≤ 792 := by
  have := sums_rng h L.length (Nat.le_refl _); rw [List.take_length] at this; omega
theorem there_rng (b : Bool) (h : MapsOK L) (hl : L.length ≤ 8) : 0 ≤ (if b = true then sumT L else sumC L) ∧ (if b = true then sumT L else sumC L) ≤ 792 := by
  split
  · exact sumT_rng h hl
  · exact sumC_rng h hl
theorem a_bad1 (h : (idxF (hasId (gt A k).Map) M < 0) ∨ (¬ (1 ≤ (gt A k).Reader ∧ (gt A k).Reader ≤ 999))) : ABad M A k := fun hh => by
  have := ex_idx.1 hh.1
  rcases h with h | h
  · omega
  · exact h hh.2.1
theorem a_bad2 (h : (0 < (k : Int)) ∧ (((gt A k).Map < (gt A (k - 1)).Map) ∨ (((gt A (k - 1)).Map = (gt A k).Map) ∧ ((gt A k).Reader ≤ (gt A (k - 1)).Reader)))) : ABad M A k := fun hh => by
  have := hh.2.2 h.1
  unfold lexlt at this; omega
theorem a_good (h1 : ¬ ((idxF (hasId (gt A k).Map) M < 0) ∨ (¬ (1 ≤ (gt A k).Reader ∧ (gt A k).Reader ≤ 999)))) (h2 : ¬ ((0 < (k : Int)) ∧ (((gt A k).Map < (gt A (k - 1)).Map) ∨ (((gt A (k - 1)).Map = (gt A k).Map) ∧ ((gt A k).Reader ≤ (gt A (k - 1)).Reader))))) : ¬ ABad M A k := fun hb => hb
  ⟨ex_idx.2 (by omega), Classical.not_not.1 fun q => h1 (.inr q), fun h0 => by unfold lexlt; omega⟩
theorem bs_idx (h : MapsOK M) : bsF cmpM id M ↔ 0 ≤ idxF (hasId id) M := (bs_found h).trans ex_idx
theorem a_badI (hm : MapsOK M) (h : (¬ (bsF cmpM (gt A k).Map M)) ∨ ((¬ (1 ≤ (gt A k).Reader ∧ (gt A k).Reader ≤ 999)) ∨ ((0 < (k : Int)) ∧ (0 ≤ (cmpA (gt A (k - 1)) (gt A k)))))) : ABad M A k := fun hh => by
  rcases h with h | h | h
  · exact h ((bs_found hm).2 hh.1)
  · exact h hh.2.1
  · have := cmpA_lt.2 (hh.2.2 h.1); omega
theorem a_goodI (hm : MapsOK M) (h : ¬ ((¬ (bsF cmpM (gt A k).Map M)) ∨ ((¬ (1 ≤ (gt A k).Reader ∧ (gt A k).Reader ≤ 999)) ∨ ((0 < (k : Int)) ∧ (0 ≤ (cmpA (gt A (k - 1)) (gt A k))))))) : ¬ ABad M A k := fun hb => hb
  ⟨(bs_found hm).1 (Classical.not_not.1 fun q => h (.inl q)), Classical.not_not.1 fun q => h (.inr (.inl q)), fun h0 => cmpA_lt.1 (by have := fun q => h (.inr (.inr ⟨h0, q⟩)); omega)⟩
theorem lib_len (h : LibOK x) : x.Away.length ≤ 8 := h.2.1.2
theorem ro_yes (h : bsF cmpM id x.Maps) (hx : LibOK x) : LibOK x ∧ 0 ≤ idxF (hasId id) x.Maps := ⟨hx, (bs_idx hx.1.1).1 h⟩
theorem ro_no (h : (¬ (bsF cmpM id x.Maps)) ∨ (¬ (LibOK x))) : ¬ (LibOK x ∧ 0 ≤ idxF (hasId id) x.Maps) := fun hh => h.elim (fun q => q ((bs_idx hh.1.1.1).2 hh.2)) (fun q => q hh.1)
theorem ro_noS (h : (¬ (LibOK x)) ∨ (idxF (hasId id) x.Maps < 0)) : ¬ (LibOK x ∧ 0 ≤ idxF (hasId id) x.Maps) := fun hh => h.elim (fun q => q hh.1) (fun q => by have := hh.2; omega)
theorem selif_len {α : Type} (c : Prop) [Decidable c] (p : α → Bool) (f : α → Int) (L : List α) : (if c then selL p f L else []).length ≤ L.length := by
  split
  · exact sel_len L p f
  · simp
end
end Go.Proofs.YtgobbcilgcbkaaaDoor
