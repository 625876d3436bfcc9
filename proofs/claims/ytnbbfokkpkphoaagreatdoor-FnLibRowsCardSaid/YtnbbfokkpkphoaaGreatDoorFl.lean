/- From a contract to the row: opening the arguments, closing the row. -/
import Derived.Test.YtnbbfokkpkphoaaGreatDoorFe
import Derived.OpenShut
import Derived.ProofKit
import Derived.Deep.Slices
import Derived.Carry
namespace Go.Proofs.YtnbbfokkpkphoaaGreatDoor.Fw
open Go Go.RowKit Go.WideShapes Go.ChangeShapes Go.Deep

section
variable {H : Type} {enc : TypeId × Value → H} {P : Program}
theorem post_of_below {f : Func} {s : ChangeSpec} {apart fresh handsOn again : Bool} {W W' : World} {args : Array Value} {v : Value} {ds gs : List (DataW H)} {before pa pv : List MemPlace}
    (hW : DataW.Whole enc P f.params.toList s.vars apart W args.toList ds gs before)
    (hres : ∀ (b : Nat) (sp : Nat → Bool) (hd : Bool), DataW.TrodAll enc P W' b sp hd f.resultTypes.toList (v.resultList f.resultTypes.size) (s.fn H (ds ++ gs)).results [])
    (hargs : ∀ sp : Nat → Bool, (∀ p ∈ before, sp p.block = true) → DataW.TrodAll enc P W' 0 sp true f.params.toList args.toList (s.fn H (ds ++ gs)).args pa)
    (hvars : ∀ sp : Nat → Bool, (∀ p ∈ before, sp p.block = true) → DataW.TrodVars enc P W' sp s.vars (s.fn H (ds ++ gs)).vars pv)
    (hps : before = pa ++ pv) (hb : Below W.heap.size W W')
    (hok : ∀ (j : Nat) (t : TypeId) (r : Value), f.resultTypes[j]? = some t → (v.resultList f.resultTypes.size)[j]? = some r → Value.okWide P W' .any 0 t r) :
    s.post enc P f apart fresh handsOn again W args v W' := by
  have hlt : ∀ p ∈ before, p.block < W.heap.size := fun p hp => hW.lt p hp
  have hold : ∀ p ∈ before, (fun b => decide (b < W.heap.size)) p.block = true := fun p hp => by simpa using hlt p hp
  refine ⟨ds, gs, before, [], pa, pv, hW, hres _ _ _, hargs _ hold, hvars _ hold, World.keptBut_mono (fun p hp => ⟨hp, ?_⟩) (hb.frame (· ∈ before)), fun _ => ?_⟩
  · rw [hps, List.mem_append] at hp
    exact Or.inr hp
  · obtain ⟨_, _, _, _, _, hz, hn⟩ := hW
    refine ⟨hok, _, _, ([] ++ pa) ++ pv, ⟨[] ++ pa, pv, trodAll_append (hargs _ (fun _ _ => rfl)) (hres _ _ _), hvars _ (fun _ _ => rfl), rfl, ?_, ?_⟩, ?_⟩
    · intro b off hp
      have hin : MemPlace.cell b off ∈ before := by rw [hps]; simpa using hp
      rw [hb.frozen (hlt _ hin)]
      exact hz b off hin
    · intro ha
      have := hn ha
      rw [hps] at this
      simpa using this
    · intro p hp _
      rw [hps]
      simpa using hp

theorem trodAll_stays (hl : laidOutB P = true) {W W' : World} {sp : Nat → Bool} (hk : Lo W W') : ∀ {ts : List TypeId} {vs : List Value} {ds : List (DataW H)} {ps : List MemPlace},
    (ts.all fun t => P.readableRec t && decide (t < P.types.size)) = true → DataW.TrodAll enc P W 0 (fun _ => true) true ts vs ds ps → (∀ p ∈ ps, p.block < W.heap.size) → (∀ p ∈ ps, sp p.block = true) →
    DataW.TrodAll enc P W' 0 sp true ts vs ds ps
  | [], _, _, _, _, h, _, _ => by
    obtain ⟨rfl, rfl, rfl⟩ := trodAll_nil h
    exact trodAll_mk0
  | t :: ts, _, _, _, hr, h, hlt, hs => by
    obtain ⟨v, vs', d, ds', p, q, rfl, rfl, rfl, h0, h1⟩ := trodAll_cons h
    simp only [List.all_cons, Bool.and_eq_true, decide_eq_true_eq] at hr
    refine trodAll_cons_mk (WideElems.Trod_stays hl hr.1.1 hr.1.2 h0 (fun x hx => (Kp.below hk).same (hlt x (by simp [hx]))) (fun x hx => hs x (by simp [hx]))) ?_
    exact trodAll_stays hl hk hr.2 h1 (fun x hx => hlt x (by simp [hx])) (fun x hx => hs x (by simp [hx]))

/-- A law's row: it answered true and left what there was as it was. -/
theorem law_post {fn : Func} {s : ChangeSpec} {W W' : World} {args : Array Value} {ds gs : List (DataW H)} {before : List MemPlace} {tb : TypeId} {fresh handsOn again : Bool}
    (hl : laidOutB P = true) (hro : (fn.params.toList.all fun t => P.readableRec t && decide (t < P.types.size)) = true) (hrt : fn.resultTypes = #[tb]) (htb : P.underlying tb = some .bool) (hvars : s.vars = [])
    (hsp : (s.fn H (ds ++ gs)).results = [.lit (.bool true)] ∧ (s.fn H (ds ++ gs)).args = ds ∧ (s.fn H (ds ++ gs)).vars = [])
    (hW : DataW.Whole enc P fn.params.toList s.vars false W args.toList ds gs before) (hk : Lo W W') : s.post enc P fn false fresh handsOn again W args (.bool true) W' := by
  have hlt : ∀ p ∈ before, p.block < W.heap.size := fun p hp => hW.lt p hp
  have hW' := hW
  obtain ⟨p, q, hA, hV, rfl, _, _⟩ := hW'
  rw [hvars] at hV
  obtain ⟨rfl, rfl⟩ := trodVars_none hV
  refine post_of_below (pa := p) (pv := []) hW (fun b sp hd => ?_) (fun sp hs => ?_) (fun sp _ => ?_) (by simp) (Kp.below hk) ?_
  · rw [hrt, hsp.1]
    exact trodAll_cons_mk (shut_bool htb _) trodAll_mk0
  · rw [hsp.2.1]
    exact trodAll_stays hl hk hro hA (fun x hx => hlt x (by simp [hx])) (fun x hx => hs x (by simp [hx]))
  · rw [hsp.2.2, hvars]; rfl
  · rw [hrt]
    intro j t r ht hr
    cases j with
    | zero =>
      simp at ht; subst ht
      have hr' : r = .bool true := by simpa [Value.resultList] using hr.symm
      subst hr'
      exact okWide_bool_mk htb _
    | succ j => simp at ht
end

/-- Cells of type 't' that can be read spell a value of 'α'. -/
def Opens {α : Type} (P : Program) (t : TypeId) (en : α → List Value) (ok : α → Prop) : Prop :=
  ∀ (H : Type) (enc : TypeId × Value → H) (w : World) (base : Nat) (spare : Nat → Bool) (held : Bool) (fuel : Nat) (cs : List Value) (x : DataW H × List MemPlace), DataW.trod enc P w base spare held fuel t cs = some x → ∃ a, cs = en a ∧ ok a
def in64 (n : Int) : Prop := -9223372036854775808 ≤ n ∧ n ≤ 9223372036854775807
section
variable {P : Program}
theorem opens_int {t : TypeId} (ht : P.underlying t = some (.int .i64)) : Opens P t (fun n : Int => [.int .i64 n]) in64 := by
  intro H enc w base spare held fuel cs x h
  obtain ⟨n, rfl, _, hw⟩ := DataW.trod_int ht h
  exact ⟨n, rfl, by simpa [Lit.wf, IntKind.min, IntKind.max, IntKind.signed, IntKind.bits, in64] using hw⟩
theorem opens_bool {t : TypeId} (ht : P.underlying t = some .bool) : Opens P t (fun b : Bool => [.bool b]) (fun _ => True) := by
  intro H enc w base spare held fuel cs x h
  obtain ⟨b, rfl, _⟩ := DataW.trod_bool ht h
  exact ⟨b, rfl, trivial⟩
theorem opens_str {t : TypeId} (ht : P.underlying t = some .string) : Opens P t (fun s : List UInt8 => [str s]) (fun s => s.length ≤ maxLen) := by
  intro H enc w base spare held fuel cs x h
  obtain ⟨s, rfl, _, hs⟩ := DataW.trod_string ht h
  exact ⟨s.data.toList, rfl, by simpa using hs⟩
/-- One field of a struct. -/
theorem field_at {H : Type} {enc : TypeId × Value → H} {w : World} {base : Nat} {spare : Nat → Bool} {held : Bool} {n : Nat} {fs : Array Field} {cs : List Value} {xs : List (DataW H × List MemPlace)} {α : Type} {en : α → List Value} {ok : α → Prop}
    (hg : ∀ (i : Nat) (f : Field), fs[i]? = some f → DataW.trod enc P w base spare held n f.type ((cs.drop f.offset).take (P.cellsOf f.type)) = xs[i]?) (hlen : xs.length = fs.size)
    (i : Nat) (f : Field) (hf : fs[i]? = some f) {t o s : Nat} (ht : f.type = t) (ho : f.offset = o) (hs : P.cellsOf t = s) (hO : Opens P t en ok) : ∃ a, (cs.drop o).take s = en a ∧ ok a := by
  subst ht ho hs
  have hi : i < xs.length := by rw [hlen]; exact (Array.getElem?_eq_some_iff.1 hf).1
  have := hg i f hf
  rw [List.getElem?_eq_getElem hi] at this
  exact hO _ _ _ _ _ _ _ _ _ this
/-- An argument that is a slice. -/
theorem opens_slice {H : Type} {enc : TypeId × Value → H} {w : World} {base : Nat} {spare : Nat → Bool} {held : Bool} {fuel : Nat} {cs : List Value} {x : DataW H × List MemPlace} {α : Type} {en : α → List Value} {ok : α → Prop} {t e sz : Nat}
    (ht : P.underlying t = some (.slice e)) (he : Opens P e en ok) (hsz : P.cellsOf e = sz) (hpos : 0 < sz) (hen : ∀ a, (en a).length = sz) (h : DataW.trod enc P w base spare held fuel t cs = some x) :
    ∃ A n c L, cs = [.slice A n c] ∧ SlR w w.heap.size en sz A n c L ∧ ∀ a ∈ L, ok a := by
  rcases open_slice ht h with ⟨rfl, _⟩ | ⟨a, len, cap, m, n, D, Pl, rfl, _, hl, hm, hmm, _, hi⟩
  · exact ⟨none, 0, 0, [], rfl, SlR.nil w hen, by simp⟩
  · have hlm : len ≤ m := by rw [hmm]; split <;> omega
    have key : ∀ i, i < len → ∃ y, ok y ∧ (w.cells? base (a.add (i * sz)) sz = some (en y)) := by
      intro i hlt
      obtain ⟨cs', hc, ht'⟩ := hi i (by omega)
      obtain ⟨y, rfl, hok⟩ := he _ _ _ _ _ _ _ _ _ ht'
      rw [hsz] at hc
      exact ⟨y, hok, hc⟩
    have hL : ∀ k, k ≤ len → ∃ L : List α, L.length = k ∧ (∀ a ∈ L, ok a) ∧ ∀ i y, L[i]? = some y → w.cells? base (a.add (i * sz)) sz = some (en y) := by
      intro k
      induction k with
      | zero => intro _; exact ⟨[], rfl, by simp, by simp⟩
      | succ k ih =>
        intro hk
        obtain ⟨L, h1, h2, h3⟩ := ih (by omega)
        obtain ⟨y, hok, hc⟩ := key k (by omega)
        refine ⟨L ++ [y], by simp [h1], ?_, ?_⟩
        · intro b hb
          rcases List.mem_append.1 hb with hb | hb
          · exact h2 b hb
          · simp at hb; subst hb; exact hok
        · intro i z hz
          rcases Nat.lt_or_ge i L.length with hlt | hge
          · rw [List.getElem?_append_left hlt] at hz; exact h3 i z hz
          · rw [List.getElem?_append_right hge] at hz
            have hi0 : i - L.length = 0 := by
              have := (List.getElem?_eq_some_iff.1 hz).1; simp at this; omega
            rw [hi0] at hz; simp at hz; subst hz
            rw [show i = k by omega]; exact hc
    obtain ⟨L, h1, h2, h3⟩ := hL len (Nat.le_refl _)
    have cell : ∀ i y, L[i]? = some y → ∀ j u, (en y)[j]? = some u → w.cell? (a.add (i * sz + j)) = some u := by
      intro i y hy j u hu
      obtain ⟨_, _, hat⟩ := World.cells?_some (h3 i y hy)
      have hj := (List.getElem?_eq_some_iff.1 hu).1
      rw [← hu, ← hat j (by rw [hen] at hj; exact hj)]
      rw [Fw.add_add]
    refine ⟨some a, len, cap, L, rfl, ⟨h1.symm, hl, hm, Nat.le_refl _, hen, fun _ => rfl, fun hn => ?_, fun i y hy j u hu => cell i y hy j u hu⟩, h2⟩
    obtain ⟨y, hy⟩ : ∃ y, L[0]? = some y := ⟨L[0]'(by omega), List.getElem?_eq_getElem _⟩
    have h0 : 0 < (en y).length := by rw [hen]; exact hpos
    have := cell 0 y hy 0 _ (List.getElem?_eq_getElem h0)
    have hb := Go.block_lt_of_cell this
    rwa [Fw.add_block] at hb
/-- One field of a struct, itself a struct. -/
theorem field_tr {H : Type} {enc : TypeId × Value → H} {w : World} {base : Nat} {spare : Nat → Bool} {held : Bool} {n : Nat} {fs : Array Field} {cs : List Value} {xs : List (DataW H × List MemPlace)}
    (hg : ∀ (i : Nat) (f : Field), fs[i]? = some f → DataW.trod enc P w base spare held n f.type ((cs.drop f.offset).take (P.cellsOf f.type)) = xs[i]?) (hlen : xs.length = fs.size)
    (i : Nat) (f : Field) (hf : fs[i]? = some f) {t o s : Nat} (ht : f.type = t) (ho : f.offset = o) (hs : P.cellsOf t = s) : ∃ x, DataW.trod enc P w base spare held n t ((cs.drop o).take s) = some x := by
  subst ht ho hs
  have hi : i < xs.length := by rw [hlen]; exact (Array.getElem?_eq_some_iff.1 hf).1
  have := hg i f hf
  rw [List.getElem?_eq_getElem hi] at this
  exact ⟨_, this⟩
/-- One field of a struct, a slice. -/
theorem field_sl {H : Type} {enc : TypeId × Value → H} {w : World} {base : Nat} {spare : Nat → Bool} {held : Bool} {n : Nat} {fs : Array Field} {cs : List Value} {xs : List (DataW H × List MemPlace)} {α : Type} {en : α → List Value} {ok : α → Prop}
    (hg : ∀ (i : Nat) (f : Field), fs[i]? = some f → DataW.trod enc P w base spare held n f.type ((cs.drop f.offset).take (P.cellsOf f.type)) = xs[i]?) (hlen : xs.length = fs.size)
    (i : Nat) (f : Field) (hf : fs[i]? = some f) {t o s e sz : Nat} (ht : f.type = t) (ho : f.offset = o) (hs : P.cellsOf t = s) (htS : P.underlying t = some (.slice e)) (he : Opens P e en ok) (hsz : P.cellsOf e = sz) (hpos : 0 < sz) (hen : ∀ a, (en a).length = sz) :
    ∃ A n c L, (cs.drop o).take s = [.slice A n c] ∧ SlR w w.heap.size en sz A n c L ∧ ∀ a ∈ L, ok a := by
  obtain ⟨x, hx⟩ := field_tr hg hlen i f hf ht ho hs
  exact opens_slice htS he hsz hpos hen hx
end
end Go.Proofs.YtnbbfokkpkphoaaGreatDoor.Fw
