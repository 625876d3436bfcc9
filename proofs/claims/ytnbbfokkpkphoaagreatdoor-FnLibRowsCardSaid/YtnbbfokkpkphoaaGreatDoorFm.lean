/- Slices of the call's own: make, literals, append, stores; cuts. -/
import Derived.Test.YtnbbfokkpkphoaaGreatDoorFe
import Derived.Maps.AppendAt
import Derived.Great.BuildSlice
import Derived.Laws.OwnMore
namespace Go.Proofs.YtnbbfokkpkphoaaGreatDoor.Fw
open Go Go.RowKit

/-- Slice type 't', its element type, the element's zero, its cells and bytes. -/
def TEl (P : Program) (t e : TypeId) (z : Value) (sz by_ : Nat) : Prop :=
  P.underlying t = some (.slice e) ∧ (P.info? e).map (fun i => (i.zero, i.size, i.bytes)) = some (some z, sz, by_) ∧ z.cells.size = sz ∧ 0 < sz
theorem TEl.parts {P : Program} {t e : TypeId} {z : Value} {sz by_ : Nat} (h : TEl P t e z sz by_) : ∃ i, P.info? e = some i ∧ i.zero = some z ∧ i.size = sz ∧ i.bytes = by_ := by
  obtain ⟨_, h, _⟩ := h
  cases hi : P.info? e with
  | none => simp [hi] at h
  | some i => exact ⟨i, rfl, by simpa [hi] using h⟩
theorem TEl.size {P : Program} {t e : TypeId} {z : Value} {sz by_ : Nat} (h : TEl P t e z sz by_) (w : World) : (sizeOf e).run P w = .ok sz w := by
  obtain ⟨i, hi, _, hs, _⟩ := h.parts
  simp [sizeOf, typeInfo, Sem.run_bind, program, Sem.run, hi, hs]

section
variable {α : Type} {enc : α → List Value} {sz : Nat}
theorem flat_rep (z : Value) (x : α) (hz : z.cells = (enc x).toArray) (he : ∀ x, (enc x).length = sz) (hpos : 0 < sz) (n : Nat) : (madeCells z.cells (n * sz)).toList = (List.replicate n x).flatMap enc := by
  apply List.ext_getElem?
  intro j
  by_cases hj : j < n * sz
  · have h1 : j / sz < n := (Nat.div_lt_iff_lt_mul hpos).2 hj
    have h2 : j % sz < (enc x).length := by rw [he]; exact Nat.mod_lt _ hpos
    have h3 := flat_get he (List.replicate n x) (j / sz) (j % sz) x _ (by simp [h1]) (List.getElem?_eq_getElem h2)
    rw [show j / sz * sz + j % sz = j by rw [Nat.mul_comm]; exact Nat.div_add_mod j sz] at h3
    rw [h3]
    have hs : z.cells.size = sz := by rw [hz]; simpa using he x
    simp only [madeCells, Array.toList_map, Array.toList_range, List.getElem?_map, List.getElem?_range hj, Option.map_some]
    congr 1
    rw [hs]
    have h4 : j % sz < z.cells.size := by rw [hs]; exact Nat.mod_lt _ hpos
    rw [getElem!_pos z.cells (j % sz) h4]
    simp [hz]
  · have h1 : ((List.replicate n x).flatMap enc).length = n * sz := by rw [flat_len he]; simp
    rw [List.getElem?_eq_none (by simp [madeCells]; omega), List.getElem?_eq_none (by omega)]
end

section
variable {α : Type} {P : Program} {ops : Array Oper} {N R : Act → World → Prop} {X : Nat → Act → World → Prop} {n : Nat} {rest : List Oper} {f : Env} {w : World} {v : Value} {d : Nat} {t e ty : TypeId} {p : String} {af : Array Edge} {x y : Operand} {enc : α → List Value} {sz by_ : Nat} {z : Value}
theorem SR.make {m : Nat} {zx : α} (ht : TEl P t e z sz by_) (hzx : z.cells = (enc zx).toArray) (he : ∀ x, (enc x).length = sz) (hx : ev n f x = .int .i64 m) (hy : ev n f y = .int .i64 m) (hb : by_ * m ≤ 281474976710656) (hm : (m : Int) ≤ 9223372036854775807)
    (h : ∀ g w', g = w.heap.size → Lo w w' → SlO w' w.heap.size enc sz e (some ⟨g, 0, none⟩) m m (List.replicate m zx) → SR P ops N R X n rest (set f d (.slice (some ⟨g, 0, none⟩) m m)) w') :
    SR P ops N R X n (⟨some d, .makeSlice t x y, ty, p, af, none⟩ :: rest) f w := by
  obtain ⟨i, hi, hz, hs, hby⟩ := ht.parts
  have hmm : m ≤ maxLen := by unfold maxLen; omega
  obtain ⟨w', hr, hown, hg⟩ := run_make_full (P := P) w w.heap.size t e i z sz ht.1 hi hz hs .i64 .i64 m (by rw [hby]; exact hb) hmm (Nat.le_refl _)
  refine SR.run (w' := w') (v := .slice (some ⟨w.heap.size, 0, none⟩) m m) ?_ rfl rfl (h _ w' rfl ((kp_of hg).sub (fun k hk => by cases hk)) ?_)
  · simp [execOp, hx, hy, hr]
  · rw [flat_rep z zx hzx he ht.2.2.2] at hown
    exact ⟨hown, by simp, he, hg.size⟩

/-- A store into element 'i', from its place 'o' on. -/
theorem SR.storeO {base c m i o : Nat} {A : Option Addr} {L : List α} {a : Addr} {vs : List Value} {x0 x1 : α} {t' : TypeId} (hs : ∀ w, (sizeOf t').run P w = .ok vs.length w) (hx : ev n f x = .pointer (some a)) (ha : a = (adr A).add (i * sz + o))
    (hy : ev n f y = v) (hv : v.cells = vs.toArray) (hO : SlO w base enc sz e A m c L) (hi : L[i]? = some x0) (he : enc x1 = spl (enc x0) o vs) (hso : o + vs.length ≤ sz) (h1 : vs.all (·.oneCell') = true)
    (h : ∀ w', Kp (fun k => A = some ⟨k, 0, none⟩) w w' → w'.heap.size = w.heap.size → SlO w' base enc sz e A m c (L.set i x1) → SR P ops N R X n rest f w') :
    SR P ops N R X n (⟨none, .store t' x y, ty, p, af, none⟩ :: rest) f w := by
  have hil : i < L.length := (List.getElem?_eq_some_iff.1 hi).1
  rcases hO.row.2 with ⟨_, h0⟩ | ⟨g, cap, cur, hval, hb, hh, hn, hmx, hcs, htk⟩
  · have := hO.len; omega
  · injection hval with e1 e2 e3
    subst e1 e3
    have ha' : a = ⟨g, i * sz + o, none⟩ := by rw [ha]; show (⟨g, 0, none⟩ : Addr).add _ = _; rw [add_at, Nat.zero_add]
    subst ha'
    have hlen := hO.len
    have hmul : i * sz + sz ≤ c * sz := by
      have : (i + 1) * sz ≤ c * sz := Nat.mul_le_mul_right _ (by omega)
      rwa [Nat.add_mul, Nat.one_mul] at this
    have hmul2 : i * sz + sz ≤ m * sz := by
      have : (i + 1) * sz ≤ m * sz := Nat.mul_le_mul_right _ (by omega)
      rwa [Nat.add_mul, Nat.one_mul] at this
    have hst := run_storeCells_at (P := P) g (i * sz + o) e vs 0 cur w hh (by rw [hcs]; omega) (fun u hu => List.all_eq_true.1 h1 u hu)
    simp only [Nat.add_zero] at hst
    refine SR.run_skip (w' := w.setRow g (cur.toList.take (i * sz + o) ++ vs ++ cur.toList.drop (i * sz + o + vs.length)).toArray) ?_ rfl rfl (h _ ?_ ?_ ?_)
    · have hv' : v.cells.toList = vs := by rw [hv]
      simp [execOp, hx, hy, Instr.storeAt, Instr.sureAddr, storeVar, hs w, hv, hst]
    · refine ⟨rfl, rfl, rfl, by simp [World.setRow], fun k hk hne => ?_⟩
      have : ¬ g = k := fun e => hne (by subst e; rfl)
      simp [World.setRow, Array.getElem?_modify, this]
    · simp [World.setRow]
    · have hcl : cur.toList.length = c * sz := by simpa using hcs
      have hszr : ((cur.toList.take (i * sz + o) ++ vs ++ cur.toList.drop (i * sz + o + vs.length)).toArray).size = c * sz := by
        simp only [List.size_toArray, List.length_append, List.length_take, List.length_drop, hcl]; omega
      refine ⟨⟨?_, .inr ⟨g, c, _, rfl, hb, setRow_heap w g cur _ e _ hh, hn, hmx, hszr, ?_⟩⟩, by simpa using hO.len, hO.esz, by simpa [World.setRow] using hO.bd⟩
      · rw [flat_len hO.esz, List.length_set, ← hO.len]
      · -- the first m * sz cells
        have hfl : (L.flatMap enc).length = m * sz := by rw [flat_len hO.esz, ← hO.len]
        apply List.ext_getElem?
        intro j
        rw [List.getElem?_take]
        by_cases hj : j < m * sz
        · rw [if_pos hj]
          have hcur : ∀ k, k < m * sz → cur.toList[k]? = (L.flatMap enc)[k]? := fun k hk => by rw [← htk, List.getElem?_take, if_pos hk]
          -- which element and which cell
          have hpos : 0 < sz := Nat.pos_of_ne_zero fun h0 => by subst h0; simp at hj
          have hq : j / sz < m := (Nat.div_lt_iff_lt_mul hpos).2 hj
          have hje : j / sz * sz + j % sz = j := by rw [Nat.mul_comm]; exact Nat.div_add_mod j sz
          have hr : j % sz < sz := Nat.mod_lt _ hpos
          by_cases hqi : j / sz = i
          · have h5 := flat_get hO.esz (L.set i x1) i (j % sz) x1 _ (by simp [hil]) (List.getElem?_eq_getElem (by rw [hO.esz]; exact hr))
            have h6 := flat_get hO.esz L i (j % sz) x0 _ hi (List.getElem?_eq_getElem (by rw [hO.esz]; exact hr))
            rw [← hqi, hje] at h5 h6
            simp only [hqi] at h5
            rw [h5, ← List.getElem?_eq_getElem, he]
            have hjr : j = i * sz + j % sz := by rw [← hqi]; exact hje.symm
            simp only [spl]
            have hx0l := hO.esz x0
            rcases Nat.lt_or_ge (j % sz) o with ho | ho
            · rw [List.append_assoc, List.append_assoc, List.getElem?_append_left (by simp [hcs]; omega), List.getElem?_append_left (by simp [hx0l]; omega), List.getElem?_take, List.getElem?_take, if_pos (show j < i * sz + o by omega), if_pos ho, hcur j hj, h6, ← List.getElem?_eq_getElem]
            · rcases Nat.lt_or_ge (j % sz) (o + vs.length) with ho2 | ho2
              · have hA : (cur.toList.take (i * sz + o)).length = i * sz + o := by rw [List.length_take, hcl]; omega
                have hX : ((enc x0).take o).length = o := by rw [List.length_take, hx0l]; omega
                rw [List.append_assoc, List.append_assoc, List.getElem?_append_right (show (cur.toList.take (i * sz + o)).length ≤ j by rw [hA]; omega), hA,
                  List.getElem?_append_right (show ((enc x0).take o).length ≤ j % sz by rw [hX]; omega), hX,
                  List.getElem?_append_left (show j - (i * sz + o) < vs.length by omega), List.getElem?_append_left (show j % sz - o < vs.length by omega)]
                congr 1
                omega
              · rw [List.getElem?_append_right (by simp [hcs]; omega), List.getElem?_append_right (by simp [hx0l]; omega), List.getElem?_drop, List.getElem?_drop]
                rw [show i * sz + o + vs.length + (j - (cur.toList.take (i * sz + o) ++ vs).length) = j by simp [hcs]; omega]
                rw [show o + vs.length + (j % sz - ((enc x0).take o ++ vs).length) = j % sz by simp [hx0l]; omega]
                rw [hcur j hj, h6, ← List.getElem?_eq_getElem]
          · have hne : (L.set i x1)[j / sz]? = L[j / sz]? := by rw [List.getElem?_set_ne (fun e => hqi e.symm)]
            obtain ⟨x2, hx2⟩ : ∃ x2, L[j / sz]? = some x2 := ⟨L[j / sz]'(by omega), List.getElem?_eq_getElem _⟩
            have h5 := flat_get hO.esz (L.set i x1) (j / sz) (j % sz) x2 _ (hne.trans hx2) (List.getElem?_eq_getElem (by rw [hO.esz]; exact hr))
            have h6 := flat_get hO.esz L (j / sz) (j % sz) x2 _ hx2 (List.getElem?_eq_getElem (by rw [hO.esz]; exact hr))
            rw [hje] at h5 h6
            rw [h5, ← h6, ← hcur j hj]
            rcases Nat.lt_or_ge j (i * sz) with hlt | hge
            · rw [List.append_assoc, List.getElem?_append_left (by simp [hcs]; omega), List.getElem?_take, if_pos (show j < i * sz + o by omega)]
            · have hgt : i * sz + sz ≤ j := by
                rcases Nat.lt_or_ge j (i * sz + sz) with h7 | h7
                · exfalso; apply hqi
                  have h8 : j / sz < i + 1 := (Nat.div_lt_iff_lt_mul hpos).2 (by rw [Nat.add_mul, Nat.one_mul]; exact h7)
                  have h9 : i ≤ j / sz := (Nat.le_div_iff_mul_le hpos).2 hge
                  omega
                · exact h7
              rw [List.getElem?_append_right (by simp [hcs]; omega), List.getElem?_drop]
              rw [show i * sz + o + vs.length + (j - (cur.toList.take (i * sz + o) ++ vs).length) = j by simp [hcs]; omega]
        · rw [if_neg hj, List.getElem?_eq_none (by rw [flat_len hO.esz, List.length_set, ← hO.len]; omega)]
end

/-! Literals. -/
theorem foldl_set (o : Nat) : ∀ (cs : List Value) (j : Nat) (arr : Array Value), o + j + cs.length ≤ arr.size →
    ((cs.zipIdx j).foldl (fun a (q : Value × Nat) => a.setIfInBounds (o + q.2) q.1) arr).toList = arr.toList.take (o + j) ++ cs ++ arr.toList.drop (o + j + cs.length)
  | [], j, arr, _ => by simp
  | c :: cs, j, arr, h => by
    have h' : o + j < arr.size := by simp at h; omega
    simp only [List.zipIdx_cons, List.foldl_cons]
    rw [foldl_set o cs (j + 1) (arr.setIfInBounds (o + j) c) (by simp at h ⊢; omega)]
    rw [Array.toList_setIfInBounds, ← Nat.add_assoc, List.take_add_one, List.getElem?_set_self (by simpa using h'), List.take_set_of_le (Nat.le_refl _), List.drop_set_of_lt (by omega)]
    simp only [Option.toList_some, List.append_assoc, List.cons_append, List.nil_append, List.length_cons]
    rw [show o + j + 1 + cs.length = o + j + (cs.length + 1) by omega]
section
variable {α : Type} {enc : α → List Value} {sz : Nat}
theorem fill_list (he : ∀ x, (enc x).length = sz) : ∀ (L : List α) (vs : List Value) (k : Nat) (cells : Array Value), vs.map Value.cells = L.map (fun x => (enc x).toArray) → cells.size = (k + L.length) * sz →
    Instr.fill (fun i => some (i * sz, sz)) cells ((vs.zipIdx k).map fun q => (q.2, q.1)) = some (cells.toList.take (k * sz) ++ L.flatMap enc).toArray
  | [], vs, k, cells, hv, hc => by
    have : vs = [] := by simpa using hv
    subst this
    simp only [List.zipIdx_nil, List.map_nil, Instr.fill, List.flatMap_nil, List.append_nil]
    rw [List.take_of_length_le (by simp at hc ⊢; omega)]
  | x :: L, vs, k, cells, hv, hc => by
    match vs, hv with
    | v :: vs, hv =>
      simp only [List.map_cons, List.cons.injEq] at hv
      obtain ⟨hv1, hv2⟩ := hv
      have hs : (enc x).length = sz := he x
      have e1 : (k + (L.length + 1)) * sz = k * sz + sz + L.length * sz := by rw [Nat.add_mul, Nat.add_mul, Nat.one_mul]; omega
      simp only [List.length_cons] at hc
      simp only [List.zipIdx_cons, List.map_cons, Instr.fill, hv1, List.size_toArray, hs]
      rw [if_neg (by simp; omega)]
      have hf := foldl_set (k * sz) (enc x) 0 cells (by rw [hs]; omega)
      have hz : ((enc x).toArray.zipIdx.foldl (fun cs (q : Value × Nat) => cs.setIfInBounds (k * sz + q.2) q.1) cells).toList = cells.toList.take (k * sz) ++ enc x ++ cells.toList.drop (k * sz + sz) := by
        rw [← Array.foldl_toList]
        simpa [hs] using hf
      have hsz : ((enc x).toArray.zipIdx.foldl (fun cs (q : Value × Nat) => cs.setIfInBounds (k * sz + q.2) q.1) cells).size = (k + 1 + L.length) * sz := by
        rw [← Array.length_toList, hz]
        simp only [List.length_append, List.length_take, List.length_drop, hs, Array.length_toList]
        rw [show (k + 1 + L.length) * sz = k * sz + sz + L.length * sz by rw [Nat.add_mul, Nat.add_mul, Nat.one_mul]]
        omega
      have ih := fill_list he L vs (k + 1) _ hv2 hsz
      refine Eq.trans ih ?_
      rw [hz]
      congr 2
      rw [List.flatMap_cons, ← List.append_assoc]
      congr 1
      rw [List.take_append_of_le_length (by simp [hs]; rw [Nat.add_mul, Nat.one_mul]; omega), List.take_of_length_le (by simp [hs]; rw [Nat.add_mul, Nat.one_mul]; omega)]
end

section
variable {α : Type} {P : Program} {ops : Array Oper} {N R : Act → World → Prop} {X : Nat → Act → World → Prop} {n : Nat} {rest : List Oper} {f : Env} {w : World} {v : Value} {d : Nat} {t e ty : TypeId} {p : String} {af : Array Edge} {x y : Operand} {enc : α → List Value} {sz by_ : Nat} {z : Value}
theorem SR.lit {ps : List (Nat × Operand)} {vs : List Value} {L : List α} {len : Nat} (ht : TEl P t e z sz by_) (he : ∀ x, (enc x).length = sz) (hp : ps.map (fun q => (q.1, ev n f q.2)) = (vs.zipIdx 0).map fun q => (q.2, q.1)) (hv : vs.map Value.cells = L.map (fun x => (enc x).toArray))
    (hl : len = L.length) (hsm : len * sz ≤ 16777216)
    (h : ∀ g w', g = w.heap.size → Lo w w' → SlO w' w.heap.size enc sz e (some ⟨g, 0, none⟩) len len L → SR P ops N R X n rest (set f d (.slice (some ⟨g, 0, none⟩) len len)) w') :
    SR P ops N R X n (⟨some d, .buildSlice t len ps.toArray, ty, p, af, none⟩ :: rest) f w := by
  obtain ⟨i, hi, hz, hs, hby⟩ := ht.parts
  have hpos := ht.2.2.2
  subst hl
  have hfl : (L.flatMap enc).length = L.length * sz := flat_len he L
  have key : (Instr.buildSlice t L.length (ps.toArray.map fun (q : Nat × Operand) => (q.1, ev n f q.2))).run P w = .ok (.slice (some ⟨w.heap.size, 0, none⟩) L.length L.length) (w.alloc (.cells (L.flatMap enc).toArray e)) := by
    rw [List.map_toArray, hp]
    rcases Nat.eq_zero_or_pos L.length with h0 | h0
    · have hL : L = [] := List.eq_nil_of_length_eq_zero h0
      subst hL
      have hvs : vs = [] := by simpa using hv
      subst hvs
      simp [Instr.buildSlice, run_underlying ht.1, sizeOf, typeInfo, hi, Instr.fill, newRow, newObj, Sem.run]
      rw [show (Array.map (fun _ : Nat => (default : Value)) (Array.range 0)) = #[] from Array.eq_empty_of_size_eq_zero (by simp)]
    · have hm : 0 < L.length * sz := Nat.mul_pos h0 hpos
      have hf := fill_list he L vs 0 ((Array.range (L.length * sz)).map (z.cells[· % z.cells.size]!)) hv (by simp)
      simp only [Nat.zero_mul, List.take_zero, List.nil_append] at hf
      refine run_buildSlice w t e L.length _ _ i z ht.1 hi hz (by rw [hs]; omega) (by rw [hs]; omega) ?_
      rw [hs]; exact hf
  refine SR.run (v := .slice (some ⟨w.heap.size, 0, none⟩) L.length L.length) (w' := w.alloc (.cells (L.flatMap enc).toArray e)) ?_ rfl rfl (h _ _ rfl (Lo.alloc _ _) ?_)
  · simp only [execOp, Sem.run_bind, key, Result.andThen_ok]; rfl
  · have hml : L.length ≤ maxLen := by
      have : L.length * 1 ≤ L.length * sz := Nat.mul_le_mul_left _ hpos
      unfold maxLen; omega
    refine ⟨?_, rfl, he, by simp⟩
    have := World.ownsRow_lit (base := w.heap.size) (e := e) (size := sz) w (L.flatMap enc).toArray L.length (Nat.le_refl _) hml (by simpa using hfl)
    simpa using this
theorem SR.app {base B m k c c2 : Nat} {A A2 : Option Addr} {L L2 : List α} (ht : TEl P t e z sz by_) (hs : ev n f x = .slice A m c) (hx : ev n f y = .slice A2 k c2) (hO : SlO w base enc sz e A m c L) (hR : SlR w B enc sz A2 k c2 L2)
    (h1 : ∀ x, (enc x).all (·.oneCell') = true) (hb : (m + k) * by_ ≤ 140737488355328) (hm : m + k ≤ 9223372036854775807)
    (h : ∀ A' c' w', Kp (fun b => A = some ⟨b, 0, none⟩) w w' → SlO w' base enc sz e A' (m + k) c' (L ++ L2) → (∀ b, A' = some ⟨b, 0, none⟩ → A = A' ∨ w.heap.size ≤ b) → SR P ops N R X n rest (set f d (.slice A' (m + k) c')) w') :
    SR P ops N R X n (⟨some d, .call ⟨.builtin .append, #[x, y], #[t, t]⟩, ty, p, af, none⟩ :: rest) f w := by
  obtain ⟨i, hi, hz, hsz, hby⟩ := ht.parts
  have hpos := ht.2.2.2
  have hmax : m + k ≤ maxLen := by unfold maxLen; omega
  rcases A2 with _ | a
  · have hk : k = 0 := by
      rcases Nat.eq_zero_or_pos k with h0 | h0
      · exact h0
      · have := hR.some h0; simp at this
    have hL2 : L2 = [] := List.eq_nil_of_length_eq_zero (by have := hR.len; omega)
    subst hk hL2
    have hrun : (Builtin.append_ #[t, t] ty #[.slice A m c, .slice none 0 c2]).run P w = .ok (.slice A m c) w := by
      rcases hO.row.2 with ⟨h0, _⟩ | ⟨g, cap, cur, h0, _, _, hnc, _⟩
      · injection h0 with e1 e2 e3
        subst e1 e2 e3
        simp [Builtin.append_, run_underlying ht.1, sizeOf, typeInfo, hi, Builtin.lenOf, Builtin.firstCells]
      · injection h0 with e1 e2 e3
        subst e1 e3
        simp [Builtin.append_, run_underlying ht.1, sizeOf, typeInfo, hi, Builtin.lenOf, Builtin.firstCells, hnc, storeCells]
    refine SR.run (v := .slice A (m + 0) c) (w' := w) ?_ rfl rfl (h A c w (Kp.refl _) (by simpa using hO) (fun _ _ => .inl rfl))
    simp [execOp, resolve, invoke, builtin, hs, hx, hrun]
  · have hcells : ∀ j u, (L2.flatMap enc)[j]? = some u → w.cell? (a.add j) = some u := by
      intro j u hu
      have hj : j < k * sz := by rw [hR.len, ← flat_len hR.esz]; exact (List.getElem?_eq_some_iff.1 hu).1
      have hq : j / sz < L2.length := by rw [← hR.len]; exact (Nat.div_lt_iff_lt_mul hpos).2 hj
      have hje : j / sz * sz + j % sz = j := by rw [Nat.mul_comm]; exact Nat.div_add_mod j sz
      have hr : j % sz < (enc L2[j / sz]).length := by rw [hR.esz]; exact Nat.mod_lt _ hpos
      have h6 := flat_get hR.esz L2 (j / sz) (j % sz) _ _ (List.getElem?_eq_getElem hq) (List.getElem?_eq_getElem hr)
      rw [hje, hu] at h6
      have := hR.at_ (j / sz) _ (List.getElem?_eq_getElem hq) (j % sz) _ (List.getElem?_eq_getElem hr)
      rw [hje] at this
      rw [h6]; exact this
    obtain ⟨v', w', hrun, hown, hg, _, hat⟩ := run_append_own_at (P := P) w base t ty e i z sz by_ ht.1 hi hz hsz hby ht.2.2.1 hpos (.slice A m c) m (L.flatMap enc) hO.row a k c2 (L2.flatMap enc)
      (by rw [flat_len hR.esz, ← hR.len]) hcells (fun u hu => by
        obtain ⟨q, hq, hu⟩ := List.mem_flatMap.1 hu
        exact List.all_eq_true.1 (h1 q) u hu) hmax hb hO.bd
    have hform : ∃ A' c', v' = .slice A' (m + k) c' := by
      rcases hown.2 with ⟨h0, h2⟩ | ⟨g, cap, cur, h0, _⟩
      · exact ⟨none, 0, by rw [h0, h2]⟩
      · exact ⟨_, _, h0⟩
    obtain ⟨A', c', rfl⟩ := hform
    have hAb : ∀ b, A = some ⟨b, 0, none⟩ → (Value.slice A m c).ownBlock = some b := fun b hb => by subst hb; rfl
    refine SR.run (v := .slice A' (m + k) c') (w' := w') ?_ rfl rfl (h A' c' w' ?_ ?_ ?_)
    · simp [execOp, resolve, invoke, builtin, hs, hx, hrun]
    · refine (kp_of hg).sub fun b hb => ?_
      rcases hO.row.2 with ⟨h0, _⟩ | ⟨g, cap, cur, h0, _⟩
      · injection h0 with e1 e2 e3
        subst e1; cases hb
      · injection h0 with e1 e2 e3
        subst e1
        simp only [Value.ownBlock, Option.some.injEq] at hb
        subst hb; rfl
    · exact ⟨by rw [List.flatMap_append]; exact hown, by rw [List.length_append, ← hO.len, ← hR.len], hO.esz, Nat.le_trans hO.bd hg.size⟩
    · intro b hb
      subst hb
      rcases hat with h2 | h2
      · left
        rcases hO.row.2 with ⟨h0, _⟩ | ⟨g, cap, cur, h0, _⟩
        · injection h0 with e1 e2 e3
          subst e1; simp [Value.ownBlock] at h2
        · injection h0 with e1 e2 e3
          subst e1
          simp only [Value.ownBlock, Option.some.injEq] at h2
          subst h2; rfl
      · right
        simp only [Value.ownBlock, Option.some.injEq] at h2
        omega
end

/-! Cuts. -/
def cutA (A : Option Addr) (c l sz : Nat) : Option Addr := if c = l then A else A.map (·.add (l * sz))
section
variable {α : Type} {P : Program} {n : Nat} {f : Env} {w : World} {v : Value} {d : Option Tmp} {t ty e : TypeId} {p : String} {af : Array Edge} {g : Option (Nat × Bool)} {x a b : Operand} {enc : α → List Value} {sz B m c l h : Nat} {A : Option Addr} {L : List α} {k k' : IntKind}
theorem SlR.cut (hR : SlR w B enc sz A m c L) (hl : l ≤ h) (hh : h ≤ m) : SlR w B enc sz (cutA A c l sz) (h - l) (c - l) ((L.drop l).take (h - l)) := by
  have hlen := hR.len; have hcap := hR.cap
  refine ⟨by rw [List.length_take, List.length_drop]; omega, by omega, by have := hR.max; omega, hR.bd, hR.esz, fun h0 => ?_, fun h0 => ?_, fun i y hy j u hu => ?_⟩
  · have := hR.some (by omega)
    unfold cutA; split <;> simpa using this
  · have h1 := hR.some (by omega); have h2 := hR.blk (by omega)
    obtain ⟨ad, rfl⟩ := Option.isSome_iff_exists.1 h1
    unfold cutA; split
    · exact h2
    · show (ad.add (l * sz)).block < B
      rw [add_block]; exact h2
  · rw [List.getElem?_take] at hy
    split at hy
    · rename_i hi
      rw [List.getElem?_drop] at hy
      have h1 := hR.some (by omega)
      obtain ⟨ad, rfl⟩ := Option.isSome_iff_exists.1 h1
      have h3 := hR.at_ (l + i) y hy j u hu
      unfold cutA
      rw [if_neg (by omega)]
      show w.cell? ((ad.add (l * sz)).add (i * sz + j)) = _
      rw [add_add, show l * sz + (i * sz + j) = (l + i) * sz + j by rw [Nat.add_mul]; omega]
      exact h3
    · cases hy
theorem SlR.head (hR : SlR w B enc sz A m c L) (hh : h ≤ m) : SlR w B enc sz A h c (L.take h) := by
  have hlen := hR.len; have hcap := hR.cap
  refine ⟨by rw [List.length_take]; omega, by omega, hR.max, hR.bd, hR.esz, fun h0 => hR.some (by omega), fun h0 => hR.blk (by omega), fun i y hy j u hu => ?_⟩
  rw [List.getElem?_take] at hy
  split at hy
  · exact hR.at_ i y hy j u hu
  · cases hy
theorem SlO.head {base : Nat} (hO : SlO w base enc sz e A m c L) (hh : h ≤ m) : SlO w base enc sz e A h c (L.take h) := by
  have hlen := hO.len
  have hfl : ((L.take h).flatMap enc).length = h * sz := by rw [flat_len hO.esz, List.length_take]; congr 1; omega
  refine ⟨⟨hfl, ?_⟩, by rw [List.length_take]; omega, hO.esz, hO.bd⟩
  rcases hO.row.2 with ⟨h0, h1⟩ | ⟨g, cap, cur, hv, hb, hg, hn, hm, hs, ht⟩
  · injection h0 with e1 e2 e3
    subst e1 e2 e3
    have : h = 0 := by omega
    subst this
    exact .inl ⟨rfl, rfl⟩
  · injection hv with e1 e2 e3
    subst e1 e3
    refine .inr ⟨g, c, cur, rfl, hb, hg, by omega, hm, hs, ?_⟩
    have h2 : L.flatMap enc = (L.take h).flatMap enc ++ (L.drop h).flatMap enc := by rw [← List.flatMap_append, List.take_append_drop]
    rw [h2] at ht
    have h3 : h * sz ≤ m * sz := Nat.mul_le_mul_right _ hh
    have h4 : (cur.toList.take (m * sz)).take (h * sz) = cur.toList.take (h * sz) := by rw [List.take_take, Nat.min_eq_left h3]
    rw [ht, List.take_left' hfl] at h4
    exact h4.symm
theorem r_cut {zl zh : Int} (ht : TSl P t e sz) (hx : ev n f x = .slice A m c) (ha : ev n f a = .int k zl) (hb : ev n f b = .int k' zh) (hzl : zl = (l : Int)) (hzh : zh = (h : Int)) (hl : l ≤ h) (hh : h ≤ c) :
    Run P ⟨d, .slice t x (some a) (some b) none, ty, p, af, g⟩ n f w (.slice (cutA A c l sz) (h - l) (c - l)) := by
  subst hzl hzh
  have h1 : (l : Int) ≤ (h : Int) := by omega
  have h2 : (h : Int) ≤ (c : Int) := by omega
  unfold Run cutA
  simp [execOp, hx, ha, hb, Instr.sliceAt, Instr.slice, run_underlying ht.1, Instr.sliceBounds, Instr.sliceBound, asIntOf, hl, hh, ht.2 w]
theorem r_cutl {zl : Int} (ht : TSl P t e sz) (hx : ev n f x = .slice A m c) (ha : ev n f a = .int k zl) (hzl : zl = (l : Int)) (hl : l ≤ m) :
    Run P ⟨d, .slice t x (some a) none none, ty, p, af, g⟩ n f w (.slice (cutA A c l sz) (m - l) (c - l)) := by
  subst hzl
  unfold Run cutA
  simp [execOp, hx, ha, Instr.sliceAt, Instr.slice, run_underlying ht.1, Instr.sliceBounds, Instr.sliceBound, asIntOf, hl, ht.2 w]
theorem r_cuth {zh : Int} (ht : TSl P t e sz) (hx : ev n f x = .slice A m c) (hb : ev n f b = .int k' zh) (hzh : zh = (h : Int)) (hh : h ≤ c) :
    Run P ⟨d, .slice t x none (some b) none, ty, p, af, g⟩ n f w (.slice A h c) := by
  subst hzh
  have e : (Option.map (fun x : Addr => x.add 0) A) = A := by cases A <;> simp [Addr.add]
  unfold Run
  simp [execOp, hx, hb, Instr.sliceAt, Instr.slice, run_underlying ht.1, Instr.sliceBounds, Instr.sliceBound, asIntOf, hh, ht.2 w, e]
end
end Go.Proofs.YtnbbfokkpkphoaaGreatDoor.Fw
