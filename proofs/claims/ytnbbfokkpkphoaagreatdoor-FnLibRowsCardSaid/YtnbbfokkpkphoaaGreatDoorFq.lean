/- Own rows, seen whole: appending in place, clearing, copying. -/
import Derived.Test.YtnbbfokkpkphoaaGreatDoorFp
import Derived.Laws.CopyRow
import Derived.Lib.AppendZerosOnto
namespace Go.Proofs.YtnbbfokkpkphoaaGreatDoor.Fw
open Go Go.RowKit
section
variable {α : Type} {w w' : World} {base e sz n c : Nat} {enc : α → List Value} {A : Option Addr} {L : List α} {cs : List Value}
/-- The whole block: 'c' elements of 'sz' cells, whatever they hold. -/
structure Rw (w : World) (base sz e g c : Nat) (cs : List Value) : Prop where
  heap : w.heap[g]? = some (.cells cs.toArray e (0, 0))
  len : cs.length = c * sz
  ge : base ≤ g
  max : c ≤ maxLen
  bd : base ≤ w.heap.size
theorem Rw.lt {g : Nat} (h : Rw w base sz e g c cs) : g < w.heap.size := by
  rcases Nat.lt_or_ge g w.heap.size with h' | h'
  · exact h'
  · have := h.heap; rw [Array.getElem?_eq_none h'] at this; cases this
/-- An own slice that is not nil, seen whole. -/
theorem SlO.raw (h : SlO w base enc sz e A n c L) (hA : A.isSome = true) : ∃ g cs, A = some ⟨g, 0, none⟩ ∧ Rw w base sz e g c cs ∧ cs.take (n * sz) = L.flatMap enc ∧ n ≤ c := by
  rcases h.row.2 with ⟨h0, _⟩ | ⟨g, cap, cur, hv, hg, hh, hn, hm, hs, ht⟩
  · injection h0 with e1; subst e1; simp at hA
  · injection hv with e1 e2 e3
    subst e1 e3
    exact ⟨g, cur.toList, rfl, ⟨by simpa using hh, by simpa using hs, hg, hm, h.bd⟩, ht, hn⟩
theorem Rw.own {g : Nat} (h : Rw w base sz e g c cs) (hn : n ≤ c) (hl : n = L.length) (he : ∀ x, (enc x).length = sz) (ht : cs.take (n * sz) = L.flatMap enc) : SlO w base enc sz e (some ⟨g, 0, none⟩) n c L :=
  ⟨⟨by rw [flat_len he, ← hl], .inr ⟨g, c, cs.toArray, rfl, h.ge, h.heap, hn, h.max, by simpa using h.len, by simpa using ht⟩⟩, hl, he, h.bd⟩
theorem Rw.kp {S : Nat → Prop} {g : Nat} (h : Rw w base sz e g c cs) (k : Kp S w w') (hS : ¬ S g) : Rw w' base sz e g c cs :=
  ⟨(k.block g h.lt hS).trans h.heap, h.len, h.ge, h.max, Nat.le_trans h.bd k.size⟩
theorem Rw.lo {g : Nat} (h : Rw w base sz e g c cs) (k : Lo w w') : Rw w' base sz e g c cs := h.kp k id
/-- Writing 'vs' from cell 'o' on. -/
theorem Rw.set {g o : Nat} (h : Rw w base sz e g c cs) (vs : List Value) (ho : o + vs.length ≤ c * sz) :
    Rw (w.setRow g (spl cs o vs).toArray) base sz e g c (spl cs o vs) ∧ Kp (fun b => b = g) w (w.setRow g (spl cs o vs).toArray) ∧ (w.setRow g (spl cs o vs).toArray).heap.size = w.heap.size := by
  refine ⟨⟨setRow_heap w g cs.toArray _ e _ h.heap, ?_, h.ge, h.max, by simpa [World.setRow] using h.bd⟩, ⟨rfl, rfl, rfl, by simp [World.setRow], fun k hk hne => ?_⟩, by simp [World.setRow]⟩
  · have := h.len; simp only [spl, List.length_append, List.length_take, List.length_drop]; omega
  · have : ¬ g = k := fun e => hne e.symm
    simp [World.setRow, Array.getElem?_modify, this]
theorem Rw.run_store {P : Program} {g o : Nat} (h : Rw w base sz e g c cs) (vs : List Value) (ho : o + vs.length ≤ c * sz) (h1 : ∀ v ∈ vs, v.oneCell' = true) :
    (storeCells ⟨g, o, none⟩ vs).run P w = .ok () (w.setRow g (spl cs o vs).toArray) := by
  have := run_storeCells_at P g o e vs 0 cs.toArray w h.heap (by have := h.len; simpa using by omega) h1
  simpa [spl] using this
theorem cutA_some (g c l sz : Nat) : ∃ o, cutA (some (⟨g, 0, none⟩ : Addr)) c l sz = some ⟨g, o, none⟩ ∧ (c ≠ l → o = l * sz) := by
  unfold cutA
  split
  · exact ⟨0, rfl, fun h => absurd ‹_› h⟩
  · exact ⟨l * sz, by rw [Option.map_some, add_at, Nat.zero_add], fun _ => rfl⟩
end
section
variable {α : Type} {P : Program} {ops : Array Oper} {N R : Act → World → Prop} {X : Nat → Act → World → Prop} {n : Nat} {rest : List Oper} {f : Env} {w : World} {v : Value} {t e ty : TypeId} {p : String} {af : Array Edge} {x y : Operand} {enc : α → List Value} {sz by_ base g c : Nat} {z : Value} {cs : List Value} {A : Option Addr} {L : List α}
/-- append where there is room. -/
theorem SR.appI {d m k c2 B : Nat} {A2 : Option Addr} {L2 : List α} (ht : TEl P t e z sz by_) (hs : ev n f x = .slice A m c) (hx : ev n f y = .slice A2 k c2) (hO : SlO w base enc sz e A m c L) (hR : SlR w B enc sz A2 k c2 L2)
    (h1 : ∀ x, (enc x).all (·.oneCell') = true) (hroom : m + k ≤ c)
    (h : ∀ w', Kp (fun b => A = some ⟨b, 0, none⟩) w w' → SlO w' base enc sz e A (m + k) c (L ++ L2) → SR P ops N R X n rest (set f d (.slice A (m + k) c)) w') :
    SR P ops N R X n (⟨some d, .call ⟨.builtin .append, #[x, y], #[t, t]⟩, ty, p, af, none⟩ :: rest) f w := by
  obtain ⟨i, hi, hz, hsz, hby⟩ := ht.parts
  have hpos := ht.2.2.2
  rcases hO.row.2 with ⟨h0, _⟩ | ⟨g, cap, cur, h0, hg0, hh, hnc, hmx, hcs, htk⟩
  · injection h0 with e1 e2 e3
    subst e1 e2 e3
    obtain rfl : k = 0 := by omega
    have hL2 : L2 = [] := List.eq_nil_of_length_eq_zero (by have := hR.len; omega)
    subst hL2
    have hrun : (Builtin.append_ #[t, t] ty #[.slice none 0 0, .slice A2 0 c2]).run P w = .ok (.slice none 0 0) w := by
      cases A2 <;> simp [Builtin.append_, run_underlying ht.1, sizeOf, typeInfo, hi, Builtin.lenOf, Builtin.firstCells, loadCells, loadCellsFrom]
    refine SR.run (v := .slice none 0 0) (w' := w) ?_ rfl rfl (h w (Kp.refl _) (by simpa using hO))
    simp [execOp, resolve, invoke, builtin, hs, hx, hrun]
  · injection h0 with e1 e2 e3
    subst e1 e3
    rcases A2 with _ | a
    · have hk : k = 0 := by
        rcases Nat.eq_zero_or_pos k with h0 | h0
        · exact h0
        · have := hR.some h0; simp at this
      have hL2 : L2 = [] := List.eq_nil_of_length_eq_zero (by have := hR.len; omega)
      subst hk hL2
      have hrun : (Builtin.append_ #[t, t] ty #[.slice (some ⟨g, 0, none⟩) m c, .slice none 0 c2]).run P w = .ok (.slice (some ⟨g, 0, none⟩) m c) w := by
        simp [Builtin.append_, run_underlying ht.1, sizeOf, typeInfo, hi, Builtin.lenOf, Builtin.firstCells, hnc, storeCells]
      refine SR.run (v := .slice (some ⟨g, 0, none⟩) (m + 0) c) (w' := w) ?_ rfl rfl (h w (Kp.refl _) (by simpa using hO))
      simp [execOp, resolve, invoke, builtin, hs, hx, hrun]
    · have hcells : ∀ j u, (L2.flatMap enc)[j]? = some u → w.cell? (a.add j) = some u := by
        intro j u hu
        have hj : j < k * sz := by rw [hR.len, ← flat_len hR.esz]; exact (List.getElem?_eq_some_iff.1 hu).1
        have hq : j / sz < L2.length := by rw [← hR.len]; exact (Nat.div_lt_iff_lt_mul hpos).2 hj
        have hje : j / sz * sz + j % sz = j := by rw [Nat.mul_comm]; exact Nat.div_add_mod j sz
        have hr : j % sz < (enc L2[j / sz]).length := by rw [hR.esz]; exact Nat.mod_lt _ hpos
        have h6 := flat_get hR.esz L2 (j / sz) (j % sz) _ _ (List.getElem?_eq_getElem hq) (List.getElem?_eq_getElem hr)
        rw [hje, hu] at h6
        have := hR.at_ (j / sz) _ (List.getElem?_eq_getElem hq) (j % sz) _ (List.getElem?_eq_getElem hr)
        rw [hje] at this
        rw [h6]; exact this
      obtain ⟨w', hrun, hown, hg⟩ := run_append_fits (P := P) w base t ty e i sz ht.1 hi hsz g m c (L.flatMap enc) hO.row a k c2 (L2.flatMap enc)
        (by rw [flat_len hR.esz, ← hR.len]) hcells (fun u hu => by
          obtain ⟨q, hq, hu⟩ := List.mem_flatMap.1 hu
          exact List.all_eq_true.1 (h1 q) u hu) hroom
      refine SR.run (v := .slice (some ⟨g, 0, none⟩) (m + k) c) (w' := w') ?_ rfl rfl (h w' ((kp_of hg).sub fun b hb => by injection hb with hb; rw [hb]) ⟨by rw [List.flatMap_append]; exact hown, by rw [List.length_append, ← hO.len, ← hR.len], hO.esz, Nat.le_trans hO.bd hg.size⟩)
      simp [execOp, resolve, invoke, builtin, hs, hx, hrun]
/-- clear of elements of an own row. -/
theorem SR.clearR {l k c' : Nat} (ht : TEl P t e z sz by_) (hx : ev n f x = .slice (cutA (some ⟨g, 0, none⟩) c l sz) k c') (hR : Rw w base sz e g c cs) (hlk : l + k ≤ c) (hz1 : z.cells.all (·.oneCell') = true)
    (h : ∀ w' cs', Kp (fun b => b = g) w w' → Rw w' base sz e g c cs' → cs'.take (l * sz) = cs.take (l * sz) → SR P ops N R X n rest f w') :
    SR P ops N R X n (⟨none, .call ⟨.builtin .clear, #[x], #[t]⟩, ty, p, af, none⟩ :: rest) f w := by
  obtain ⟨i, hi, hz, hsz, hby⟩ := ht.parts
  have hpos := ht.2.2.2
  obtain ⟨o, ho, ho'⟩ := cutA_some g c l sz
  rw [ho] at hx
  rcases Nat.eq_zero_or_pos k with h0 | h0
  · subst h0
    refine SR.run_none (v := .tuple #[]) (w' := w) ?_ rfl rfl (h w cs (Kp.refl _) hR rfl)
    simp [execOp, resolve, invoke, builtin, hx, Builtin.clear_, run_underlying ht.1]
  · have hlc : c ≠ l := by omega
    have hol := ho' hlc
    subst hol
    have hvl : (Builtin.zeroCells z.cells k).toList.length = k * sz := by simp [Builtin.zeroCells, ht.2.2.1]
    have hfit : l * sz + (Builtin.zeroCells z.cells k).toList.length ≤ c * sz := by rw [hvl, ← Nat.add_mul]; exact Nat.mul_le_mul_right _ hlk
    have hst := hR.run_store (P := P) (Builtin.zeroCells z.cells k).toList hfit (fun v hv => by
      simp only [Builtin.zeroCells, Array.toList_map, List.mem_map] at hv
      obtain ⟨j, _, rfl⟩ := hv
      have hp : 0 < z.cells.size := by rw [ht.2.2.1]; exact hpos
      rw [getElem!_pos z.cells (j % z.cells.size) (Nat.mod_lt _ hp)]
      exact Array.all_eq_true.1 hz1 _ (Nat.mod_lt _ hp))
    obtain ⟨hr, hk, _⟩ := hR.set (Builtin.zeroCells z.cells k).toList hfit
    refine SR.run_none (v := .tuple #[]) (w' := _) ?_ rfl rfl (h _ _ hk hr ?_)
    · have hkk : k ≠ 0 := by omega
      cases k with
      | zero => omega
      | succ k => simp [execOp, resolve, invoke, builtin, hx, Builtin.clear_, run_underlying ht.1, zeroValue, typeInfo, hi, hz, hst]
    · have hll : (cs.take (l * sz)).length = l * sz := by
        rw [List.length_take, hR.len]; exact Nat.min_eq_left (Nat.mul_le_mul_right _ (by omega))
      unfold spl
      rw [List.append_assoc, List.take_append_of_le_length (by omega), List.take_of_length_le (by omega)]
theorem SR.clearO {l k c' m : Nat} (ht : TEl P t e z sz by_) (hx : ev n f x = .slice (cutA A c l sz) k c') (hO : SlO w base enc sz e A m c L) (hml : m ≤ l) (hlk : l + k ≤ c) (hz1 : z.cells.all (·.oneCell') = true)
    (h : ∀ w', Kp (fun b => A = some ⟨b, 0, none⟩) w w' → SlO w' base enc sz e A m c L → SR P ops N R X n rest f w') :
    SR P ops N R X n (⟨none, .call ⟨.builtin .clear, #[x], #[t]⟩, ty, p, af, none⟩ :: rest) f w := by
  cases hA : A with
  | none =>
    subst hA
    have hc : cutA (none : Option Addr) c l sz = none := by unfold cutA; split <;> rfl
    rw [hc] at hx
    refine SR.run_none (v := .tuple #[]) (w' := w) ?_ rfl rfl (h w (Kp.refl _) hO)
    simp [execOp, resolve, invoke, builtin, hx, Builtin.clear_, run_underlying ht.1]
  | some a =>
    obtain ⟨g, cs, hg, hR, htk, hmc⟩ := hO.raw (by rw [hA]; rfl)
    rw [hg] at hx
    refine SR.clearR ht hx hR hlk hz1 fun w' cs' hk hR' htk' => h w' (hk.sub fun b hb => by rw [hg, hb]) ?_
    rw [hg]
    refine hR'.own hmc hO.len hO.esz ?_
    have : m * sz ≤ l * sz := Nat.mul_le_mul_right _ hml
    have h2 : (cs'.take (l * sz)).take (m * sz) = (cs.take (l * sz)).take (m * sz) := by rw [htk']
    rw [List.take_take, List.take_take, Nat.min_eq_left this] at h2
    rw [h2, htk]
theorem r_cut3 {d : Option Tmp} {gg : Option (Nat × Bool)} {a b q : Operand} {k k' k'' : IntKind} {l h' m' m : Nat} {zl zh zm : Int} (ht : TSl P t e sz) (hx : ev n f x = .slice A m c) (ha : ev n f a = .int k zl) (hb : ev n f b = .int k' zh) (hq : ev n f q = .int k'' zm) (hzl : zl = (l : Int)) (hzh : zh = (h' : Int)) (hzm : zm = (m' : Int)) (hl : l ≤ h') (hh : h' ≤ m') (hm : m' ≤ c) :
    Run P ⟨d, .slice t x (some a) (some b) (some q), ty, p, af, gg⟩ n f w (.slice (if m' = l then A else A.map (·.add (l * sz))) (h' - l) (m' - l)) := by
  subst hzl hzh hzm
  have h1 : (l : Int) ≤ (h' : Int) := by omega
  have h2 : (h' : Int) ≤ (m' : Int) := by omega
  have h3 : (m' : Int) ≤ (c : Int) := by omega
  unfold Run
  simp [execOp, hx, ha, hb, hq, Instr.sliceAt, Instr.slice, run_underlying ht.1, Instr.sliceBounds, Instr.sliceBound, asIntOf, hl, hh, hm, ht.2 w]
/-- copy into an own row. -/
theorem SR.copyR {d l dl dc k c2 m : Nat} {A2 : Option Addr} {vs : List Value} {t2 : TypeId} (ht : TEl P t e z sz by_) (hx : ev n f x = .slice (cutA (some ⟨g, 0, none⟩) c l sz) dl dc) (hy : ev n f y = .slice A2 k c2) (hR : Rw w base sz e g c cs)
    (hm : Nat.min k dl = m) (hlk : l + m ≤ c) (hv : vs.length = m * sz) (hA : 0 < m → ∀ j u, vs[j]? = some u → w.cell? ((adr A2).add j) = some u) (hA2 : 0 < m → A2.isSome = true) (h1 : ∀ v ∈ vs, v.oneCell' = true)
    (h : ∀ w', Kp (fun b => b = g) w w' → Rw w' base sz e g c (spl cs (l * sz) vs) → SR P ops N R X n rest (set f d (.int .i64 m)) w') :
    SR P ops N R X n (⟨some d, .call ⟨.builtin .copy, #[x, y], #[t, t2]⟩, ty, p, af, none⟩ :: rest) f w := by
  obtain ⟨i, hi, hz, hsz, hby⟩ := ht.parts
  have hpos := ht.2.2.2
  obtain ⟨o, ho, ho'⟩ := cutA_some g c l sz
  rw [ho] at hx
  rcases Nat.eq_zero_or_pos m with h0 | h0
  · subst h0
    have hvs : vs = [] := List.eq_nil_of_length_eq_zero (by simpa using hv)
    subst hvs
    have hs : spl cs (l * sz) [] = cs := by simp [spl]
    refine SR.run (v := .int .i64 (0 : Nat)) (w' := w) ?_ rfl rfl (h w (Kp.refl _) (by rw [hs]; exact hR))
    cases A2 <;> simp [execOp, resolve, invoke, builtin, hx, hy, Builtin.copy_, run_underlying ht.1, Builtin.lenOf, hm, sizeOf, typeInfo, hi, Builtin.firstCells, loadCells, loadCellsFrom, storeCells, goInt]
  · have hol := ho' (by omega)
    subst hol
    obtain ⟨a, rfl⟩ := Option.isSome_iff_exists.1 (hA2 h0)
    have hfit : l * sz + vs.length ≤ c * sz := by rw [hv, ← Nat.add_mul]; exact Nat.mul_le_mul_right _ hlk
    have hld := run_loadCells_list (P := P) w a vs (hA h0)
    rw [hv] at hld
    have hst := hR.run_store (P := P) vs hfit h1
    obtain ⟨hr, hk, _⟩ := hR.set vs hfit
    refine SR.run (v := .int .i64 m) (w' := _) ?_ rfl rfl (h _ hk hr)
    simp [execOp, resolve, invoke, builtin, hx, hy, Builtin.copy_, run_underlying ht.1, Builtin.lenOf, hm, sizeOf, typeInfo, hi, hsz, Builtin.firstCells, hld, hst, goInt]
end
end Go.Proofs.YtnbbfokkpkphoaaGreatDoor.Fw
