/- Inserting into an own slice: what the library's function needs. -/
import Derived.Test.YtnbbfokkpkphoaaGreatDoorFq
import Derived.Lib.Overlaps
namespace Go.Proofs.YtnbbfokkpkphoaaGreatDoor.Fw
open Go Go.RowKit
section
variable {α : Type} {enc : α → List Value} {sz : Nat}
theorem flat_take (he : ∀ x, (enc x).length = sz) (L : List α) (k : Nat) (hk : k ≤ L.length) : (L.flatMap enc).take (k * sz) = (L.take k).flatMap enc := by
  have h2 : L.flatMap enc = (L.take k).flatMap enc ++ (L.drop k).flatMap enc := by rw [← List.flatMap_append, List.take_append_drop]
  rw [h2, List.take_left' (by rw [flat_len he, List.length_take, Nat.min_eq_left hk])]
theorem flat_drop (he : ∀ x, (enc x).length = sz) (L : List α) (k : Nat) (hk : k ≤ L.length) : (L.flatMap enc).drop (k * sz) = (L.drop k).flatMap enc := by
  have h2 : L.flatMap enc = (L.take k).flatMap enc ++ (L.drop k).flatMap enc := by rw [← List.flatMap_append, List.take_append_drop]
  rw [h2, List.drop_left' (by rw [flat_len he, List.length_take, Nat.min_eq_left hk])]
/-- A piece of an own row, elements over elements. -/
theorem spl_flat (he : ∀ x, (enc x).length = sz) {cs : List Value} {L X : List α} {m l q : Nat} (hl : m = L.length) (hx : q = X.length) (hlm : l + q ≤ m) (ht : cs.take (m * sz) = L.flatMap enc) :
    (spl cs (l * sz) (X.flatMap enc)).take (m * sz) = (L.take l ++ X ++ L.drop (l + q)).flatMap enc := by
  have hcl : m * sz ≤ cs.length := by
    have h1 := congrArg List.length ht
    rw [List.length_take, flat_len he, ← hl] at h1; omega
  have e1 : l * sz + q * sz ≤ m * sz := by rw [← Nat.add_mul]; exact Nat.mul_le_mul_right _ hlm
  have hxl : (X.flatMap enc).length = q * sz := by rw [flat_len he, ← hx]
  unfold spl
  rw [hxl]
  have h1 : cs.take (l * sz) = (L.take l).flatMap enc := by
    rw [← flat_take he L l (by omega), ← ht, List.take_take, Nat.min_eq_left (by omega)]
  have h2 : (cs.drop (l * sz + q * sz)).take (m * sz - (l * sz + q * sz)) = (L.drop (l + q)).flatMap enc := by
    rw [← flat_drop he L (l + q) (by omega), ← ht, Nat.add_mul, List.drop_take]
  have hl1 : (cs.take (l * sz)).length = l * sz := by rw [List.length_take]; omega
  rw [List.take_append, List.take_of_length_le (by rw [List.length_append, hl1, hxl]; omega), List.length_append, hl1, hxl, h2, h1, List.flatMap_append, List.flatMap_append]
/-- Making room and laying in. -/
theorem ins_flat (he : ∀ x, (enc x).length = sz) {cs : List Value} {L V : List α} {n k i : Nat} (hl : n = L.length) (hv : k = V.length) (hi : i ≤ n) (hc : (n + k) * sz ≤ cs.length) (ht : cs.take (n * sz) = L.flatMap enc) :
    (spl (spl cs ((i + k) * sz) ((L.drop i).flatMap enc)) (i * sz) (V.flatMap enc)).take ((n + k) * sz) = (L.take i ++ V ++ L.drop i).flatMap enc := by
  have e1 : (i + k) * sz = i * sz + k * sz := Nat.add_mul ..
  have e2 : (n + k) * sz = n * sz + k * sz := Nat.add_mul ..
  have e3 : i * sz ≤ n * sz := Nat.mul_le_mul_right _ hi
  have e4 : (n - i) * sz = n * sz - i * sz := Nat.sub_mul ..
  have hvl : (V.flatMap enc).length = k * sz := by rw [flat_len he, ← hv]
  have hDl : ((L.drop i).flatMap enc).length = n * sz - i * sz := by rw [flat_len he, List.length_drop, ← hl, e4]
  have hA : cs.take (i * sz) = (L.take i).flatMap enc := by
    rw [← flat_take he L i (by omega), ← ht, List.take_take, Nat.min_eq_left e3]
  have h1 : (spl cs ((i + k) * sz) ((L.drop i).flatMap enc)).take (i * sz) = (L.take i).flatMap enc := by
    unfold spl
    rw [List.append_assoc, List.take_append_of_le_length (by rw [List.length_take]; omega), List.take_take, Nat.min_eq_left (by omega), hA]
  have h2 : (spl cs ((i + k) * sz) ((L.drop i).flatMap enc)).drop (i * sz + k * sz) = (L.drop i).flatMap enc ++ cs.drop ((i + k) * sz + (n * sz - i * sz)) := by
    unfold spl
    rw [List.append_assoc, List.drop_append, List.drop_of_length_le (by rw [List.length_take]; omega), List.nil_append, List.length_take, hDl]
    rw [show i * sz + k * sz - min ((i + k) * sz) cs.length = 0 by omega, List.drop_zero]
  show ((spl cs ((i + k) * sz) ((L.drop i).flatMap enc)).take (i * sz) ++ V.flatMap enc ++ (spl cs ((i + k) * sz) ((L.drop i).flatMap enc)).drop (i * sz + (V.flatMap enc).length)).take ((n + k) * sz) = _
  rw [hvl, h1, h2, List.flatMap_append, List.flatMap_append, ← List.append_assoc]
  have hAl : ((L.take i).flatMap enc).length = i * sz := by rw [flat_len he, List.length_take, Nat.min_eq_left (by omega)]
  rw [List.take_append_of_le_length (by simp only [List.length_append, hAl, hvl, hDl]; omega), List.take_of_length_le (by simp only [List.length_append, hAl, hvl, hDl]; omega)]
end
section
variable {α : Type} {w : World} {B sz m c : Nat} {enc : α → List Value} {A : Option Addr} {L : List α}
theorem SlR.flat (h : SlR w B enc sz A m c L) : ∀ (j : Nat) (u : Value), (L.flatMap enc)[j]? = Option.some u → w.cell? ((adr A).add j) = Option.some u := by
  intro j u hu
  have hj : j < m * sz := by rw [h.len, ← flat_len h.esz]; exact (List.getElem?_eq_some_iff.1 hu).1
  have hpos : 0 < sz := Nat.pos_of_ne_zero fun h0 => by subst h0; simp at hj
  have hq : j / sz < L.length := by rw [← h.len]; exact (Nat.div_lt_iff_lt_mul hpos).2 hj
  have hje : j / sz * sz + j % sz = j := by rw [Nat.mul_comm]; exact Nat.div_add_mod j sz
  have hr : j % sz < (enc L[j / sz]).length := by rw [h.esz]; exact Nat.mod_lt _ hpos
  have h6 := flat_get h.esz L (j / sz) (j % sz) _ _ (List.getElem?_eq_getElem hq) (List.getElem?_eq_getElem hr)
  rw [hje, hu] at h6
  have := h.at_ (j / sz) _ (List.getElem?_eq_getElem hq) (j % sz) _ (List.getElem?_eq_getElem hr)
  rw [hje] at this
  rw [h6]; exact this
end
section
variable {α : Type} {P : Program} {ops : Array Oper} {N R : Act → World → Prop} {X : Nat → Act → World → Prop} {n : Nat} {rest : List Oper} {f : Env} {w : World} {v : Value} {t e ty : TypeId} {p : String} {af : Array Edge} {x y : Operand} {enc : α → List Value} {sz by_ base g c : Nat} {z : Value} {cs : List Value} {A : Option Addr} {L : List α}
theorem SR.copyO {d l dl dc k c2 m q B : Nat} {A2 : Option Addr} {L2 : List α} {t2 : TypeId} (ht : TEl P t e z sz by_) (hx : ev n f x = .slice (cutA A c l sz) dl dc) (hy : ev n f y = .slice A2 k c2) (hO : SlO w base enc sz e A m c L) (hR : SlR w B enc sz A2 k c2 L2)
    (hq : Nat.min k dl = q) (hlm : l + q ≤ m) (h1 : ∀ x, (enc x).all (·.oneCell') = true)
    (h : ∀ w', Kp (fun b => A = some ⟨b, 0, none⟩) w w' → SlO w' base enc sz e A m c (L.take l ++ L2.take q ++ L.drop (l + q)) → SR P ops N R X n rest (set f d (.int .i64 q)) w') :
    SR P ops N R X n (⟨some d, .call ⟨.builtin .copy, #[x, y], #[t, t2]⟩, ty, p, af, none⟩ :: rest) f w := by
  have hqk : q ≤ k := by rw [← hq]; exact Nat.min_le_left ..
  cases hA : A with
  | none =>
    have hm0 : m = 0 := by
      rcases Nat.eq_zero_or_pos m with h0 | h0
      · exact h0
      · have := hO.rd.some h0; rw [hA] at this; cases this
    obtain rfl : q = 0 := by omega
    obtain rfl : l = 0 := by omega
    subst hA
    have hc : cutA (none : Option Addr) c 0 sz = none := by unfold cutA; split <;> rfl
    rw [hc] at hx
    have hL : L.take 0 ++ L2.take 0 ++ L.drop (0 + 0) = L := by simp
    obtain ⟨i, hi, hz, hsz, hby⟩ := ht.parts
    refine SR.run (v := .int .i64 (0 : Nat)) (w' := w) ?_ rfl rfl (h w (Kp.refl _) (by rw [hL]; exact hO))
    cases A2 <;> simp [execOp, resolve, invoke, builtin, hx, hy, Builtin.copy_, run_underlying ht.1, Builtin.lenOf, hq, sizeOf, typeInfo, hi, Builtin.firstCells, loadCells, loadCellsFrom, goInt]
  | some a =>
    obtain ⟨g, cs, hg, hRw, htk, hmc⟩ := hO.raw (by rw [hA]; rfl)
    rw [hg] at hx
    have hL2l : (L2.take q).length = q := by rw [List.length_take, ← hR.len]; omega
    refine SR.copyR ht hx hy hRw hq (by omega) (vs := (L2.take q).flatMap enc) (by rw [flat_len hR.esz, hL2l]) (fun h0 j u hu => ?_) (fun h0 => hR.some (by omega)) (fun u hu => ?_) fun w' hk hR' => h w' (hk.sub fun b hb => by rw [hg, hb]) ?_
    · refine hR.flat j u ?_
      rw [← flat_take hR.esz L2 q (by rw [← hR.len]; omega), List.getElem?_take] at hu
      split at hu
      · exact hu
      · cases hu
    · obtain ⟨q', _, hu⟩ := List.mem_flatMap.1 hu
      exact List.all_eq_true.1 (h1 q') u hu
    · rw [hg]
      have hlen := hO.len
      exact hR'.own hmc (by rw [List.length_append, List.length_append, List.length_take, hL2l, List.length_drop]; omega) hO.esz (spl_flat hO.esz hO.len hL2l.symm hlm htk)
theorem r_cap {d : Option Tmp} {gg : Option (Nat × Bool)} {m : Nat} (ht : P.underlying t = some (.slice e)) (hx : ev n f x = .slice A m c) : Run P ⟨d, .call ⟨.builtin .cap, #[x], #[t]⟩, ty, p, af, gg⟩ n f w (.int .i64 c) := by
  simp [Run, execOp, resolve, invoke, builtin, Builtin.cap_, hx, run_underlying ht, goInt]
theorem zero_flat {zx : α} (hzx : z.cells = (enc zx).toArray) (he : ∀ x, (enc x).length = sz) (hpos : 0 < sz) (k : Nat) : (Builtin.zeroCells z.cells k).toList = (List.replicate k zx).flatMap enc := by
  have := flat_rep z zx hzx he hpos k
  have hs : z.cells.size = sz := by rw [hzx]; simpa using he zx
  rw [← this]
  unfold Builtin.zeroCells madeCells
  rw [hs]
/-- append(s, make(..)...) where there is no room. -/
theorem SR.appZ {d m k : Nat} {zx : α} {tn : TypeId} {kn : IntKind} (ht : TEl P t e z sz by_) (htn : P.underlying tn = some (.int kn)) (hzx : z.cells = (enc zx).toArray) (hx : ev n f x = .slice A m c) (hy : ev n f y = .int .i64 k) (hO : SlO w base enc sz e A m c L)
    (hk : 0 < k) (hg : c < m + k) (hb : (m + k) * by_ ≤ 140737488355328) (h63 : m + k ≤ 9223372036854775807)
    (h : ∀ g c' w', g = w.heap.size → Lo w w' → SlO w' w.heap.size enc sz e (some ⟨g, 0, none⟩) (m + k) c' (L ++ List.replicate k zx) → SR P ops N R X n rest (set f d (.slice (some ⟨g, 0, none⟩) (m + k) c')) w') :
    SR P ops N R X n (⟨some d, .call ⟨.builtin .append, #[x, y], #[t, tn]⟩, ty, p, af, none⟩ :: rest) f w := by
  obtain ⟨i, hi, hz, hsz, hby⟩ := ht.parts
  have hpos := ht.2.2.2
  have hcap := hO.rd.cap
  have hfl : (L.flatMap enc).length = m * sz := by rw [flat_len hO.esz, ← hO.len]
  have hold : (Builtin.firstCells i.size m (.slice A m c)).run P w.drew = .ok (L.flatMap enc).toArray w.drew := by
    cases A with
    | none =>
      have hm0 : m = 0 := by
        rcases Nat.eq_zero_or_pos m with h0 | h0
        · exact h0
        · have := hO.rd.some h0; cases this
      have hL : L = [] := List.eq_nil_of_length_eq_zero (by rw [← hO.len, hm0])
      subst hL
      simp [Builtin.firstCells]
    | some a =>
      have := run_loadCells_list (P := P) w.drew a (L.flatMap enc) (fun j u hu => hO.rd.flat j u hu)
      rw [hfl] at this
      simp [Builtin.firstCells, hsz, this]
  have hrun := Go.Lib.run_append_grow_zeros (P := P) w t tn ty e i z .i64 kn ht.1 htn hi hz A m c (L.flatMap enc) hold k hk (by omega) hg (by omega)
    (by rw [hby]; have : k * by_ ≤ (m + k) * by_ := Nat.mul_le_mul_right _ (by omega); omega) (growslice_fits hg (by rw [hby]; exact hb))
  have hge := grownCap_ge w (m + k) c e
  have hmx := grownCap_le_maxLen w (m + k) c e (by unfold maxLen; omega)
  refine SR.run (v := .slice (some ⟨w.heap.size, 0, none⟩) (m + k) (grownCap w (m + k) c e)) (w' := w.drew.alloc (.cells ((L.flatMap enc).toArray ++ Builtin.zeroCells z.cells k ++ Builtin.zeroCells z.cells (grownCap w (m + k) c e - (m + k))) e)) ?_ rfl rfl (h _ _ _ rfl ((Lo.drew w).trans (Lo.alloc _ _)) ?_)
  · simp [execOp, resolve, invoke, builtin, hx, hy, hrun]
  · refine Rw.own (cs := L.flatMap enc ++ (Builtin.zeroCells z.cells k).toList ++ (Builtin.zeroCells z.cells (grownCap w (m + k) c e - (m + k))).toList) ⟨?_, ?_, Nat.le_refl _, hmx, ?_⟩ hge (by rw [List.length_append, List.length_replicate, ← hO.len]) hO.esz ?_
    · have := heap_alloc_new w.drew (.cells ((L.flatMap enc).toArray ++ Builtin.zeroCells z.cells k ++ Builtin.zeroCells z.cells (grownCap w (m + k) c e - (m + k))) e)
      refine this.trans (congrArg (fun q => some (Obj.cells q e (0, 0))) ?_)
      apply Array.ext'
      simp
    · rw [List.length_append, List.length_append, hfl, zero_flat hzx hO.esz hpos, zero_flat hzx hO.esz hpos, flat_len hO.esz, flat_len hO.esz, List.length_replicate, List.length_replicate, ← Nat.add_mul, ← Nat.add_mul]
      congr 1; omega
    · simp
    · rw [zero_flat hzx hO.esz hpos, ← List.flatMap_append]
      exact List.take_left' (by rw [flat_len hO.esz, List.length_append, List.length_replicate, ← hO.len])
theorem ins_grow {α : Type} {L V : List α} {nL nV i : Nat} {z : α} {k : Nat} (hl : nL = L.length) (hv : nV = V.length) (hi : i ≤ nL) (hk : k = nL + nV - i) :
    ((L.take i ++ List.replicate k z).take i ++ V.take nV ++ (L.take i ++ List.replicate k z).drop (i + nV)).take (i + nV) ++ (L.drop i).take (nL - i) ++ ((L.take i ++ List.replicate k z).take i ++ V.take nV ++ (L.take i ++ List.replicate k z).drop (i + nV)).drop (i + nV + (nL - i)) = L.take i ++ V ++ L.drop i := by
  have h1 : (L.take i).length = i := by rw [List.length_take]; omega
  have h2 : (L.take i ++ List.replicate k z).take i = L.take i := List.take_left' h1
  have h3 : V.take nV = V := List.take_of_length_le (by omega)
  have h4 : (L.drop i).take (nL - i) = L.drop i := List.take_of_length_le (by rw [List.length_drop]; omega)
  have h6 : (L.take i ++ V ++ (L.take i ++ List.replicate k z).drop (i + nV)).drop (i + nV + (nL - i)) = [] :=
    List.drop_of_length_le (by simp only [List.length_append, List.length_drop, List.length_replicate, List.length_take]; omega)
  rw [h2, h3, h4, h6, List.append_nil, List.take_left' (by rw [List.length_append, h1, hv])]
theorem ins_end {α : Type} {L V : List α} {n i : Nat} (hl : n = L.length) (h : n ≤ i) : L ++ V = L.take (i : Int).toNat ++ V ++ L.drop (i : Int).toNat := by
  rw [Int.toNat_natCast, List.take_of_length_le (by omega), List.drop_of_length_le (by omega), List.append_nil]
/-- slices.overlaps at two blocks. -/
def Ovl (P : Program) (k : FuncId) (tS tR : TypeId) : Prop := ∀ args w, (callFunc k args).run P w = ((Extern.SlicesOverlaps.overlaps #[tS, tS] #[tR] args).run P w).andThen fun v w' => .ok (.value v) w'
theorem SR.over {d : Nat} {k : FuncId} {tR : TypeId} {ts : Array TypeId} {gv m cv lb cb l cV : Nat} {curV : Array Value} {eV : TypeId} (hk : Ovl P k t tR) (ht : TEl P t e z sz by_) (hx : ev n f x = .slice (some ⟨gv, 0, none⟩) m cv) (hy : ev n f y = .slice (cutA (some ⟨g, 0, none⟩) cV l sz) lb cb)
    (hne : gv ≠ g) (hv : w.heap[gv]? = some (.cells curV eV (0, 0))) (hR : Rw w base sz e g c cs) (hc : 0 < c)
    (h : SR P ops N R X n rest (set f d (.bool false)) w) :
    SR P ops N R X n (⟨some d, .call ⟨.value (.func k), #[x, y], ts⟩, ty, p, af, none⟩ :: rest) f w := by
  obtain ⟨o, ho, _⟩ := cutA_some g cV l sz
  rw [ho] at hy
  obtain ⟨i, hi, hz, hsz, hby⟩ := ht.parts
  have hpos := ht.2.2.2
  have hov := Go.Lib.run_overlaps_apart (P := P) w t tR e ht.1 sz (fun w => by simp [sizeOf, typeInfo, hi, hsz]) ⟨gv, 0, none⟩ ⟨g, o, none⟩ m cv lb cb hne eV e curV.size (c * sz)
    (by simp [World.shape?, hv]) (by simp [World.shape?, hR.heap, hR.len]) (by have := Nat.mul_pos hc hpos; omega) (by simp [World.frozen?, hv]) (by simp [World.frozen?, hv])
  have hr := hk #[.slice (some ⟨gv, 0, none⟩) m cv, .slice (some ⟨g, o, none⟩) lb cb] w
  rw [hov] at hr
  refine SR.run (v := .bool false) (w' := w) ?_ rfl rfl h
  simp only [Result.andThen] at hr
  simp [execOp, resolve, Deferred.ofValue, invoke, hx, hy, hr, show ev n f (.func k) = .func (.func k) #[] #[] from rfl]
end
end Go.Proofs.YtnbbfokkpkphoaaGreatDoor.Fw
