/- Strings: their bytes, their parts; the bytes of a string; a string of bytes. -/
import Derived.Test.YtnbbfokkpkphoaaGreatDoorFm
import Derived.Test.YtnbbfokkpkphoaaGreatDoorFt
import Derived.Lib.ConvBytes
import Derived.Laws.BytesString
import Derived.Laws.AppendOwn
namespace Go.Proofs.YtnbbfokkpkphoaaGreatDoor.Fw
open Go Go.RowKit

section
variable {P : Program} {n : Nat} {f : Env} {w : World} {d : Option Tmp} {t : TypeId} {p : String} {af : Array Edge} {g : Option (Nat × Bool)} {x y a b : Operand} {tx ty : TypeId} {s : List UInt8} {z zl zh : Int} {k k' : IntKind} {i l h : Nat}
theorem bytes_get (s : List UInt8) (i : Nat) : (⟨s.toArray⟩ : ByteArray)[i]? = s[i]? := by
  by_cases hi : i < s.length
  · rw [getElem?_pos (⟨s.toArray⟩ : ByteArray) i hi, List.getElem?_eq_getElem hi]; rfl
  · rw [getElem?_neg (⟨s.toArray⟩ : ByteArray) i hi, List.getElem?_eq_none (by omega)]
/-- A byte of a string. -/
theorem r_idxS (ht : P.underlying tx = some .string) (hx : ev n f x = str s) (hy : ev n f y = .int k z) (hz : z = (i : Int)) (hi : i < s.length) :
    Run P ⟨d, .index tx x y, t, p, af, g⟩ n f w (.int .u8 ((gt s i).toNat : Int)) := by
  subst hz
  have h2 : gt s i = s[i] := gt_eq (List.getElem?_eq_getElem hi)
  unfold Run
  rw [h2]
  simp [execOp, hx, hy, str, Instr.index, asIntOf, run_underlying ht, bytes_get, List.getElem?_eq_getElem hi]
theorem extract_mk (s : List UInt8) (l h : Nat) : ByteArray.extract ⟨s.toArray⟩ l h = ⟨((s.drop l).take (h - l)).toArray⟩ := ByteArray.extract_mk s l h
/-- Parts of a string. -/
theorem r_cutS (ht : P.underlying tx = some .string) (hx : ev n f x = str s) (ha : ev n f a = .int k zl) (hb : ev n f b = .int k' zh) (hzl : zl = (l : Int)) (hzh : zh = (h : Int)) (hl : l ≤ h) (hh : h ≤ s.length) :
    Run P ⟨d, .slice tx x (some a) (some b) none, t, p, af, g⟩ n f w (str ((s.drop l).take (h - l))) := by
  subst hzl hzh
  have h1 : (l : Int) ≤ (h : Int) := by omega
  have h2 : (h : Int) ≤ (s.length : Int) := by omega
  unfold Run
  simp [execOp, hx, ha, hb, str, Instr.sliceAt, Instr.slice, run_underlying ht, Instr.sliceBounds, Instr.sliceBound, asIntOf, hl, hh, size_mk, extract_mk]
theorem r_cut0S (ht : P.underlying tx = some .string) (hx : ev n f x = str s) (ha : ev n f a = .int k 0) (hb : ev n f b = .int k' zh) (hzh : zh = (h : Int)) (hh : h ≤ s.length) :
    Run P ⟨d, .slice tx x (some a) (some b) none, t, p, af, g⟩ n f w (str (s.take h)) := by
  have := r_cutS (P := P) (n := n) (f := f) (w := w) (d := d) (t := t) (p := p) (af := af) (g := g) (l := 0) ht hx ha hb rfl hzh (Nat.zero_le _) hh
  simpa using this
theorem r_cutlS (ht : P.underlying tx = some .string) (hx : ev n f x = str s) (ha : ev n f a = .int k zl) (hzl : zl = (l : Int)) (hl : l ≤ s.length) :
    Run P ⟨d, .slice tx x (some a) none none, t, p, af, g⟩ n f w (str (s.drop l)) := by
  subst hzl
  have e : (s.drop l).take (s.length - l) = s.drop l := List.take_of_length_le (by simp)
  unfold Run
  simp [execOp, hx, ha, str, Instr.sliceAt, Instr.slice, run_underlying ht, Instr.sliceBounds, Instr.sliceBound, asIntOf, hl, size_mk, extract_mk, e]
theorem r_cuthS (ht : P.underlying tx = some .string) (hx : ev n f x = str s) (hb : ev n f b = .int k' zh) (hzh : zh = (h : Int)) (hh : h ≤ s.length) :
    Run P ⟨d, .slice tx x none (some b) none, t, p, af, g⟩ n f w (str (s.take h)) := by
  subst hzh
  unfold Run
  simp [execOp, hx, hb, str, Instr.sliceAt, Instr.slice, run_underlying ht, Instr.sliceBounds, Instr.sliceBound, asIntOf, hh, size_mk, extract_mk]
end

/-- A byte out of a number. -/
def bw (z : Int) : UInt8 := UInt8.ofNat (z % 256).toNat
theorem bw_val (z : Int) : ((bw z).toNat : Int) = IntKind.u8.wrap z := by
  unfold bw
  rw [UInt8.toNat_ofNat']
  simp only [IntKind.wrap_u8]
  omega
section
variable {P : Program} {n : Nat} {f : Env} {w : World} {d : Option Tmp} {s t u tx ty : TypeId} {p : String} {af : Array Edge} {g : Option (Nat × Bool)} {x y : Operand} {z z2 : Int} {k : IntKind}
theorem r_convB (ht : P.underlying t = some (.int .u8)) (hs : P.underlying s = some (.int k)) (hx : ev n f x = .int k z) : Run P ⟨d, .convert s t x, u, p, af, g⟩ n f w (.int .u8 ((bw z).toNat : Int)) := by
  rw [bw_val]; exact r_conv ht hs hx
theorem r_subB (hx : ev n f x = .int .u8 z) (hy : ev n f y = .int .u8 z2) : Run P ⟨d, .binOp .sub tx x y ty, t, p, af, g⟩ n f w (.int .u8 ((bw (z - z2)).toNat : Int)) := by
  rw [bw_val]; exact r_subW hx hy
end
theorem u8_le (x : UInt8) : (x.toNat : Int) ≤ 255 := by have := UInt8.toNat_lt x; omega
@[reducible] def encB (x : UInt8) : List Value := [.int .u8 (x.toNat : Int)]
section
variable {P : Program} {ops : Array Oper} {N R : Act → World → Prop} {X : Nat → Act → World → Prop} {n : Nat} {rest : List Oper} {f : Env} {w : World} {d : Nat} {t e src ty : TypeId} {p : String} {af : Array Edge} {x : Operand} {s L : List UInt8} {A : Option Addr} {B m c : Nat} {g : Option (Nat × Bool)}
/-- The bytes of a string: a block of their own. -/
theorem bytes_lo (w : World) (e : TypeId) (s : ByteArray) : Lo w (Lib.bytesWorld w e s) := by
  refine ⟨?_, ?_, ?_, ?_, fun k hk _ => Lib.bytesWorld_at_old w e s k hk⟩
  · simp [Lib.bytesWorld, World.freeze, World.alloc, World.drew, -World.alloc_eq, -World.drew_eq]
  · simp [Lib.bytesWorld, World.freeze, World.alloc, World.drew, -World.alloc_eq, -World.drew_eq]
  · simp [Lib.bytesWorld, World.freeze, World.alloc, World.drew, -World.alloc_eq, -World.drew_eq]
  · rw [Lib.bytesWorld_size]; omega
theorem bytes_sl (w : World) (e : TypeId) (s : List UInt8) (h : (s.length : Int) ≤ 281474976710656) : SlR (Lib.bytesWorld w e ⟨s.toArray⟩) (Lib.bytesWorld w e ⟨s.toArray⟩).heap.size encB 1 (some ⟨w.heap.size, 0, none⟩) s.length (grownCap w s.length 0 e) s := by
  have hml : s.length ≤ maxLen := by unfold maxLen; omega
  refine ⟨rfl, grownCap_ge _ _ _ _, grownCap_le_maxLen _ _ _ _ hml, Nat.le_refl _, fun _ => rfl, fun _ => rfl, fun _ => ?_, fun i b hi j u hu => ?_⟩
  · show w.heap.size < _
    rw [Lib.bytesWorld_size]; omega
  · have hlt := (List.getElem?_eq_some_iff.1 hi).1
    have hj : j = 0 := by
      rcases j with _ | j
      · rfl
      · simp [encB] at hu
    subst hj
    have hu' : u = .int .u8 (b.toNat : Int) := by simpa [encB] using hu.symm
    subst hu'
    show (Lib.bytesWorld w e ⟨s.toArray⟩).cell? ((⟨w.heap.size, 0, none⟩ : Addr).add (i * 1 + 0)) = _
    rw [add_at, Lib.bytesWorld_cell w e ⟨s.toArray⟩ _ (by show _ < s.length; omega)]
    simp [hi]
theorem SR.bytes (hs : P.underlying src = some .string) (hd : P.underlying t = some (.slice e)) (he : P.underlying e = some (.int .u8)) (hx : ev n f x = str s) (hb : (s.length : Int) ≤ 281474976710656)
    (h : ∀ g c w', g = w.heap.size → Lo w w' → SlR w' w'.heap.size encB 1 (some ⟨g, 0, none⟩) s.length c s → SR P ops N R X n rest (set f d (.slice (some ⟨g, 0, none⟩) s.length c)) w') :
    SR P ops N R X n (⟨some d, .convert src t x, ty, p, af, none⟩ :: rest) f w := by
  refine SR.run (w' := Lib.bytesWorld w e ⟨s.toArray⟩) (v := .slice (some ⟨w.heap.size, 0, none⟩) s.length (grownCap w s.length 0 e)) ?_ rfl rfl (h _ _ _ rfl (bytes_lo _ _ _) (bytes_sl w e s hb))
  have := Lib.run_convert_string_bytes (P := P) w src t e ⟨s.toArray⟩ hs hd he
  simp only [execOp, hx, str, Sem.run_bind, this]
  rfl
/-- The bytes of a string as they may be written. -/
structure BytO (w : World) (g e c : Nat) (s : List UInt8) : Prop where
  cap : s.length ≤ c
  max : c ≤ maxLen
  row : ∃ cs : Array Value, w.heap[g]? = some (.cells cs e (cs.size, cs.size + 1)) ∧ cs.size = c ∧ ∀ (j : Nat) (b : UInt8), s[j]? = some b → cs[j]? = some (Value.int .u8 (b.toNat : Int))
theorem BytO.lt {c : Nat} {g : Nat} {e : TypeId} {s : List UInt8} {w : World} (h : BytO w g e c s) : g < w.heap.size := by
  obtain ⟨cs, h1, _⟩ := h.row
  rcases Nat.lt_or_ge g w.heap.size with h' | h'
  · exact h'
  · rw [Array.getElem?_eq_none h'] at h1; cases h1
theorem BytO.kp {c g : Nat} {e : TypeId} {s : List UInt8} {w w' : World} {S : Nat → Prop} (h : BytO w g e c s) (k : Kp S w w') (hS : ¬ S g) : BytO w' g e c s := by
  obtain ⟨cs, h1, h2, h3⟩ := h.row
  exact ⟨h.cap, h.max, cs, (k.block g h.lt hS).trans h1, h2, h3⟩
theorem BytO.lo {c g : Nat} {e : TypeId} {s : List UInt8} {w w' : World} (h : BytO w g e c s) (k : Lo w w') : BytO w' g e c s := h.kp k id
theorem BytO.slr {c g : Nat} {e : TypeId} {s : List UInt8} {w : World} (h : BytO w g e c s) : SlR w w.heap.size encB 1 (some ⟨g, 0, none⟩) s.length c s := by
  obtain ⟨cs, h1, h2, h3⟩ := h.row
  refine ⟨rfl, h.cap, h.max, Nat.le_refl _, fun _ => rfl, fun _ => rfl, fun _ => h.lt, fun i b hi j u hu => ?_⟩
  have hj : j = 0 := by
    rcases j with _ | j
    · rfl
    · simp [encB] at hu
  subst hj
  have hu' : u = .int .u8 (b.toNat : Int) := by simpa [encB] using hu.symm
  subst hu'
  show w.cell? ((⟨g, 0, none⟩ : Addr).add (i * 1 + 0)) = _
  rw [add_at]
  simp [World.cell?, h1, h3 i b hi]
theorem bytes_o (w : World) (e : TypeId) (s : List UInt8) (h : (s.length : Int) ≤ 281474976710656) : BytO (Lib.bytesWorld w e ⟨s.toArray⟩) w.heap.size e (grownCap w s.length 0 e) s := by
  have hml : s.length ≤ maxLen := by unfold maxLen; omega
  have hge := grownCap_ge w s.length 0 e
  have hsz : (Lib.bytesCells w e ⟨s.toArray⟩).size = grownCap w s.length 0 e := by simp [Lib.bytesCells, size_mk]; omega
  refine ⟨hge, grownCap_le_maxLen _ _ _ _ hml, Lib.bytesCells w e ⟨s.toArray⟩, Lib.bytesWorld_at_new w e ⟨s.toArray⟩, hsz, fun j b hj => ?_⟩
  have hlt := (List.getElem?_eq_some_iff.1 hj).1
  simp [Lib.bytesCells, Array.getElem?_append, hlt]
  have := (List.getElem?_eq_some_iff.1 hj).2
  rw [this]
theorem SR.bytesO (hs : P.underlying src = some .string) (hd : P.underlying t = some (.slice e)) (he : P.underlying e = some (.int .u8)) (hx : ev n f x = str s) (hb : (s.length : Int) ≤ 281474976710656)
    (h : ∀ g c w', g = w.heap.size → Lo w w' → SlR w' w'.heap.size encB 1 (some ⟨g, 0, none⟩) s.length c s → BytO w' g e c s → SR P ops N R X n rest (set f d (.slice (some ⟨g, 0, none⟩) s.length c)) w') :
    SR P ops N R X n (⟨some d, .convert src t x, ty, p, af, none⟩ :: rest) f w := by
  refine SR.run (w' := Lib.bytesWorld w e ⟨s.toArray⟩) (v := .slice (some ⟨w.heap.size, 0, none⟩) s.length (grownCap w s.length 0 e)) ?_ rfl rfl (h _ _ _ rfl (bytes_lo _ _ _) (bytes_sl w e s hb) (bytes_o w e s hb))
  have := Lib.run_convert_string_bytes (P := P) w src t e ⟨s.toArray⟩ hs hd he
  simp only [execOp, hx, str, Sem.run_bind, this]
  rfl
theorem SR.storeB {g2 i : Nat} {b : UInt8} {a : Addr} {t' : TypeId} {y : Operand} (hs : ∀ w, (sizeOf t').run P w = .ok 1 w) (hx : ev n f x = .pointer (some a)) (ha : a = (adr (some (⟨g2, 0, none⟩ : Addr))).add (i * 1)) (hy : ev n f y = .int .u8 (b.toNat : Int)) (hB : BytO w g2 e c s) (hi : i < s.length)
    (h : ∀ w', Kp (fun k => k = g2) w w' → w'.heap.size = w.heap.size → BytO w' g2 e c (s.set i b) → SR P ops N R X n rest f w') :
    SR P ops N R X n (⟨none, .store t' x y, ty, p, af, none⟩ :: rest) f w := by
  obtain ⟨cs, h1, h2, h3⟩ := hB.row
  have hcap := hB.cap
  have ha' : a = ⟨g2, i, none⟩ := by rw [ha]; show (⟨g2, 0, none⟩ : Addr).add _ = _; rw [add_at]; simp
  subst ha'
  have hic : i < cs.size := by omega
  have hcell : w.cell? ⟨g2, i, none⟩ = some cs[i] := by simp [World.cell?, h1, hic]
  have hfro : w.frozen? ⟨g2, i, none⟩ = false := by simp [World.frozen?, h1]; omega
  have hst : (Go.store (⟨g2, i, none⟩ : Addr) (.int .u8 (b.toNat : Int))).run P w = .ok () (w.setRow g2 (cs.setIfInBounds i (.int .u8 (b.toNat : Int)))) := by
    rw [run_store P w _ _ _ rfl, hcell]
    simp [hfro, setCell_eq_setRow w g2 i cs e (cs.size, cs.size + 1) _ h1]
  have hadd : (⟨g2, i, none⟩ : Addr).add 0 = ⟨g2, i, none⟩ := by rw [add_at]; simp
  have hsc : (Go.storeCells (⟨g2, i, none⟩ : Addr) [.int .u8 (b.toNat : Int)]).run P w = .ok () (w.setRow g2 (cs.setIfInBounds i (.int .u8 (b.toNat : Int)))) := by
    simp only [storeCells, Sem.run_bind, hadd, hst]; rfl
  have hrow : (w.setRow g2 (cs.setIfInBounds i (.int .u8 (b.toNat : Int)))).heap[g2]? = some (.cells (cs.setIfInBounds i (.int .u8 (b.toNat : Int))) e (cs.size, cs.size + 1)) := setRow_heap w g2 cs _ e _ h1
  refine SR.run_skip (w' := w.setRow g2 (cs.setIfInBounds i (.int .u8 (b.toNat : Int)))) ?_ rfl rfl (h _ ?_ ?_ ?_)
  · have hv' : (Value.int .u8 (b.toNat : Int)).cells.toList = [.int .u8 (b.toNat : Int)] := rfl
    simp [execOp, hx, hy, Instr.storeAt, Instr.sureAddr, storeVar, hs w, Value.cells, hsc]
  · refine ⟨rfl, rfl, rfl, by simp [World.setRow], fun k hk hne => ?_⟩
    have : ¬ g2 = k := fun e => hne e.symm
    simp [World.setRow, Array.getElem?_modify, this]
  · simp [World.setRow]
  · refine ⟨by simpa using hB.cap, hB.max, cs.setIfInBounds i (.int .u8 (b.toNat : Int)), by simpa using hrow, by simpa using h2, fun j u hj => ?_⟩
    rw [List.getElem?_set] at hj
    by_cases hij : i = j
    · subst hij
      rw [if_pos rfl, if_pos hi] at hj
      obtain rfl := Option.some.inj hj
      simp [hic]
    · rw [if_neg hij] at hj
      rw [Array.getElem?_setIfInBounds_ne hij]; exact h3 j u hj
theorem push_fold : ∀ (L r : List UInt8), ((L.map fun b => (b.toNat : Int)).foldl (fun r n => r.push (UInt8.ofNat n.toNat)) (⟨r.toArray⟩ : ByteArray)) = ⟨(r ++ L).toArray⟩
  | [], r => by simp
  | b :: L, r => by
    simp only [List.map_cons, List.foldl_cons]
    have e : ByteArray.push ⟨r.toArray⟩ (UInt8.ofNat ((b.toNat : Int)).toNat) = ⟨(r ++ [b]).toArray⟩ := by
      apply ByteArray.ext; simp
    rw [e, push_fold L (r ++ [b])]; simp
/-- A string of bytes. -/
theorem r_ofB {d : Option Tmp} (hs : P.underlying src = some (.slice e)) (he : P.underlying e = some (.int .u8)) (hd : P.underlying t = some .string) (hx : ev n f x = .slice A m c) (hL : SlR w B encB 1 A m c L) :
    Run P ⟨d, .convert src t x, ty, p, af, g⟩ n f w (str L) := by
  have h0 : (convert src t (.slice A m c)).run P w = .ok (str L) w := by
    rw [run_convert_bytes_string w src t e A m c hs he hd]
    cases A with
    | none =>
      have : L = [] := by
        rcases Nat.eq_zero_or_pos m with h | h
        · have := hL.len; exact List.eq_nil_of_length_eq_zero (by omega)
        · exact absurd (hL.some h) (by simp)
      subst this; rfl
    | some a =>
      have hc : (loadCells a m).run P w = .ok ((L.map fun b => (b.toNat : Int)).map (Value.int .u8)).toArray w := by
        have := run_loadCells_list (P := P) w a ((L.map fun b => (b.toNat : Int)).map (Value.int .u8)) (fun j u hj => by
          simp only [List.map_map, List.getElem?_map, Option.map_eq_some_iff, Function.comp] at hj
          obtain ⟨b, hb, rfl⟩ := hj
          have := hL.at_ j b hb 0 (.int .u8 (b.toNat : Int)) rfl
          simpa [adr] using this)
        simpa [← hL.len] using this
      rw [run_bytesToString w a m c _ hc]
      have := push_fold L []
      simp only [List.nil_append] at this
      show _ = Result.ok (Value.string _) w
      rw [← this]; rfl
  unfold Run
  simp only [execOp, hx, Sem.run_bind, h0]
  rfl
end
end Go.Proofs.YtnbbfokkpkphoaaGreatDoor.Fw
