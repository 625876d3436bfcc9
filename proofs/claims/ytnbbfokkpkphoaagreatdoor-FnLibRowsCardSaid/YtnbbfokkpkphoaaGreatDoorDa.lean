/- Choices read from bytes: the rules that they need. -/
import Derived.Test.YtnbbfokkpkphoaaGreatDoorFt
import Derived.Test.YtnbbfokkpkphoaaGreatDoorFu
import Derived.Test.YtnbbfokkpkphoaaGreatDoorFl
import Derived.Laws.StructEq
import Derived.Handy
namespace Go.Proofs.YtnbbfokkpkphoaaGreatDoor.Fw
open Go Go.RowKit
@[reducible] def pA (g : Nat) : Option Addr := some ⟨g, 0, none⟩
section
variable {P : Program} {n : Nat} {f : Env} {w : World} {d : Option Tmp} {t u tx ty : TypeId} {p : String} {af : Array Edge} {g : Option (Nat × Bool)} {x y : Operand} {a b : Int} {k k2 : IntKind}
theorem r_nilp {a : Addr} (hx : ev n f x = .pointer (some a)) : Run P ⟨d, .nilCheck x, t, p, af, g⟩ n f w (.pointer (some a)) := by
  simp [Run, execOp, hx]
theorem r_shr40 (hx : ev n f x = .int .u64 a) (hy : ev n f y = .int k 40) (_h : 0 ≤ a) : Run P ⟨d, .binOp .shr tx x y u, t, p, af, g⟩ n f w (.int .u64 (a / 1099511627776)) := by
  have e : a.fdiv 1099511627776 = a / 1099511627776 := Int.fdiv_eq_ediv_of_nonneg _ (by omega)
  have eb : min 40 IntKind.u64.bits = 40 := by decide
  simp [Run, execOp, hx, hy, binOp, Op.shift, eqGuard, eb, e]
theorem and255 {a : Int} (h : 0 ≤ a) : ((a.toNat &&& 255 : Nat) : Int) = a % 256 := by
  have : a.toNat &&& 255 = a.toNat % 256 := Nat.and_two_pow_sub_one_eq_mod a.toNat 8
  rw [this]; omega
theorem r_and255 (hx : ev n f x = .int .u64 a) (hy : ev n f y = .int .u64 255) (h : 0 ≤ a ∧ a ≤ 18446744073709551615) : Run P ⟨d, .binOp .and tx x y u, t, p, af, g⟩ n f w (.int .u64 (a % 256)) := by
  have eb : IntKind.u64.bits = 64 := by decide
  have e3 : IntKind.u64.wrap ((a.toNat &&& 255 : Nat) : Int) = a % 256 := by
    rw [and255 h.1, IntKind.wrap_u64]; omega
  simp [Run, execOp, hx, hy, binOp, Op.intBits, eqGuard, eb]
  rw [show a % 18446744073709551616 = a by omega]; exact e3
end
section
variable {P : Program} {fn : Func} {R : Ending → World → Prop} {n : Nat} {f : Env} {w : World}
theorem ret4 {t u s r : Nat} {v v' v'' v''' : Value} (hr : fn.results = #[.tmp t, .tmp u, .tmp s, .tmp r]) (hv : ev n f (.tmp t) = v) (hv' : ev n f (.tmp u) = v') (hv'' : ev n f (.tmp s) = v'') (hv''' : ev n f (.tmp r) = v''') (h : R (.returned (.tuple #[v, v', v'', v'''])) w) : bodyPost P fn R .ret (act n f) w := by
  refine bodyPost_ret (v := .tuple #[v, v', v'', v''']) ?_ rfl h
  have e1 := getD_act n f t
  have e2 := getD_act n f u
  have e3 := getD_act n f s
  have e4 := getD_act n f r
  rw [show cond (Nat.blt t n) (f t) undef = ev n f (.tmp t) from rfl, hv] at e1
  rw [show cond (Nat.blt u n) (f u) undef = ev n f (.tmp u) from rfl, hv'] at e2
  rw [show cond (Nat.blt s n) (f s) undef = ev n f (.tmp s) from rfl, hv''] at e3
  rw [show cond (Nat.blt r n) (f r) undef = ev n f (.tmp r) from rfl, hv'''] at e4
  simp only [Array.getD_eq_getD_getElem?] at e1 e2 e3 e4
  simp [results, hr, e1, e2, e3, e4]
theorem eT4 {a b c d a' b' c' d' : Value} (h1 : a = a') (h2 : b = b') (h3 : c = c') (h4 : d = d') : Value.tuple #[a, b, c, d] = .tuple (List.toArray [a', b', c', d']) := by rw [h1, h2, h3, h4]
theorem retTC {p t m g e u : Nat} {l : List Value} {v : Value} (hr : fn.results = #[.tmp u, .cell p t]) (hu : ev n f (.tmp u) = v) (hp : ev n f (.tmp p) = .pointer (some ⟨g, 0, none⟩)) (ht : TAgg P t m) (hb : Blk w g e l) (hl : l.length = m)
    (h : R (.returned (.tuple #[v, .agg l.toArray])) w) : bodyPost P fn R .ret (act n f) w := by
  refine bodyPost_ret (v := .tuple #[v, .agg l.toArray]) ?_ rfl h
  have e1 := getD_act n f p
  have e2 := getD_act n f u
  rw [show cond (Nat.blt p n) (f p) undef = ev n f (.tmp p) from rfl, hp] at e1
  rw [show cond (Nat.blt u n) (f u) undef = ev n f (.tmp u) from rfl, hu] at e2
  simp only [Array.getD_eq_getD_getElem?] at e1 e2
  simp [results, hr, e1, e2, asAddr, load_cell ht hb hl]
theorem retCC {p t m g e q s k g2 e2 : Nat} {l r : List Value} (hr : fn.results = #[.cell p t, .cell q s]) (hp : ev n f (.tmp p) = .pointer (some ⟨g, 0, none⟩)) (ht : TAgg P t m) (hb : Blk w g e l) (hl : l.length = m)
    (hq : ev n f (.tmp q) = .pointer (some ⟨g2, 0, none⟩)) (ht2 : TAgg P s k) (hb2 : Blk w g2 e2 r) (hl2 : r.length = k) (h : R (.returned (.tuple #[.agg l.toArray, .agg r.toArray])) w) : bodyPost P fn R .ret (act n f) w := by
  refine bodyPost_ret (v := .tuple #[.agg l.toArray, .agg r.toArray]) ?_ rfl h
  have e1 := getD_act n f p
  have e2 := getD_act n f q
  rw [show cond (Nat.blt p n) (f p) undef = ev n f (.tmp p) from rfl, hp] at e1
  rw [show cond (Nat.blt q n) (f q) undef = ev n f (.tmp q) from rfl, hq] at e2
  simp only [Array.getD_eq_getD_getElem?] at e1 e2
  simp [results, hr, e1, e2, asAddr, load_cell ht hb hl, load_cell ht2 hb2 hl2]
end
theorem SlR.kpb {α : Type} {w w' : World} {B sz n c : Nat} {enc : α → List Value} {A : Option Addr} {L : List α} {S : Nat → Prop} (h : SlR w B enc sz A n c L) (k : Kp S w w') (hS : 0 < n → ¬ S (adr A).block) : SlR w' B enc sz A n c L := by
  refine ⟨h.len, h.cap, h.max, Nat.le_trans h.bd k.size, h.esz, h.some, h.blk, fun i x hx j u hu => ?_⟩
  have hn : 0 < n := by have := List.getElem?_eq_some_iff.1 hx |>.1; rw [h.len]; omega
  rw [← h.at_ i x hx j u hu]
  refine World.cell?_of_block (k.block _ ?_ ?_)
  · rw [add_block]; exact Nat.lt_of_lt_of_le (h.blk hn) h.bd
  · rw [add_block]; exact hS hn
section
variable {P : Program} {n : Nat} {f : Env} {w : World} {d : Option Tmp} {t u tx ty : TypeId} {p : String} {af : Array Edge} {g : Option (Nat × Bool)} {x y : Operand} {l r : List Value} {q : Bool}
theorem r_eqA (hx : ev n f x = .agg l.toArray) (hy : ev n f y = .agg r.toArray) (hm : P.eqGuardType P.depth tx = false) (h : ∀ w, (binOp .eql tx (.agg l.toArray) (.agg r.toArray)).run P w = .ok (.bool q) w) : Run P ⟨d, .binOp .eql tx x y ty, t, p, af, g⟩ n f w (.bool q) := by
  simp [Run, execOp, hx, hy, run_eqGuard_agg w _ _ _ _ _ _ hm, h]
theorem r_neA (hx : ev n f x = .agg l.toArray) (hy : ev n f y = .agg r.toArray) (hm : P.eqGuardType P.depth tx = false) (h : ∀ w, (binOp .eql tx (.agg l.toArray) (.agg r.toArray)).run P w = .ok (.bool q) w) : Run P ⟨d, .binOp .neq tx x y ty, t, p, af, g⟩ n f w (.bool (!q)) := by
  have h2 : (binOp .neq tx (.agg l.toArray) (.agg r.toArray)).run P w = .ok (.bool (!q)) w := by
    have h1 := h w
    rw [run_eql_struct] at h1
    rw [run_neq_struct]
    cases he : (Op.equalIn 10000 tx (.agg l.toArray) (.agg r.toArray)).run P w with
    | ok b w' => rw [he] at h1; simp at h1; simp [h1.1, h1.2]
    | halt e w' => rw [he] at h1; simp [Result.andThen] at h1
  simp [Run, execOp, hx, hy, run_eqGuard_agg w _ _ _ _ _ _ hm, h2]
theorem r_eqA_s {α : Type} [DecidableEq α] {a : α} (hx : ev n f x = .agg l.toArray) (hy : ev n f y = .agg r.toArray) (hm : P.eqGuardType P.depth tx = false) (h : ∀ w, (binOp .eql tx (.agg l.toArray) (.agg r.toArray)).run P w = .ok (.bool (decide (a = a))) w) : Run P ⟨d, .binOp .eql tx x y ty, t, p, af, g⟩ n f w (.bool true) := by
  have := r_eqA (P := P) (d := d) (t := t) (p := p) (af := af) (g := g) (tx := tx) (ty := ty) (w := w) hx hy hm h; rwa [decide_eq_true rfl] at this
theorem r_neA_s {α : Type} [DecidableEq α] {a : α} (hx : ev n f x = .agg l.toArray) (hy : ev n f y = .agg r.toArray) (hm : P.eqGuardType P.depth tx = false) (h : ∀ w, (binOp .eql tx (.agg l.toArray) (.agg r.toArray)).run P w = .ok (.bool (decide (a = a))) w) : Run P ⟨d, .binOp .neq tx x y ty, t, p, af, g⟩ n f w (.bool false) := by
  have := r_neA (P := P) (d := d) (t := t) (p := p) (af := af) (g := g) (tx := tx) (ty := ty) (w := w) hx hy hm h; rwa [decide_eq_true rfl] at this
theorem eqin_str {e : TypeId} (h : P.underlying e = some .string) (s r : List UInt8) (w : World) : (Op.equalIn 9999 e (str s) (str r)).run P w = .ok (decide (s = r)) w := by
  rw [show (9999 : Nat) = 9998 + 1 from rfl]; unfold str; rw [run_equalIn_string w 9998 e _ _ h, str_eq]
end
theorem SlO.apart {α : Type} {w : World} {base sz e n c g : Nat} {enc : α → List Value} {A : Option Addr} {L : List α} (h : SlO w base enc sz e A n c L) (hd : ¬ A = some ⟨g, 0, none⟩) (h0 : 0 < n) : ¬ (adr A).block = g := by
  rcases h.row.2 with ⟨_, hn⟩ | ⟨b, cap, cur, hv, -⟩
  · omega
  · injection hv with h1 h2 h3
    subst h1
    intro hb
    exact hd (by rw [show b = g from hb])
theorem mem_le {L : List (List UInt8)} {n : Nat} (h : L.all (fun x => decide (x.length ≤ n)) = true) {v : List UInt8} (hv : v ∈ L) : v.length ≤ n := by
  have := List.all_eq_true.1 h v hv
  simpa using this
theorem mem_rng {L : List Int} (h : L.all (fun x => decide (-1000000000 ≤ x ∧ x ≤ 1000000000)) = true) {v : Int} (hv : v ∈ L) : -1000000000 ≤ v ∧ v ≤ 1000000000 := by
  have := List.all_eq_true.1 h v hv
  simpa using this
theorem mem_rngB {L : List Int} {lo hi : Int} (h : L.all (fun x => decide (lo ≤ x ∧ x ≤ hi)) = true) {v : Int} (hv : v ∈ L) : lo ≤ v ∧ v ≤ hi := by
  have := List.all_eq_true.1 h v hv
  simpa using this
theorem opens_byte {P : Program} {t : TypeId} (ht : P.underlying t = some (.int .u8)) : Opens P t encB (fun _ => True) := by
  intro H enc w base spare held fuel cs x h
  obtain ⟨n, rfl, _, hw⟩ := DataW.trod_int ht h
  have hn : 0 ≤ n ∧ n ≤ 255 := by simpa [Lit.wf, IntKind.min, IntKind.max, IntKind.signed, IntKind.bits] using hw
  refine ⟨UInt8.ofNat n.toNat, ?_, trivial⟩
  have e : ((UInt8.ofNat n.toNat).toNat : Int) = n := by rw [UInt8.toNat_ofNat']; omega
  show [Value.int .u8 n] = [Value.int .u8 ((UInt8.ofNat n.toNat).toNat : Int)]
  rw [e]
end Go.Proofs.YtnbbfokkpkphoaaGreatDoor.Fw
