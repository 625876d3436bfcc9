/- For every input the law FnExactRunScript returns true, and each argument reads afterwards as it read before. No conditions beyond the row itself. -/
import Derived.Test.YtndcchndcghmoaaGreatDoorRows
import Derived.Test.YtndcchndcghmoaaGreatDoorCards
import Derived.Test.YtndcchndcghmoaaGreatDoorTie
import Derived.ProofKit
import Derived.OpenShut
import Derived.Deep.DeepHandedRow
import Derived.Lib.LaidTab
import Derived.LaidSub
import Derived.SevenTiedAt
import Derived.MakeChecks
import Derived.Stop.LaidErr
import Derived.Shelf.LaysM
import Derived.Test.YtndcchndcghmoaaGreatDoorMExactRunScriptf
namespace Go.Proofs.YtndcchndcghmoaaGreatDoor.fnExactRunScript
open Go Go.RowKit Go.ChangeShapes Go.WideShapes Fw
set_option linter.unusedVariables false
def okAway (x : Away) : Prop := in64 x.Map ∧ in64 x.Reader
def okLMap (x : LMap) : Prop := in64 x.Id ∧ in64 x.Copies ∧ in64 x.Torn
theorem op3 : Opens Tryz.prog 3 encI in64 := opens_int Tryz.underlying3
set_option maxRecDepth 100000 in
theorem op165 : Opens Tryz.prog 165 encLMap okLMap := by
  intro H enc w base spare held fuel cs x h
  obtain ⟨xs, n, _, _, hlen, hl, hg⟩ := DataW.trod_struct Tryz.underlying165 h
  obtain ⟨a0, e0, k0⟩ := field_at hg hl 0 _ rfl rfl rfl (by kernel_rfl : Tryz.prog.cellsOf 3 = 1) op3
  obtain ⟨a1, e1, k1⟩ := field_at hg hl 1 _ rfl rfl rfl (by kernel_rfl : Tryz.prog.cellsOf 3 = 1) op3
  obtain ⟨a2, e2, k2⟩ := field_at hg hl 2 _ rfl rfl rfl (by kernel_rfl : Tryz.prog.cellsOf 3 = 1) op3
  have hlen' : cs.length = 3 := hlen.trans (by kernel_rfl)
  match cs, hlen' with
  | [c0, c1, c2], _ =>
    obtain rfl := (List.cons.inj e0).1
    obtain rfl := (List.cons.inj e1).1
    obtain rfl := (List.cons.inj e2).1
    exact ⟨⟨a0, a1, a2⟩, rfl, ⟨k0, k1, k2⟩⟩
set_option maxRecDepth 100000 in
theorem op167 : Opens Tryz.prog 167 encAway okAway := by
  intro H enc w base spare held fuel cs x h
  obtain ⟨xs, n, _, _, hlen, hl, hg⟩ := DataW.trod_struct Tryz.underlying167 h
  obtain ⟨a0, e0, k0⟩ := field_at hg hl 0 _ rfl rfl rfl (by kernel_rfl : Tryz.prog.cellsOf 3 = 1) op3
  obtain ⟨a1, e1, k1⟩ := field_at hg hl 1 _ rfl rfl rfl (by kernel_rfl : Tryz.prog.cellsOf 3 = 1) op3
  have hlen' : cs.length = 2 := hlen.trans (by kernel_rfl)
  match cs, hlen' with
  | [c0, c1], _ =>
    obtain rfl := (List.cons.inj e0).1
    obtain rfl := (List.cons.inj e1).1
    exact ⟨⟨a0, a1⟩, rfl, ⟨k0, k1⟩⟩
set_option maxRecDepth 100000 in
theorem op25 : ∀ (H : Type) (enc : TypeId × Value → H) (w : World) (base : Nat) (spare : Nat → Bool) (held : Bool) (fuel : Nat) (cs : List Value) (x : DataW H × List MemPlace), DataW.trod enc Tryz.prog w base spare held fuel 25 cs = some x →
    ∃ (A_0 : Option Addr) (n_0 : Nat) (c_0 : Nat) (L_0 : List LMap) (A_1 : Option Addr) (n_1 : Nat) (c_1 : Nat) (L_1 : List Away) (a_2 : Int) (a_3 : Int) (a_4 : Int), cs = [.slice A_0 n_0 c_0, .slice A_1 n_1 c_1, .int .i64 a_2, .int .i64 a_3, .int .i64 a_4] ∧ SlR w w.heap.size encLMap 3 A_0 n_0 c_0 L_0 ∧ SlR w w.heap.size encAway 2 A_1 n_1 c_1 L_1 := by
  intro H enc w base spare held fuel cs x h
  obtain ⟨xs, n, _, _, hlen, hl, hg⟩ := DataW.trod_struct Tryz.underlying25 h
  obtain ⟨A_0, n_0, c_0, L_0, e0, s_0, _⟩ := field_sl hg hl 0 _ rfl rfl rfl (by kernel_rfl : Tryz.prog.cellsOf 22 = 1) (sz := 3) Tryz.underlying22 op165 (by kernel_rfl) (by decide) (fun _ => rfl)
  obtain ⟨A_1, n_1, c_1, L_1, e1, s_1, _⟩ := field_sl hg hl 1 _ rfl rfl rfl (by kernel_rfl : Tryz.prog.cellsOf 23 = 1) (sz := 2) Tryz.underlying23 op167 (by kernel_rfl) (by decide) (fun _ => rfl)
  obtain ⟨a_2, e2, _⟩ := field_at hg hl 2 _ rfl rfl rfl (by kernel_rfl : Tryz.prog.cellsOf 3 = 1) op3
  obtain ⟨a_3, e3, _⟩ := field_at hg hl 3 _ rfl rfl rfl (by kernel_rfl : Tryz.prog.cellsOf 3 = 1) op3
  obtain ⟨a_4, e4, _⟩ := field_at hg hl 4 _ rfl rfl rfl (by kernel_rfl : Tryz.prog.cellsOf 3 = 1) op3
  have hlen' : cs.length = 5 := hlen.trans (by kernel_rfl)
  match cs, hlen' with
  | [z0, z1, z2, z3, z4], _ =>
    obtain rfl := (List.cons.inj (e0)).1
    obtain rfl := (List.cons.inj (e1)).1
    obtain rfl := (List.cons.inj (e2)).1
    obtain rfl := (List.cons.inj (e3)).1
    obtain rfl := (List.cons.inj (e4)).1
    exact ⟨A_0, n_0, c_0, L_0, A_1, n_1, c_1, L_1, a_2, a_3, a_4, rfl, s_0, s_1⟩
theorem op9 : Opens Tryz.prog 9 encS (fun s => s.length ≤ maxLen) := opens_str Tryz.underlying9
set_option maxRecDepth 100000 in
theorem op27 : ∀ (H : Type) (enc : TypeId × Value → H) (w : World) (base : Nat) (spare : Nat → Bool) (held : Bool) (fuel : Nat) (cs : List Value) (x : DataW H × List MemPlace), DataW.trod enc Tryz.prog w base spare held fuel 27 cs = some x →
    ∃ (a_0 : List UInt8) (a_1 : List UInt8) (a_2 : Int), cs = [str a_0, str a_1, .int .i64 a_2] ∧ (a_0.length : Nat) ≤ maxLen ∧ (a_1.length : Nat) ≤ maxLen := by
  intro H enc w base spare held fuel cs x h
  obtain ⟨xs, n, _, _, hlen, hl, hg⟩ := DataW.trod_struct Tryz.underlying27 h
  obtain ⟨a_0, e0, t_0⟩ := field_at hg hl 0 _ rfl rfl rfl (by kernel_rfl : Tryz.prog.cellsOf 9 = 1) op9
  obtain ⟨a_1, e1, t_1⟩ := field_at hg hl 1 _ rfl rfl rfl (by kernel_rfl : Tryz.prog.cellsOf 9 = 1) op9
  obtain ⟨a_2, e2, _⟩ := field_at hg hl 2 _ rfl rfl rfl (by kernel_rfl : Tryz.prog.cellsOf 3 = 1) op3
  have hlen' : cs.length = 3 := hlen.trans (by kernel_rfl)
  match cs, hlen' with
  | [z0, z1, z2], _ =>
    obtain rfl := (List.cons.inj (e0)).1
    obtain rfl := (List.cons.inj (e1)).1
    obtain rfl := (List.cons.inj (e2)).1
    exact ⟨a_0, a_1, a_2, rfl, t_0, t_1⟩
set_option maxRecDepth 100000 in
theorem op29 : ∀ (H : Type) (enc : TypeId × Value → H) (w : World) (base : Nat) (spare : Nat → Bool) (held : Bool) (fuel : Nat) (cs : List Value) (x : DataW H × List MemPlace), DataW.trod enc Tryz.prog w base spare held fuel 29 cs = some x →
    ∃ (A_0_0 : Option Addr) (n_0_0 : Nat) (c_0_0 : Nat) (L_0_0 : List LMap) (A_0_1 : Option Addr) (n_0_1 : Nat) (c_0_1 : Nat) (L_0_1 : List Away) (a_0_2 : Int) (a_0_3 : Int) (a_0_4 : Int) (a_1_0 : List UInt8) (a_1_1 : List UInt8) (a_1_2 : Int), cs = [.slice A_0_0 n_0_0 c_0_0, .slice A_0_1 n_0_1 c_0_1, .int .i64 a_0_2, .int .i64 a_0_3, .int .i64 a_0_4, str a_1_0, str a_1_1, .int .i64 a_1_2] ∧ SlR w w.heap.size encLMap 3 A_0_0 n_0_0 c_0_0 L_0_0 ∧ SlR w w.heap.size encAway 2 A_0_1 n_0_1 c_0_1 L_0_1 ∧ (a_1_0.length : Nat) ≤ maxLen ∧ (a_1_1.length : Nat) ≤ maxLen := by
  intro H enc w base spare held fuel cs x h
  obtain ⟨xs, n, _, _, hlen, hl, hg⟩ := DataW.trod_struct Tryz.underlying29 h
  obtain ⟨y0, hy0⟩ := field_tr hg hl 0 _ rfl rfl rfl (by kernel_rfl : Tryz.prog.cellsOf 25 = 5)
  obtain ⟨A_0_0, n_0_0, c_0_0, L_0_0, A_0_1, n_0_1, c_0_1, L_0_1, a_0_2, a_0_3, a_0_4, e0, s_0_0, s_0_1⟩ := op25 _ _ _ _ _ _ _ _ _ hy0
  obtain ⟨y1, hy1⟩ := field_tr hg hl 1 _ rfl rfl rfl (by kernel_rfl : Tryz.prog.cellsOf 27 = 3)
  obtain ⟨a_1_0, a_1_1, a_1_2, e1, t_1_0, t_1_1⟩ := op27 _ _ _ _ _ _ _ _ _ hy1
  have hlen' : cs.length = 8 := hlen.trans (by kernel_rfl)
  match cs, hlen' with
  | [z0, z1, z2, z3, z4, z5, z6, z7], _ =>
    obtain rfl := (List.cons.inj (e0)).1
    obtain rfl := (List.cons.inj (List.cons.inj e0).2).1
    obtain rfl := (List.cons.inj (List.cons.inj (List.cons.inj e0).2).2).1
    obtain rfl := (List.cons.inj (List.cons.inj (List.cons.inj (List.cons.inj e0).2).2).2).1
    obtain rfl := (List.cons.inj (List.cons.inj (List.cons.inj (List.cons.inj (List.cons.inj e0).2).2).2).2).1
    obtain rfl := (List.cons.inj (e1)).1
    obtain rfl := (List.cons.inj (List.cons.inj e1).2).1
    obtain rfl := (List.cons.inj (List.cons.inj (List.cons.inj e1).2).2).1
    exact ⟨A_0_0, n_0_0, c_0_0, L_0_0, A_0_1, n_0_1, c_0_1, L_0_1, a_0_2, a_0_3, a_0_4, a_1_0, a_1_1, a_1_2, rfl, s_0_0, s_0_1, t_1_0, t_1_1⟩
theorem own : ownKnob Tryz.prog.godebug = none := by kernel_rfl
theorem gTab : Tryz.prog.globalNamed "internal/strconv.uint64pow10" = some 5 := by kernel_rfl
theorem gTabType : (Tryz.prog.globals[5]?).map (·.type) = some 241 := by kernel_rfl
theorem cellsT : Tryz.prog.cellsOf 241 = 20 := by kernel_rfl
theorem cellsE : Tryz.prog.cellsOf 89 = 1 := by kernel_rfl
theorem only : List.filter (fun x : String × DataW Unit => x.1 == "internal/strconv.uint64pow10") Rows.fnExactRunScriptRow.laid = [("internal/strconv.uint64pow10", Lib.tabData .u64 Lib.pow10Tab)] := by kernel_rfl
/-- What the row's list gives. -/
theorem table {W : World} (h : laidMetH Tryz.prog Rows.fnExactRunScriptRow.laid W) : Lib.TabIs Tryz.prog W "internal/strconv.uint64pow10" .u64 Lib.pow10Tab := by
  have h2 := h.filter (fun x => x.1 == "internal/strconv.uint64pow10")
  rw [only] at h2
  exact Lib.tabIs_of_head (rest := []) gTab gTabType Tryz.underlying241 Tryz.underlying89 cellsE cellsT h2
theorem star : "*" ++ "errors.errorString" = "*errors.errorString" := by decide
theorem rowE (u : TypeId) (h : Tryz.prog.typeName? 3 u = some "*errors.errorString") : u = 245 :=
  typeName_ptr_named (nm := "errors.errorString") (by rw [star]; kernel_rfl) (by kernel_rfl) (by decide) u (by rw [star]; exact h)
theorem onlyErrRange : List.filter (fun x : String × DataW Unit => x.1 == "strconv.ErrRange") Rows.fnExactRunScriptRow.laid = [("strconv.ErrRange", .iface "*errors.errorString" (.ptr (.agg [.lit (.string [118, 97, 108, 117, 101, 32, 111, 117, 116, 32, 111, 102, 32, 114, 97, 110, 103, 101])])))] := by kernel_rfl
theorem hasErrRange {W : World} (h : laidMetH Tryz.prog Rows.fnExactRunScriptRow.laid W) : ErrC W 2 := by
  have h2 := h.filter (fun x => x.1 == "strconv.ErrRange")
  rw [onlyErrRange, MakeChecks.laidMetH_plain _ _ _ (by kernel_rfl)] at h2
  have hg : Tryz.prog.globalNamed "strconv.ErrRange" = some 2 := by kernel_rfl
  obtain ⟨a0, s0, hv0, -, -, -⟩ := laid_sentinel h2 hg (by kernel_rfl) Tryz.underlying172 rowE Tryz.underlying245 Tryz.underlying247 rfl rfl Tryz.underlying9 (by kernel_rfl) (by kernel_rfl)
  exact ⟨_, by have h0 := World.var?_cell hg hv0 0; simpa using h0, .inr ⟨_, _, rfl⟩⟩
theorem onlyErrSyntax : List.filter (fun x : String × DataW Unit => x.1 == "strconv.ErrSyntax") Rows.fnExactRunScriptRow.laid = [("strconv.ErrSyntax", .iface "*errors.errorString" (.ptr (.agg [.lit (.string [105, 110, 118, 97, 108, 105, 100, 32, 115, 121, 110, 116, 97, 120])])))] := by kernel_rfl
theorem hasErrSyntax {W : World} (h : laidMetH Tryz.prog Rows.fnExactRunScriptRow.laid W) : ErrC W 1 := by
  have h2 := h.filter (fun x => x.1 == "strconv.ErrSyntax")
  rw [onlyErrSyntax, MakeChecks.laidMetH_plain _ _ _ (by kernel_rfl)] at h2
  have hg : Tryz.prog.globalNamed "strconv.ErrSyntax" = some 1 := by kernel_rfl
  obtain ⟨a0, s0, hv0, -, -, -⟩ := laid_sentinel h2 hg (by kernel_rfl) Tryz.underlying172 rowE Tryz.underlying245 Tryz.underlying247 rfl rfl Tryz.underlying9 (by kernel_rfl) (by kernel_rfl)
  exact ⟨_, by have h0 := World.var?_cell hg hv0 0; simpa using h0, .inr ⟨_, _, rfl⟩⟩
set_option maxRecDepth 100000 in
theorem contract (H : Type) (enc : TypeId × Value → H) (W : World) (base : Nat) (args : Array Value) (ds gs : List (DataW H)) (before : List MemPlace)
    (hval0 : ∀ (j : Nat) t v, Tryz.f4.params[j]? = some t → args[j]? = some v → Value.okWide Tryz.prog W .any base t v)
    (hW : DataW.Whole enc Tryz.prog Tryz.f4.params.toList Rows.fnExactRunScriptSpec.vars false W args.toList ds gs before) (hL : laidMetH Tryz.prog Rows.fnExactRunScriptRow.laid W) (hsh : W.ShapedOpen Tryz.prog) :
    Calls Tryz.prog 4 args W fun e W' => ∃ v, e = .returned v ∧ Rows.fnExactRunScriptSpec.post enc Tryz.prog Tryz.f4 false true false false W args v W' := by
  have hE : EnvW W := ⟨table hL, Go.Proofs.cell_of_shapedOpen_int (zero := #[.int .i64 0]) (t := 3) hsh (of_decide_eq_true (by kernel_rfl)) (by kernel_rfl) rfl (by kernel_rfl) (by kernel_rfl) Tryz.underlying3, hasErrSyntax hL, hasErrRange hL⟩
  have hval : ∀ (j : Nat) t v, Tryz.f4.params[j]? = some t → args[j]? = some v → Value.okWide Tryz.prog W .any base t v := hval0
  have hW' := hW
  obtain ⟨p, q, hA0, hV, rfl, hfz, hnd⟩ := hW'
  have hA : DataW.TrodAll enc Tryz.prog W 0 (fun _ => true) true Tryz.f4.params.toList args.toList ds p := hA0
  rw [Tryz.params4] at hA hval
  obtain ⟨v0, vs0, d0, ds0, p0, q0, hargs, rfl, rfl, h0, r0⟩ := trodAll_cons hA
  obtain ⟨v1, vs1, d1, ds1, p1, q1, rfl, rfl, rfl, h1, r1⟩ := trodAll_cons r0
  obtain ⟨rfl, rfl, rfl⟩ := trodAll_nil r1
  obtain rfl : args = #[v0, v1] := by cases args; simp_all
  obtain ⟨cs0, rfl, _⟩ := okWide_struct Tryz.underlying29 (hval 0 29 v0 rfl rfl)
  obtain ⟨fu0, hf0⟩ := h0
  obtain ⟨A0_0_0, n0_0_0, c0_0_0, L0_0_0, A0_0_1, n0_0_1, c0_0_1, L0_0_1, a0_0_2, a0_0_3, a0_0_4, a0_1_0, a0_1_1, a0_1_2, e0, s0_0_0, s0_0_1, t0_1_0, t0_1_1⟩ := op29 _ _ _ _ _ _ _ _ _ hf0
  obtain rfl : cs0 = (List.toArray [.slice A0_0_0 n0_0_0 c0_0_0, .slice A0_0_1 n0_0_1 c0_0_1, .int .i64 a0_0_2, .int .i64 a0_0_3, .int .i64 a0_0_4, str a0_1_0, str a0_1_1, .int .i64 a0_1_2]) := by rw [← e0]; rfl
  obtain ⟨b1, rfl⟩ := okWide_string Tryz.underlying9 (hval 1 9 v1 rfl rfl)
  obtain ⟨fu1, hf1⟩ := h1
  obtain ⟨a1, e1, ok1⟩ := opens_str Tryz.underlying9 _ _ _ _ _ _ _ _ _ hf1
  obtain rfl : b1 = ⟨a1.toArray⟩ := by simpa [Value.cells, str] using e1
  obtain ⟨rfl, rfl⟩ := trodVars_none hV
  exact (c_laws_FnExactRunScript W (⟨(⟨L0_0_0, L0_0_1, a0_0_2, a0_0_3, a0_0_4⟩ : Library), (⟨a0_1_0, a0_1_1, a0_1_2⟩ : Log)⟩ : Console) s0_0_0 s0_0_1 a1 (by have h1_ := t0_1_0; have h2_ := t0_1_1; unfold maxLen at h1_ h2_; dsimp only; omega) (by have := ok1; unfold maxLen at this; omega) hE).mono fun e W' ⟨he, hk⟩ => ⟨_, he, law_post (by kernel_rfl) (by kernel_rfl) rfl Tryz.underlying4 rfl ⟨rfl, rfl, rfl⟩ hW hk⟩
/-- The first block behind what the program holds. -/
noncomputable def low : Nat := (World.holding Tryz.prog default ⟨#[], #[], []⟩).heap.size
/-- A world for the witness: the settled one, the tables holding what they are laid with. -/
noncomputable def laidWorld (os : Os) : World :=
  { World.holding Tryz.prog os ⟨#[.cells #[.string ⟨#[118, 97, 108, 117, 101, 32, 111, 117, 116, 32, 111, 102, 32, 114, 97, 110, 103, 101]⟩] 247, .cells #[.string ⟨#[105, 110, 118, 97, 108, 105, 100, 32, 115, 121, 110, 116, 97, 120]⟩] 247], #[], []⟩ with heap := ((((((((World.holding Tryz.prog os ⟨#[.cells #[.string ⟨#[118, 97, 108, 117, 101, 32, 111, 117, 116, 32, 111, 102, 32, 114, 97, 110, 103, 101]⟩] 247, .cells #[.string ⟨#[105, 110, 118, 97, 108, 105, 100, 32, 115, 121, 110, 116, 97, 120]⟩] 247], #[], []⟩).heap.modify 6 fun
      | .cells _ t frozen => .cells #[.int .u8 0, .int .u8 1, .int .u8 28, .int .u8 2, .int .u8 29, .int .u8 14, .int .u8 24, .int .u8 3, .int .u8 30, .int .u8 22, .int .u8 20, .int .u8 15, .int .u8 25, .int .u8 17, .int .u8 4, .int .u8 8, .int .u8 31, .int .u8 27, .int .u8 13, .int .u8 23, .int .u8 21, .int .u8 19, .int .u8 16, .int .u8 7, .int .u8 26, .int .u8 12, .int .u8 18, .int .u8 6, .int .u8 11, .int .u8 5, .int .u8 10, .int .u8 9] t frozen
      | o => o).modify 7 fun
      | .cells _ t frozen => .cells #[.int .u8 0, .int .u8 1, .int .u8 56, .int .u8 2, .int .u8 57, .int .u8 49, .int .u8 28, .int .u8 3, .int .u8 61, .int .u8 58, .int .u8 42, .int .u8 50, .int .u8 38, .int .u8 29, .int .u8 17, .int .u8 4, .int .u8 62, .int .u8 47, .int .u8 59, .int .u8 36, .int .u8 45, .int .u8 43, .int .u8 51, .int .u8 22, .int .u8 53, .int .u8 39, .int .u8 33, .int .u8 30, .int .u8 24, .int .u8 18, .int .u8 12, .int .u8 5, .int .u8 63, .int .u8 55, .int .u8 48, .int .u8 27, .int .u8 60, .int .u8 41, .int .u8 37, .int .u8 16, .int .u8 46, .int .u8 35, .int .u8 44, .int .u8 21, .int .u8 52, .int .u8 32, .int .u8 23, .int .u8 11, .int .u8 54, .int .u8 26, .int .u8 40, .int .u8 15, .int .u8 34, .int .u8 20, .int .u8 31, .int .u8 10, .int .u8 25, .int .u8 14, .int .u8 19, .int .u8 9, .int .u8 13, .int .u8 8, .int .u8 7, .int .u8 6] t frozen
      | o => o).modify 5 fun
      | .cells _ t frozen => .cells #[.int .u64 1, .int .u64 10, .int .u64 100, .int .u64 1000, .int .u64 10000, .int .u64 100000, .int .u64 1000000, .int .u64 10000000, .int .u64 100000000, .int .u64 1000000000, .int .u64 10000000000, .int .u64 100000000000, .int .u64 1000000000000, .int .u64 10000000000000, .int .u64 100000000000000, .int .u64 1000000000000000, .int .u64 10000000000000000, .int .u64 100000000000000000, .int .u64 1000000000000000000, .int .u64 10000000000000000000] t frozen
      | o => o).modify 4 fun
      | .cells _ t frozen => .cells #[.int .u8 128, .int .u8 191, .int .u8 160, .int .u8 191, .int .u8 128, .int .u8 159, .int .u8 144, .int .u8 191, .int .u8 128, .int .u8 143, .int .u8 0, .int .u8 0, .int .u8 0, .int .u8 0, .int .u8 0, .int .u8 0, .int .u8 0, .int .u8 0, .int .u8 0, .int .u8 0, .int .u8 0, .int .u8 0, .int .u8 0, .int .u8 0, .int .u8 0, .int .u8 0, .int .u8 0, .int .u8 0, .int .u8 0, .int .u8 0, .int .u8 0, .int .u8 0] t frozen
      | o => o).modify 3 fun
      | .cells _ t frozen => .cells #[.int .u8 240, .int .u8 240, .int .u8 240, .int .u8 240, .int .u8 240, .int .u8 240, .int .u8 240, .int .u8 240, .int .u8 240, .int .u8 240, .int .u8 240, .int .u8 240, .int .u8 240, .int .u8 240, .int .u8 240, .int .u8 240, .int .u8 240, .int .u8 240, .int .u8 240, .int .u8 240, .int .u8 240, .int .u8 240, .int .u8 240, .int .u8 240, .int .u8 240, .int .u8 240, .int .u8 240, .int .u8 240, .int .u8 240, .int .u8 240, .int .u8 240, .int .u8 240, .int .u8 240, .int .u8 240, .int .u8 240, .int .u8 240, .int .u8 240, .int .u8 240, .int .u8 240, .int .u8 240, .int .u8 240, .int .u8 240, .int .u8 240, .int .u8 240, .int .u8 240, .int .u8 240, .int .u8 240, .int .u8 240, .int .u8 240, .int .u8 240, .int .u8 240, .int .u8 240, .int .u8 240, .int .u8 240, .int .u8 240, .int .u8 240, .int .u8 240, .int .u8 240, .int .u8 240, .int .u8 240, .int .u8 240, .int .u8 240, .int .u8 240, .int .u8 240, .int .u8 240, .int .u8 240, .int .u8 240, .int .u8 240, .int .u8 240, .int .u8 240, .int .u8 240, .int .u8 240, .int .u8 240, .int .u8 240, .int .u8 240, .int .u8 240, .int .u8 240, .int .u8 240, .int .u8 240, .int .u8 240, .int .u8 240, .int .u8 240, .int .u8 240, .int .u8 240, .int .u8 240, .int .u8 240, .int .u8 240, .int .u8 240, .int .u8 240, .int .u8 240, .int .u8 240, .int .u8 240, .int .u8 240, .int .u8 240, .int .u8 240, .int .u8 240, .int .u8 240, .int .u8 240, .int .u8 240, .int .u8 240, .int .u8 240, .int .u8 240, .int .u8 240, .int .u8 240, .int .u8 240, .int .u8 240, .int .u8 240, .int .u8 240, .int .u8 240, .int .u8 240, .int .u8 240, .int .u8 240, .int .u8 240, .int .u8 240, .int .u8 240, .int .u8 240, .int .u8 240, .int .u8 240, .int .u8 240, .int .u8 240, .int .u8 240, .int .u8 240, .int .u8 240, .int .u8 240, .int .u8 240, .int .u8 240, .int .u8 240, .int .u8 240, .int .u8 241, .int .u8 241, .int .u8 241, .int .u8 241, .int .u8 241, .int .u8 241, .int .u8 241, .int .u8 241, .int .u8 241, .int .u8 241, .int .u8 241, .int .u8 241, .int .u8 241, .int .u8 241, .int .u8 241, .int .u8 241, .int .u8 241, .int .u8 241, .int .u8 241, .int .u8 241, .int .u8 241, .int .u8 241, .int .u8 241, .int .u8 241, .int .u8 241, .int .u8 241, .int .u8 241, .int .u8 241, .int .u8 241, .int .u8 241, .int .u8 241, .int .u8 241, .int .u8 241, .int .u8 241, .int .u8 241, .int .u8 241, .int .u8 241, .int .u8 241, .int .u8 241, .int .u8 241, .int .u8 241, .int .u8 241, .int .u8 241, .int .u8 241, .int .u8 241, .int .u8 241, .int .u8 241, .int .u8 241, .int .u8 241, .int .u8 241, .int .u8 241, .int .u8 241, .int .u8 241, .int .u8 241, .int .u8 241, .int .u8 241, .int .u8 241, .int .u8 241, .int .u8 241, .int .u8 241, .int .u8 241, .int .u8 241, .int .u8 241, .int .u8 241, .int .u8 241, .int .u8 241, .int .u8 2, .int .u8 2, .int .u8 2, .int .u8 2, .int .u8 2, .int .u8 2, .int .u8 2, .int .u8 2, .int .u8 2, .int .u8 2, .int .u8 2, .int .u8 2, .int .u8 2, .int .u8 2, .int .u8 2, .int .u8 2, .int .u8 2, .int .u8 2, .int .u8 2, .int .u8 2, .int .u8 2, .int .u8 2, .int .u8 2, .int .u8 2, .int .u8 2, .int .u8 2, .int .u8 2, .int .u8 2, .int .u8 2, .int .u8 2, .int .u8 19, .int .u8 3, .int .u8 3, .int .u8 3, .int .u8 3, .int .u8 3, .int .u8 3, .int .u8 3, .int .u8 3, .int .u8 3, .int .u8 3, .int .u8 3, .int .u8 3, .int .u8 35, .int .u8 3, .int .u8 3, .int .u8 52, .int .u8 4, .int .u8 4, .int .u8 4, .int .u8 68, .int .u8 241, .int .u8 241, .int .u8 241, .int .u8 241, .int .u8 241, .int .u8 241, .int .u8 241, .int .u8 241, .int .u8 241, .int .u8 241, .int .u8 241] t frozen
      | o => o).modify 2 fun
      | .cells _ t frozen => .cells #[.iface 245 (.pointer (some ⟨low + 0, 0, none⟩))] t frozen
      | o => o).modify 1 fun
      | .cells _ t frozen => .cells #[.iface 245 (.pointer (some ⟨low + 1, 0, none⟩))] t frozen
      | o => o) }
theorem laid_met (os : Os) : laidMet Tryz.prog Rows.fnExactRunScriptRow.laid ((laidWorld os).forCall (fun _ _ => 0) ⟨#[], #[.agg #[.slice none 0 0, .slice none 0 0, .int .i64 0, .int .i64 0, .int .i64 0, str ([] : List UInt8), str ([] : List UInt8), .int .i64 0], .string ⟨#[]⟩], []⟩).memory :=
  laidMet_of_run' 8 (by kernel_rfl) (by kernel_rfl)
theorem reads (os : Os) {H : Type} (enc : TypeId × Value → H) : ∃ places, DataW.whole enc Tryz.prog ((laidWorld os).forCall (fun _ _ => 0) ⟨#[], #[.agg #[.slice none 0 0, .slice none 0 0, .int .i64 0, .int .i64 0, .int .i64 0, str ([] : List UInt8), str ([] : List UInt8), .int .i64 0], .string ⟨#[]⟩], []⟩).memory Tryz.f4.params.toList Rows.fnExactRunScriptSpec.vars false (#[.agg #[.slice none 0 0, .slice none 0 0, .int .i64 0, .int .i64 0, .int .i64 0, str ([] : List UInt8), str ([] : List UInt8), .int .i64 0], .string ⟨#[]⟩] : Array Value).toList 8 = some ([.agg [.agg [.nil, .nil, .lit (.int .i64 0), .lit (.int .i64 0), .lit (.int .i64 0)], .agg [.lit (.string []), .lit (.string []), .lit (.int .i64 0)]], .lit (.string [])], [], places) :=
  ⟨[], by kernel_rfl⟩
set_option maxRecDepth 100000 in
theorem lifted (os : Os) (started : os.Started) (H : Type) (enc : TypeId × Value → H) (F : Stop.Interp) :
    ReturnsInHanded {} Tryz.checked os 4 .any ((OpenSpec.ofChange Rows.fnExactRunScriptSpec).preRow enc Tryz.prog Tryz.f4 Rows.fnExactRunScriptRow.domain false Rows.fnExactRunScriptRow.laid) (((OpenSpec.ofChange Rows.fnExactRunScriptSpec).at F).post enc Tryz.prog Tryz.f4 false true false false) := by
  obtain ⟨places, hx⟩ := reads os enc
  refine returnsInHanded_of_row (C := Tryz.checked) (s := OpenSpec.ofChange Rows.fnExactRunScriptSpec) own started (by kernel_rfl) Tryz.func4
    (witness_row_at (enc := enc) (C := Tryz.checked) false (laidWorld os) #[.agg #[.slice none 0 0, .slice none 0 0, .int .i64 0, .int .i64 0, .int .i64 0, str ([] : List UInt8), str ([] : List UInt8), .int .i64 0], .string ⟨#[]⟩] rfl (by kernel_rfl) (by kernel_rfl) (by kernel_rfl)
      (OpenSpec.preRow_of_cond 8 hx (by kernel_rfl) (fun k hk => by cases hk) (by kernel_rfl) (laid_met os))) ?_
  intro W base args ds gs before hval hW _ _ _ hL hsh _
  exact contract H enc W base args ds gs before hval hW hL hsh
theorem said : Rows.FnExactRunScriptSaid :=
  OpenClaim.holds_of_cond 4 Tryz.f4 rfl rfl rfl rfl rfl rfl rfl ⟨rfl, rfl, rfl, rfl, rfl⟩ rfl rfl rfl rfl rfl (by kernel_rfl) Tryz.func4 (by kernel_rfl)
    (of_decide_eq_true (by kernel_rfl)) (by unfold Func.isWrapper; first | (rw [if_pos (by decide +kernel)]; kernel_rfl) | (rw [if_neg (by decide +kernel)]; exact ⟨rfl, rfl⟩))
    (fun os started H enc _ F => by rw [OpenClaim.pre_eq_preRow]; exact lifted os started H enc F)
theorem plain (fi : FuncId) (fn : Func) (hf : Tryz.pinned.checked.prog.funcNamed "loop.example/g01060/laws.FnExactRunScript" = some fi) (hfn : Tryz.pinned.checked.prog.funcs[fi]? = some fn) :
    true = Tryz.pinned.checked.prog.looks [] ∧ ∀ (j : Nat) t, fn.params[j]? = some t → Tryz.pinned.checked.prog.wantsStandIn t = false := by
  obtain rfl : fi = 4 := Option.some.inj ((show Tryz.prog.funcNamed "loop.example/g01060/laws.FnExactRunScript" = some 4 by kernel_rfl).symm.trans hf) |>.symm
  obtain rfl : fn = Tryz.f4 := (Option.some.inj (Tryz.func4.symm.trans hfn)).symm
  refine ⟨by kernel_rfl, fun j t ht => ?_⟩
  rw [Tryz.params4] at ht
  have hm : t ∈ [29, 9] := by simpa using Array.mem_of_getElem? ht
  have hall : ([29, 9].all fun u => !Tryz.prog.wantsStandIn u) = true := by kernel_rfl
  exact (show Tryz.prog.wantsStandIn t = false by simpa using List.all_eq_true.1 hall t hm)
theorem proved : Rows.FnExactRunScriptCardSaid :=
  Claim7.holds_tied_plain_at .later [] _ _ _ _ said (fun _ h => by cases h) (by kernel_rfl) (fun _ h => by cases h) fnExactRunScript_row_tie rfl ⟨rfl, rfl⟩ (by kernel_rfl) rfl plain (by kernel_rfl)
end Go.Proofs.YtndcchndcghmoaaGreatDoor.fnExactRunScript
