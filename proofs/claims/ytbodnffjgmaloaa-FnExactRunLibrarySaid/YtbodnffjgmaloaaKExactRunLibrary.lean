/- For every input the law FnExactRunLibrary returns true, and each argument reads afterwards as it read before. No conditions beyond the row itself. -/
import Derived.Test.YtbodnffjgmaloaaRows
import Derived.Test.YtbodnffjgmaloaaFl
import Derived.Test.YtbodnffjgmaloaaG32p
namespace Go.Proofs.Ytbodnffjgmaloaa.fnExactRunLibrary
open Go Go.RowKit Go.ChangeShapes Go.WideShapes Fw
set_option linter.unusedVariables false
def okAway (x : Away) : Prop := in64 x.Map ∧ in64 x.Reader
def okLMap (x : LMap) : Prop := in64 x.Id ∧ in64 x.Copies ∧ in64 x.Torn
def okLibraryStep (x : LibraryStep) : Prop := in64 x.Kind ∧ in64 x.Id ∧ in64 x.Reader ∧ in64 x.Value
theorem op3 : Opens Try.prog 3 encI in64 := opens_int Try.underlying3
set_option maxRecDepth 100000 in
theorem op100 : Opens Try.prog 100 encLMap okLMap := by
  intro H enc w base spare held fuel cs x h
  obtain ⟨xs, n, _, _, hlen, hl, hg⟩ := DataW.trod_struct Try.underlying100 h
  obtain ⟨a0, e0, k0⟩ := field_at hg hl 0 _ rfl rfl rfl (by kernel_rfl : Try.prog.cellsOf 3 = 1) op3
  obtain ⟨a1, e1, k1⟩ := field_at hg hl 1 _ rfl rfl rfl (by kernel_rfl : Try.prog.cellsOf 3 = 1) op3
  obtain ⟨a2, e2, k2⟩ := field_at hg hl 2 _ rfl rfl rfl (by kernel_rfl : Try.prog.cellsOf 3 = 1) op3
  have hlen' : cs.length = 3 := hlen.trans (by kernel_rfl)
  match cs, hlen' with
  | [c0, c1, c2], _ =>
    obtain rfl := (List.cons.inj e0).1
    obtain rfl := (List.cons.inj e1).1
    obtain rfl := (List.cons.inj e2).1
    exact ⟨⟨a0, a1, a2⟩, rfl, ⟨k0, k1, k2⟩⟩
set_option maxRecDepth 100000 in
theorem op102 : Opens Try.prog 102 encAway okAway := by
  intro H enc w base spare held fuel cs x h
  obtain ⟨xs, n, _, _, hlen, hl, hg⟩ := DataW.trod_struct Try.underlying102 h
  obtain ⟨a0, e0, k0⟩ := field_at hg hl 0 _ rfl rfl rfl (by kernel_rfl : Try.prog.cellsOf 3 = 1) op3
  obtain ⟨a1, e1, k1⟩ := field_at hg hl 1 _ rfl rfl rfl (by kernel_rfl : Try.prog.cellsOf 3 = 1) op3
  have hlen' : cs.length = 2 := hlen.trans (by kernel_rfl)
  match cs, hlen' with
  | [c0, c1], _ =>
    obtain rfl := (List.cons.inj e0).1
    obtain rfl := (List.cons.inj e1).1
    exact ⟨⟨a0, a1⟩, rfl, ⟨k0, k1⟩⟩
set_option maxRecDepth 100000 in
theorem op25 : ∀ (H : Type) (enc : TypeId × Value → H) (w : World) (base : Nat) (spare : Nat → Bool) (held : Bool) (fuel : Nat) (cs : List Value) (x : DataW H × List MemPlace), DataW.trod enc Try.prog w base spare held fuel 25 cs = some x →
    ∃ (A_0 : Option Addr) (n_0 : Nat) (c_0 : Nat) (L_0 : List LMap) (A_1 : Option Addr) (n_1 : Nat) (c_1 : Nat) (L_1 : List Away) (a_2 : Int) (a_3 : Int) (a_4 : Int), cs = [.slice A_0 n_0 c_0, .slice A_1 n_1 c_1, .int .i64 a_2, .int .i64 a_3, .int .i64 a_4] ∧ SlR w w.heap.size encLMap 3 A_0 n_0 c_0 L_0 ∧ SlR w w.heap.size encAway 2 A_1 n_1 c_1 L_1 := by
  intro H enc w base spare held fuel cs x h
  obtain ⟨xs, n, _, _, hlen, hl, hg⟩ := DataW.trod_struct Try.underlying25 h
  obtain ⟨A_0, n_0, c_0, L_0, e0, s_0, _⟩ := field_sl hg hl 0 _ rfl rfl rfl (by kernel_rfl : Try.prog.cellsOf 22 = 1) (sz := 3) Try.underlying22 op100 (by kernel_rfl) (by decide) (fun _ => rfl)
  obtain ⟨A_1, n_1, c_1, L_1, e1, s_1, _⟩ := field_sl hg hl 1 _ rfl rfl rfl (by kernel_rfl : Try.prog.cellsOf 23 = 1) (sz := 2) Try.underlying23 op102 (by kernel_rfl) (by decide) (fun _ => rfl)
  obtain ⟨a_2, e2, _⟩ := field_at hg hl 2 _ rfl rfl rfl (by kernel_rfl : Try.prog.cellsOf 3 = 1) op3
  obtain ⟨a_3, e3, _⟩ := field_at hg hl 3 _ rfl rfl rfl (by kernel_rfl : Try.prog.cellsOf 3 = 1) op3
  obtain ⟨a_4, e4, _⟩ := field_at hg hl 4 _ rfl rfl rfl (by kernel_rfl : Try.prog.cellsOf 3 = 1) op3
  have hlen' : cs.length = 5 := hlen.trans (by kernel_rfl)
  match cs, hlen' with
  | [z0, z1, z2, z3, z4], _ =>
    obtain rfl := (List.cons.inj (e0)).1
    obtain rfl := (List.cons.inj (e1)).1
    obtain rfl := (List.cons.inj (e2)).1
    obtain rfl := (List.cons.inj (e3)).1
    obtain rfl := (List.cons.inj (e4)).1
    exact ⟨A_0, n_0, c_0, L_0, A_1, n_1, c_1, L_1, a_2, a_3, a_4, rfl, s_0, s_1⟩
set_option maxRecDepth 100000 in
theorem op46 : Opens Try.prog 46 encLibraryStep okLibraryStep := by
  intro H enc w base spare held fuel cs x h
  obtain ⟨xs, n, _, _, hlen, hl, hg⟩ := DataW.trod_struct Try.underlying46 h
  obtain ⟨a0, e0, k0⟩ := field_at hg hl 0 _ rfl rfl rfl (by kernel_rfl : Try.prog.cellsOf 3 = 1) op3
  obtain ⟨a1, e1, k1⟩ := field_at hg hl 1 _ rfl rfl rfl (by kernel_rfl : Try.prog.cellsOf 3 = 1) op3
  obtain ⟨a2, e2, k2⟩ := field_at hg hl 2 _ rfl rfl rfl (by kernel_rfl : Try.prog.cellsOf 3 = 1) op3
  obtain ⟨a3, e3, k3⟩ := field_at hg hl 3 _ rfl rfl rfl (by kernel_rfl : Try.prog.cellsOf 3 = 1) op3
  have hlen' : cs.length = 4 := hlen.trans (by kernel_rfl)
  match cs, hlen' with
  | [c0, c1, c2, c3], _ =>
    obtain rfl := (List.cons.inj e0).1
    obtain rfl := (List.cons.inj e1).1
    obtain rfl := (List.cons.inj e2).1
    obtain rfl := (List.cons.inj e3).1
    exact ⟨⟨a0, a1, a2, a3⟩, rfl, ⟨k0, k1, k2, k3⟩⟩
theorem own : ownKnob Try.prog.godebug = none := by kernel_rfl
set_option maxRecDepth 100000 in
theorem lifted (os : Os) (started : os.Started) (H : Type) (enc : TypeId × Value → H) :
    ReturnsInHanded {} Try.checked os 11 .any (Rows.fnExactRunLibrarySpec.pre6 enc Try.prog Try.f11 Rows.fnExactRunLibraryRow.domain false) (Rows.fnExactRunLibrarySpec.post enc Try.prog Try.f11 false true false false) := by
  refine returnsInHanded_of_change (C := Try.checked) own started (by kernel_rfl) Try.func11
    (ChangeSpec.witness6 (enc := enc) (C := Try.checked) false ⟨#[], #[.agg #[.slice none 0 0, .slice none 0 0, .int .i64 0, .int .i64 0, .int .i64 0], .slice none 0 0], []⟩ 8 (by kernel_rfl) (by kernel_rfl) (by kernel_rfl) (by kernel_rfl)) ?_
  intro W base args ds gs before hval0 hW _ _
  have hval : ∀ (j : Nat) t v, Try.f11.params[j]? = some t → args[j]? = some v → Value.okWide Try.prog W .any base t v := hval0
  have hW' := hW
  obtain ⟨p, q, hA0, hV, rfl, hfz, hnd⟩ := hW'
  have hA : DataW.TrodAll enc Try.prog W 0 (fun _ => true) true Try.f11.params.toList args.toList ds p := hA0
  rw [Try.params11] at hA hval
  obtain ⟨v0, vs0, d0, ds0, p0, q0, hargs, rfl, rfl, h0, r0⟩ := trodAll_cons hA
  obtain ⟨v1, vs1, d1, ds1, p1, q1, rfl, rfl, rfl, h1, r1⟩ := trodAll_cons r0
  obtain ⟨rfl, rfl, rfl⟩ := trodAll_nil r1
  obtain rfl : args = #[v0, v1] := by cases args; simp_all
  obtain ⟨cs0, rfl, _⟩ := okWide_struct Try.underlying25 (hval 0 25 v0 rfl rfl)
  obtain ⟨fu0, hf0⟩ := h0
  obtain ⟨A0_0, n0_0, c0_0, L0_0, A0_1, n0_1, c0_1, L0_1, a0_2, a0_3, a0_4, e0, s0_0, s0_1⟩ := op25 _ _ _ _ _ _ _ _ _ hf0
  obtain rfl : cs0 = (List.toArray [.slice A0_0 n0_0 c0_0, .slice A0_1 n0_1 c0_1, .int .i64 a0_2, .int .i64 a0_3, .int .i64 a0_4]) := by rw [← e0]; rfl
  obtain ⟨A1, n1, c1, rfl⟩ := okWide_slice Try.underlying62 (hval 1 62 v1 rfl rfl)
  obtain ⟨fu1, hf1⟩ := h1
  obtain ⟨A1', n1', c1', L1, e1, hs1, ok1⟩ := opens_slice (sz := 4) Try.underlying62 op46 (by kernel_rfl) (by decide) (fun _ => rfl) hf1
  obtain ⟨rfl, rfl, rfl⟩ : A1 = A1' ∧ n1 = n1' ∧ c1 = c1' := by simpa [Value.cells] using e1
  obtain ⟨rfl, rfl⟩ := trodVars_none hV
  exact (c_laws_FnExactRunLibrary W (⟨L0_0, L0_1, a0_2, a0_3, a0_4⟩ : Library) s0_0 s0_1 L1 hs1 (fun k s h => by have := ok1 s (List.mem_of_getElem? h); unfold okLibraryStep in64 at this; omega)).mono fun e W' ⟨he, hk⟩ => ⟨_, he, law_post (by kernel_rfl) (by kernel_rfl) rfl Try.underlying4 rfl ⟨rfl, rfl, rfl⟩ hW hk⟩

theorem over : Rows.fnExactRunLibraryRow.holds Try.pinned (OpenSpec.ofChange Rows.fnExactRunLibrarySpec) :=
  OpenClaim.holds_of_wide 11 Try.f11 rfl rfl rfl rfl rfl rfl rfl ⟨rfl, rfl, rfl, rfl, rfl⟩ rfl rfl rfl rfl rfl (by kernel_rfl) Try.func11 (by kernel_rfl)
    (of_decide_eq_true (by kernel_rfl)) (by unfold Func.isWrapper; first | (rw [if_pos (by decide +kernel)]; kernel_rfl) | (rw [if_neg (by decide +kernel)]; exact ⟨rfl, rfl⟩))
    (fun os started H enc _ => lifted os started H enc)

theorem proved : Rows.FnExactRunLibrarySaid := over
end Go.Proofs.Ytbodnffjgmaloaa.fnExactRunLibrary
