/- For every input the law FnExactFullestMinute returns true, and each argument reads afterwards as it read before. No conditions beyond the row itself. -/
import Derived.Test.YtobbccbdgedajaaRows
import Derived.Test.YtobbccbdgedajaaFl
import Derived.Test.YtobbccbdgedajaaG30w
namespace Go.Proofs.Ytobbccbdgedajaa.fnExactFullestMinute
open Go Go.RowKit Go.ChangeShapes Go.WideShapes Fw
set_option linter.unusedVariables false
def okVisit (x : Visit) : Prop := in64 x.Reader ∧ in64 x.Seat ∧ in64 x.From ∧ in64 x.Until
theorem op3 : Opens Try.prog 3 encI in64 := opens_int Try.underlying3
set_option maxRecDepth 100000 in
theorem op61 : Opens Try.prog 61 encVisit okVisit := by
  intro H enc w base spare held fuel cs x h
  obtain ⟨xs, n, _, _, hlen, hl, hg⟩ := DataW.trod_struct Try.underlying61 h
  obtain ⟨a0, e0, k0⟩ := field_at hg hl 0 _ rfl rfl rfl (by kernel_rfl : Try.prog.cellsOf 3 = 1) op3
  obtain ⟨a1, e1, k1⟩ := field_at hg hl 1 _ rfl rfl rfl (by kernel_rfl : Try.prog.cellsOf 3 = 1) op3
  obtain ⟨a2, e2, k2⟩ := field_at hg hl 2 _ rfl rfl rfl (by kernel_rfl : Try.prog.cellsOf 3 = 1) op3
  obtain ⟨a3, e3, k3⟩ := field_at hg hl 3 _ rfl rfl rfl (by kernel_rfl : Try.prog.cellsOf 3 = 1) op3
  have hlen' : cs.length = 4 := hlen.trans (by kernel_rfl)
  match cs, hlen' with
  | [c0, c1, c2, c3], _ =>
    obtain rfl := (List.cons.inj e0).1
    obtain rfl := (List.cons.inj e1).1
    obtain rfl := (List.cons.inj e2).1
    obtain rfl := (List.cons.inj e3).1
    exact ⟨⟨a0, a1, a2, a3⟩, rfl, ⟨k0, k1, k2, k3⟩⟩
theorem own : ownKnob Try.prog.godebug = none := by kernel_rfl
set_option maxRecDepth 100000 in
theorem lifted (os : Os) (started : os.Started) (H : Type) (enc : TypeId × Value → H) :
    ReturnsInHanded {} Try.checked os 7 .any (Rows.fnExactFullestMinuteSpec.pre6 enc Try.prog Try.f7 Rows.fnExactFullestMinuteRow.domain false) (Rows.fnExactFullestMinuteSpec.post enc Try.prog Try.f7 false true false false) := by
  refine returnsInHanded_of_change (C := Try.checked) own started (by kernel_rfl) Try.func7
    (ChangeSpec.witness6 (enc := enc) (C := Try.checked) false ⟨#[], #[.slice none 0 0], []⟩ 8 (by kernel_rfl) (by kernel_rfl) (by kernel_rfl) (by kernel_rfl)) ?_
  intro W base args ds gs before hval0 hW _ _
  have hval : ∀ (j : Nat) t v, Try.f7.params[j]? = some t → args[j]? = some v → Value.okWide Try.prog W .any base t v := hval0
  have hW' := hW
  obtain ⟨p, q, hA0, hV, rfl, hfz, hnd⟩ := hW'
  have hA : DataW.TrodAll enc Try.prog W 0 (fun _ => true) true Try.f7.params.toList args.toList ds p := hA0
  rw [Try.params7] at hA hval
  obtain ⟨v0, vs0, d0, ds0, p0, q0, hargs, rfl, rfl, h0, r0⟩ := trodAll_cons hA
  obtain ⟨rfl, rfl, rfl⟩ := trodAll_nil r0
  obtain rfl : args = #[v0] := by cases args; simp_all
  obtain ⟨A0, n0, c0, rfl⟩ := okWide_slice Try.underlying22 (hval 0 22 v0 rfl rfl)
  obtain ⟨fu0, hf0⟩ := h0
  obtain ⟨A0', n0', c0', L0, e0, hs0, ok0⟩ := opens_slice (sz := 4) Try.underlying22 op61 (by kernel_rfl) (by decide) (fun _ => rfl) hf0
  obtain ⟨rfl, rfl, rfl⟩ : A0 = A0' ∧ n0 = n0' ∧ c0 = c0' := by simpa [Value.cells] using e0
  obtain ⟨rfl, rfl⟩ := trodVars_none hV
  exact (c_laws_FnExactFullestMinute W L0 hs0).mono fun e W' ⟨he, hk⟩ => ⟨_, he, law_post (by kernel_rfl) (by kernel_rfl) rfl Try.underlying4 rfl ⟨rfl, rfl, rfl⟩ hW hk⟩

theorem over : Rows.fnExactFullestMinuteRow.holds Try.pinned (OpenSpec.ofChange Rows.fnExactFullestMinuteSpec) :=
  OpenClaim.holds_of_wide 7 Try.f7 rfl rfl rfl rfl rfl rfl rfl ⟨rfl, rfl, rfl, rfl, rfl⟩ rfl rfl rfl rfl rfl (by kernel_rfl) Try.func7 (by kernel_rfl)
    (of_decide_eq_true (by kernel_rfl)) (by unfold Func.isWrapper; first | (rw [if_pos (by decide +kernel)]; kernel_rfl) | (rw [if_neg (by decide +kernel)]; exact ⟨rfl, rfl⟩))
    (fun os started H enc _ => lifted os started H enc)

theorem proved : Rows.FnExactFullestMinuteSaid := over
end Go.Proofs.Ytobbccbdgedajaa.fnExactFullestMinute
