/- For every input the law FnExactIsValidRecord returns true, and each argument reads afterwards as it read before. No conditions beyond the row itself. -/
import Derived.Test.YthlbmkpkgiabnaaRows
import Derived.Test.YthlbmkpkgiabnaaFl
import Derived.Test.YthlbmkpkgiabnaaG33r
namespace Go.Proofs.Ythlbmkpkgiabnaa.fnExactIsValidRecord
open Go Go.RowKit Go.ChangeShapes Go.WideShapes Fw
set_option linter.unusedVariables false
def okLogRecord (x : LogRecord) : Prop := x.Command.length ≤ maxLen ∧ x.Reply.length ≤ maxLen
theorem op9 : Opens Try.prog 9 encS (fun s => s.length ≤ maxLen) := opens_str Try.underlying9
set_option maxRecDepth 100000 in
theorem op23 : Opens Try.prog 23 encLogRecord okLogRecord := by
  intro H enc w base spare held fuel cs x h
  obtain ⟨xs, n, _, _, hlen, hl, hg⟩ := DataW.trod_struct Try.underlying23 h
  obtain ⟨a0, e0, k0⟩ := field_at hg hl 0 _ rfl rfl rfl (by kernel_rfl : Try.prog.cellsOf 9 = 1) op9
  obtain ⟨a1, e1, k1⟩ := field_at hg hl 1 _ rfl rfl rfl (by kernel_rfl : Try.prog.cellsOf 9 = 1) op9
  have hlen' : cs.length = 2 := hlen.trans (by kernel_rfl)
  match cs, hlen' with
  | [c0, c1], _ =>
    obtain rfl := (List.cons.inj e0).1
    obtain rfl := (List.cons.inj e1).1
    exact ⟨⟨a0, a1⟩, rfl, ⟨k0, k1⟩⟩
theorem own : ownKnob Try.prog.godebug = none := by kernel_rfl
set_option maxRecDepth 100000 in
theorem lifted (os : Os) (started : os.Started) (H : Type) (enc : TypeId × Value → H) :
    ReturnsInHanded {} Try.checked os 3 .any (Rows.fnExactIsValidRecordSpec.pre6 enc Try.prog Try.f3 Rows.fnExactIsValidRecordRow.domain false) (Rows.fnExactIsValidRecordSpec.post enc Try.prog Try.f3 false true false false) := by
  refine returnsInHanded_of_change (C := Try.checked) own started (by kernel_rfl) Try.func3
    (ChangeSpec.witness6 (enc := enc) (C := Try.checked) false ⟨#[], #[.agg #[str ([] : List UInt8), str ([] : List UInt8)]], []⟩ 8 (by kernel_rfl) (by kernel_rfl) (by kernel_rfl) (by kernel_rfl)) ?_
  intro W base args ds gs before hval0 hW _ _
  have hval : ∀ (j : Nat) t v, Try.f3.params[j]? = some t → args[j]? = some v → Value.okWide Try.prog W .any base t v := hval0
  have hW' := hW
  obtain ⟨p, q, hA0, hV, rfl, hfz, hnd⟩ := hW'
  have hA : DataW.TrodAll enc Try.prog W 0 (fun _ => true) true Try.f3.params.toList args.toList ds p := hA0
  rw [Try.params3] at hA hval
  obtain ⟨v0, vs0, d0, ds0, p0, q0, hargs, rfl, rfl, h0, r0⟩ := trodAll_cons hA
  obtain ⟨rfl, rfl, rfl⟩ := trodAll_nil r0
  obtain rfl : args = #[v0] := by cases args; simp_all
  obtain ⟨cs0, rfl, _⟩ := okWide_struct Try.underlying23 (hval 0 23 v0 rfl rfl)
  obtain ⟨fu0, hf0⟩ := h0
  obtain ⟨a0, e0, ok0⟩ := op23 _ _ _ _ _ _ _ _ _ hf0
  obtain rfl : cs0 = (encLogRecord a0).toArray := by rw [← e0]; rfl
  obtain ⟨rfl, rfl⟩ := trodVars_none hV
  exact (c_laws_FnExactIsValidRecord W a0 (by have := ok0; unfold okLogRecord maxLen at this; omega)).mono fun e W' ⟨he, hk⟩ => ⟨_, he, law_post (by kernel_rfl) (by kernel_rfl) rfl Try.underlying4 rfl ⟨rfl, rfl, rfl⟩ hW hk⟩

theorem over : Rows.fnExactIsValidRecordRow.holds Try.pinned (OpenSpec.ofChange Rows.fnExactIsValidRecordSpec) :=
  OpenClaim.holds_of_wide 3 Try.f3 rfl rfl rfl rfl rfl rfl rfl ⟨rfl, rfl, rfl, rfl, rfl⟩ rfl rfl rfl rfl rfl (by kernel_rfl) Try.func3 (by kernel_rfl)
    (of_decide_eq_true (by kernel_rfl)) (by unfold Func.isWrapper; first | (rw [if_pos (by decide +kernel)]; kernel_rfl) | (rw [if_neg (by decide +kernel)]; exact ⟨rfl, rfl⟩))
    (fun os started H enc _ => lifted os started H enc)

theorem proved : Rows.FnExactIsValidRecordSaid := over
end Go.Proofs.Ythlbmkpkgiabnaa.fnExactIsValidRecord
