/- For every input the law FnExactNewConsole returns true, and each argument reads afterwards as it read before. No conditions beyond the row itself. -/
import Derived.Test.YtocpdkhahmbaiaaRows
import Derived.Test.YtocpdkhahmbaiaaFl
import Derived.Test.YtocpdkhahmbaiaaG34o
namespace Go.Proofs.Ytocpdkhahmbaiaa.fnExactNewConsole
open Go Go.RowKit Go.ChangeShapes Go.WideShapes Fw
set_option linter.unusedVariables false


theorem own : ownKnob Try.prog.godebug = none := by kernel_rfl
set_option maxRecDepth 100000 in
theorem lifted (os : Os) (started : os.Started) (H : Type) (enc : TypeId × Value → H) :
    ReturnsInHanded {} Try.checked os 3 .any (Rows.fnExactNewConsoleSpec.pre6 enc Try.prog Try.f3 Rows.fnExactNewConsoleRow.domain false) (Rows.fnExactNewConsoleSpec.post enc Try.prog Try.f3 false true false false) := by
  refine returnsInHanded_of_change (C := Try.checked) own started (by kernel_rfl) Try.func3
    (ChangeSpec.witness6 (enc := enc) (C := Try.checked) false ⟨#[], #[.int .i64 0], []⟩ 8 (by kernel_rfl) (by kernel_rfl) (by kernel_rfl) (by kernel_rfl)) ?_
  intro W base args ds gs before hval0 hW _ _
  have hval : ∀ (j : Nat) t v, Try.f3.params[j]? = some t → args[j]? = some v → Value.okWide Try.prog W .any base t v := hval0
  have hW' := hW
  obtain ⟨p, q, hA0, hV, rfl, hfz, hnd⟩ := hW'
  have hA : DataW.TrodAll enc Try.prog W 0 (fun _ => true) true Try.f3.params.toList args.toList ds p := hA0
  rw [Try.params3] at hA hval
  obtain ⟨v0, vs0, d0, ds0, p0, q0, hargs, rfl, rfl, h0, r0⟩ := trodAll_cons hA
  obtain ⟨rfl, rfl, rfl⟩ := trodAll_nil r0
  obtain rfl : args = #[v0] := by cases args; simp_all
  obtain ⟨a0, rfl⟩ := okWide_int Try.underlying3 (hval 0 3 v0 rfl rfl)
  have ok0 : in64 a0 := (by obtain ⟨fu, hf⟩ := h0; obtain ⟨b, e, hb⟩ := opens_int Try.underlying3 _ _ _ _ _ _ _ _ _ hf; obtain rfl : a0 = b := (by simpa [Value.cells] using e); exact hb)
  obtain ⟨rfl, rfl⟩ := trodVars_none hV
  exact (c_laws_FnExactNewConsole W a0).mono fun e W' ⟨he, hk⟩ => ⟨_, he, law_post (by kernel_rfl) (by kernel_rfl) rfl Try.underlying4 rfl ⟨rfl, rfl, rfl⟩ hW hk⟩

theorem over : Rows.fnExactNewConsoleRow.holds Try.pinned (OpenSpec.ofChange Rows.fnExactNewConsoleSpec) :=
  OpenClaim.holds_of_wide 3 Try.f3 rfl rfl rfl rfl rfl rfl rfl ⟨rfl, rfl, rfl, rfl, rfl⟩ rfl rfl rfl rfl rfl (by kernel_rfl) Try.func3 (by kernel_rfl)
    (of_decide_eq_true (by kernel_rfl)) (by unfold Func.isWrapper; first | (rw [if_pos (by decide +kernel)]; kernel_rfl) | (rw [if_neg (by decide +kernel)]; exact ⟨rfl, rfl⟩))
    (fun os started H enc _ => lifted os started H enc)

theorem proved : Rows.FnExactNewConsoleSaid := over
end Go.Proofs.Ytocpdkhahmbaiaa.fnExactNewConsole
