/-
  kreisel/kreisellaw03.SlideExamples returns true, whatever the input, and what came in reads as it did: the given statement Rows.SlideExamplesSaid.
  Conditions: none.
-/
import Derived.Test.YtpbgdeojcefnmaaRows
import Derived.Test.YtpbgdeojcefnmaaProg
import Derived.Test.YtpbgdeojcefnmaaOpen
import Derived.Test.YtpbgdeojcefnmaaW23
import Derived.KernelRfl
namespace Go.Proofs.Ytpbgdeojcefnmaa
open Go.ChangeShapes Go.WideShapes Go.ChangeAt Go.RowKit
set_option linter.unusedVariables false

theorem own_slideExamples : ownKnob Try.prog.godebug = none := by kernel_rfl
theorem laid_slideExamples : laidOutB Try.prog = true := by kernel_rfl
set_option maxRecDepth 100000 in
theorem slideExamples_lifted (os : Os) (started : os.Started) (H : Type) (enc : TypeId × Value → H) :
    ReturnsInHanded {} Try.checked os 13 .any (Rows.slideExamplesSpec.pre6 enc Try.prog Try.f13 Rows.slideExamplesRow.domain false) (Rows.slideExamplesSpec.post enc Try.prog Try.f13 false true false false) := by
  refine returnsInHanded_of_change (C := Try.checked) own_slideExamples started (by kernel_rfl) Try.func13
    (ChangeSpec.witness6 (enc := enc) (C := Try.checked) false ⟨#[], #[], []⟩ 8 (by kernel_rfl) (by kernel_rfl) (by kernel_rfl) (by kernel_rfl)) ?_
  intro W base args ds gs before hval0 hW hcnd _
  have hval : ∀ (j : Nat) t v, Try.f13.params[j]? = some t → args[j]? = some v → Value.okWide Try.prog W .any base t v := hval0
  have hW' := hW
  obtain ⟨p, q, hA0, hV, rfl, hfz, hnd⟩ := hW
  have hA : DataW.TrodAll enc Try.prog W 0 (fun _ => true) true Try.f13.params.toList args.toList ds p := hA0
  have hA1 := hA
  rw [Try.params13] at hA hval
  obtain ⟨hargs, rfl, rfl⟩ := trodAll_nil hA
  obtain rfl : args = #[] := by cases args; simp_all
  obtain ⟨rfl, rfl⟩ := trodVars_none hV
  simp only [List.append_nil] at hW' hA1
  have hrun := slideExamples_c.run W (by intro A hA; cases hA)
  refine (hrun).mono fun e W' ⟨he, hk⟩ => ?_
  subst he
  exact ⟨_, rfl, law_post laid_slideExamples hW' hA1 rfl rfl (by kernel_rfl) hk.below (by kernel_rfl) ut4⟩

/-- the statement -/
theorem slideExamples_said : Rows.SlideExamplesSaid :=
  OpenClaim.holds_of_wide 13 Try.f13 rfl rfl rfl rfl rfl rfl rfl ⟨rfl, rfl, rfl, rfl, rfl⟩ rfl rfl rfl rfl rfl (by kernel_rfl) Try.func13 (by kernel_rfl)
    (of_decide_eq_true (by kernel_rfl)) (by unfold Func.isWrapper; first | (rw [if_pos (by decide +kernel)]; kernel_rfl) | (rw [if_neg (by decide +kernel)]; exact ⟨rfl, rfl⟩))
    (fun os started H enc _ => slideExamples_lifted os started H enc)
#print axioms slideExamples_said
end Go.Proofs.Ytpbgdeojcefnmaa
