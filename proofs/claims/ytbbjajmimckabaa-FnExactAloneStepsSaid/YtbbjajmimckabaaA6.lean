/- FnExactAloneSteps: the program and the reference take the same number of steps alone. No condition. No condition. -/
import Derived.Test.YtbbjajmimckabaaT5
import Derived.Test.YtbbjajmimckabaaP18
set_option linter.unusedVariables false
set_option linter.unusedSimpArgs false
namespace Go.Proofs.Ytbbjajmimckabaa
open Go.ChangeShapes Go.WideShapes Go.ChangeAt Go.RowKit Go.Joins Go.Sx

theorem all_ExactAloneSteps (ads : List AD) (h : ShAll Try.prog Try.f8.params.toList ads) : Ret Try.prog 8 ads [.one (B true)] := by
  rw [Try.params8] at h
  match ads, h with
  | [a0, a1, a2], ⟨h0, h1, h2, _⟩ =>
    obtain ⟨x0, rfl, w0⟩ := Graph_arg h0
    obtain ⟨x1, rfl, l1, w1⟩ := Records_arg h1
    obtain ⟨x2, rfl, w2⟩ := int_arg h2
    exact law_AloneSteps x0 x1 x2 w0 l1 w1

set_option maxRecDepth 100000 in
theorem lifted_ExactAloneSteps (os : Os) (started : os.Started) (H : Type) (enc : TypeId × Value → H) :
    ReturnsInHanded {} Try.checked os 8 .any (Rows.fnExactAloneStepsSpec.pre6 enc Try.prog Try.f8 Rows.fnExactAloneStepsRow.domain false) (Rows.fnExactAloneStepsSpec.post enc Try.prog Try.f8 false true false false) := by
  refine returnsInHanded_of_change (C := Try.checked) Try.own started (by kernel_rfl) Try.func8
    (ChangeSpec.witness6 (enc := enc) (C := Try.checked) false ⟨#[], #[.agg #[.slice none 0 0, .int .i64 0, .int .i64 0], .slice none 0 0, .int .i64 0], []⟩ 8 (by kernel_rfl) (by kernel_rfl) (by kernel_rfl) (by kernel_rfl)) ?_
  intro W base args ds gs before hval0 hW hcnd _
  exact law_of_ret (fno := 8) Try.laidOut (tb := 4) (by kernel_rfl) Try.underlying4 (by kernel_rfl) (by kernel_rfl) rfl hval0 hW (fun h => by obtain ⟨a0, a1, a2, rfl⟩ := lst3 (l := ds) h; exact ⟨rfl, rfl, rfl⟩) all_ExactAloneSteps

theorem holds_ExactAloneSteps : Rows.FnExactAloneStepsSaid :=
  OpenClaim.holds_of_wide 8 Try.f8 rfl rfl rfl rfl rfl rfl rfl ⟨rfl, rfl, rfl, rfl, rfl⟩ rfl rfl rfl rfl rfl (by kernel_rfl) Try.func8 (by kernel_rfl)
    (of_decide_eq_true (by kernel_rfl)) (by unfold Func.isWrapper; first | (rw [if_pos (by decide +kernel)]; kernel_rfl) | (rw [if_neg (by decide +kernel)]; exact ⟨rfl, rfl⟩))
    (fun os started H enc _ => lifted_ExactAloneSteps os started H enc)

#print axioms holds_ExactAloneSteps
end Go.Proofs.Ytbbjajmimckabaa
