/- FnExactWithoutOne: the program and the reference strike one record alike. No condition. -/
import Derived.Test.YtbbjajmimckabaaT5
import Derived.Test.YtbbjajmimckabaaP8
set_option linter.unusedVariables false
set_option linter.unusedSimpArgs false
namespace Go.Proofs.Ytbbjajmimckabaa
open Go.ChangeShapes Go.WideShapes Go.ChangeAt Go.RowKit Go.Joins Go.Sx

theorem all_ExactWithoutOne (ads : List AD) (h : ShAll Try.prog Try.f3.params.toList ads) : Ret Try.prog 3 ads [.one (B true)] := by
  rw [Try.params3] at h
  match ads, h with
  | [a0, a1], ⟨h0, h1, _⟩ =>
    obtain ⟨x0, rfl, l0, w0⟩ := Records_arg h0
    obtain ⟨x1, rfl, w1⟩ := Record_arg h1
    exact law_WithoutOne x0 x1 l0 w0 w1

set_option maxRecDepth 100000 in
theorem lifted_ExactWithoutOne (os : Os) (started : os.Started) (H : Type) (enc : TypeId × Value → H) :
    ReturnsInHanded {} Try.checked os 3 .any (Rows.fnExactWithoutOneSpec.pre6 enc Try.prog Try.f3 Rows.fnExactWithoutOneRow.domain false) (Rows.fnExactWithoutOneSpec.post enc Try.prog Try.f3 false true false false) := by
  refine returnsInHanded_of_change (C := Try.checked) Try.own started (by kernel_rfl) Try.func3
    (ChangeSpec.witness6 (enc := enc) (C := Try.checked) false ⟨#[], #[.slice none 0 0, .agg #[.int .i64 0, .int .i64 0, .int .i64 0, .int .i64 0, .int .i64 0]], []⟩ 8 (by kernel_rfl) (by kernel_rfl) (by kernel_rfl) (by kernel_rfl)) ?_
  intro W base args ds gs before hval0 hW hcnd _
  exact law_of_ret (fno := 3) Try.laidOut (tb := 4) (by kernel_rfl) Try.underlying4 (by kernel_rfl) (by kernel_rfl) rfl hval0 hW (fun h => by obtain ⟨a0, a1, rfl⟩ := lst2 (l := ds) h; exact ⟨rfl, rfl, rfl⟩) all_ExactWithoutOne

theorem holds_ExactWithoutOne : Rows.FnExactWithoutOneSaid :=
  OpenClaim.holds_of_wide 3 Try.f3 rfl rfl rfl rfl rfl rfl rfl ⟨rfl, rfl, rfl, rfl, rfl⟩ rfl rfl rfl rfl rfl (by kernel_rfl) Try.func3 (by kernel_rfl)
    (of_decide_eq_true (by kernel_rfl)) (by unfold Func.isWrapper; first | (rw [if_pos (by decide +kernel)]; kernel_rfl) | (rw [if_neg (by decide +kernel)]; exact ⟨rfl, rfl⟩))
    (fun os started H enc _ => lifted_ExactWithoutOne os started H enc)

#print axioms holds_ExactWithoutOne
end Go.Proofs.Ytbbjajmimckabaa
