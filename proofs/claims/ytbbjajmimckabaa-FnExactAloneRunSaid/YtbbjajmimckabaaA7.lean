/- FnExactAloneRun: the program and the reference run alone alike. No condition. No condition. -/
import Derived.Test.YtbbjajmimckabaaT5
import Derived.Test.YtbbjajmimckabaaP18
set_option linter.unusedVariables false
set_option linter.unusedSimpArgs false
namespace Go.Proofs.Ytbbjajmimckabaa
open Go.ChangeShapes Go.WideShapes Go.ChangeAt Go.RowKit Go.Joins Go.Sx

theorem all_ExactAloneRun (ads : List AD) (h : ShAll Try.prog Try.f9.params.toList ads) : Ret Try.prog 9 ads [.one (B true)] := by
  rw [Try.params9] at h
  match ads, h with
  | [a0, a1, a2], ⟨h0, h1, h2, _⟩ =>
    obtain ⟨x0, rfl, w0⟩ := Graph_arg h0
    obtain ⟨x1, rfl, l1, w1⟩ := Records_arg h1
    obtain ⟨x2, rfl, w2⟩ := int_arg h2
    exact law_AloneRun x0 x1 x2 w0 l1 w1

set_option maxRecDepth 100000 in
theorem lifted_ExactAloneRun (os : Os) (started : os.Started) (H : Type) (enc : TypeId × Value → H) :
    ReturnsInHanded {} Try.checked os 9 .any (Rows.fnExactAloneRunSpec.pre6 enc Try.prog Try.f9 Rows.fnExactAloneRunRow.domain false) (Rows.fnExactAloneRunSpec.post enc Try.prog Try.f9 false true false false) := by
  refine returnsInHanded_of_change (C := Try.checked) Try.own started (by kernel_rfl) Try.func9
    (ChangeSpec.witness6 (enc := enc) (C := Try.checked) false ⟨#[], #[.agg #[.slice none 0 0, .int .i64 0, .int .i64 0], .slice none 0 0, .int .i64 0], []⟩ 8 (by kernel_rfl) (by kernel_rfl) (by kernel_rfl) (by kernel_rfl)) ?_
  intro W base args ds gs before hval0 hW hcnd _
  exact law_of_ret (fno := 9) Try.laidOut (tb := 4) (by kernel_rfl) Try.underlying4 (by kernel_rfl) (by kernel_rfl) rfl hval0 hW (fun h => by obtain ⟨a0, a1, a2, rfl⟩ := lst3 (l := ds) h; exact ⟨rfl, rfl, rfl⟩) all_ExactAloneRun

theorem holds_ExactAloneRun : Rows.FnExactAloneRunSaid :=
  OpenClaim.holds_of_wide 9 Try.f9 rfl rfl rfl rfl rfl rfl rfl ⟨rfl, rfl, rfl, rfl, rfl⟩ rfl rfl rfl rfl rfl (by kernel_rfl) Try.func9 (by kernel_rfl)
    (of_decide_eq_true (by kernel_rfl)) (by unfold Func.isWrapper; first | (rw [if_pos (by decide +kernel)]; kernel_rfl) | (rw [if_neg (by decide +kernel)]; exact ⟨rfl, rfl⟩))
    (fun os started H enc _ => lifted_ExactAloneRun os started H enc)

#print axioms holds_ExactAloneRun
end Go.Proofs.Ytbbjajmimckabaa
