/- FnExactCellsIn: the program and the reference gather the cells of all workers alike. No condition. -/
import Derived.Test.YtbbjajmimckabaaT5
import Derived.Test.YtbbjajmimckabaaP10
set_option linter.unusedVariables false
set_option linter.unusedSimpArgs false
namespace Go.Proofs.Ytbbjajmimckabaa
open Go.ChangeShapes Go.WideShapes Go.ChangeAt Go.RowKit Go.Joins Go.Sx

theorem all_ExactCellsIn (ads : List AD) (h : ShAll Try.prog Try.f6.params.toList ads) : Ret Try.prog 6 ads [.one (B true)] := by
  rw [Try.params6] at h
  match ads, h with
  | [a0], ⟨h0, _⟩ =>
    obtain ⟨x0, rfl, w0⟩ := Cluster_arg h0
    exact law_CellsIn x0 w0

set_option maxRecDepth 100000 in
theorem lifted_ExactCellsIn (os : Os) (started : os.Started) (H : Type) (enc : TypeId × Value → H) :
    ReturnsInHanded {} Try.checked os 6 .any (Rows.fnExactCellsInSpec.pre6 enc Try.prog Try.f6 Rows.fnExactCellsInRow.domain false) (Rows.fnExactCellsInSpec.post enc Try.prog Try.f6 false true false false) := by
  refine returnsInHanded_of_change (C := Try.checked) Try.own started (by kernel_rfl) Try.func6
    (ChangeSpec.witness6 (enc := enc) (C := Try.checked) false ⟨#[], #[.agg #[.slice none 0 0, .int .i64 0, .int .i64 0, .slice none 0 0, .slice none 0 0, .slice none 0 0, .slice none 0 0]], []⟩ 8 (by kernel_rfl) (by kernel_rfl) (by kernel_rfl) (by kernel_rfl)) ?_
  intro W base args ds gs before hval0 hW hcnd _
  exact law_of_ret (fno := 6) Try.laidOut (tb := 4) (by kernel_rfl) Try.underlying4 (by kernel_rfl) (by kernel_rfl) rfl hval0 hW (fun h => by obtain ⟨a0, rfl⟩ := lst1 (l := ds) h; exact ⟨rfl, rfl, rfl⟩) all_ExactCellsIn

theorem holds_ExactCellsIn : Rows.FnExactCellsInSaid :=
  OpenClaim.holds_of_wide 6 Try.f6 rfl rfl rfl rfl rfl rfl rfl ⟨rfl, rfl, rfl, rfl, rfl⟩ rfl rfl rfl rfl rfl (by kernel_rfl) Try.func6 (by kernel_rfl)
    (of_decide_eq_true (by kernel_rfl)) (by unfold Func.isWrapper; first | (rw [if_pos (by decide +kernel)]; kernel_rfl) | (rw [if_neg (by decide +kernel)]; exact ⟨rfl, rfl⟩))
    (fun os started H enc _ => lifted_ExactCellsIn os started H enc)

#print axioms holds_ExactCellsIn
end Go.Proofs.Ytbbjajmimckabaa
