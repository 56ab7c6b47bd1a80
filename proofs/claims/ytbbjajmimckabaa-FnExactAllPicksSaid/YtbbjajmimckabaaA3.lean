/- FnExactAllPicks: the program and the reference list the picks of a cluster alike. No condition. -/
import Derived.Test.YtbbjajmimckabaaT5
import Derived.Test.YtbbjajmimckabaaP8
set_option linter.unusedVariables false
set_option linter.unusedSimpArgs false
namespace Go.Proofs.Ytbbjajmimckabaa
open Go.ChangeShapes Go.WideShapes Go.ChangeAt Go.RowKit Go.Joins Go.Sx

theorem all_ExactAllPicks (ads : List AD) (h : ShAll Try.prog Try.f5.params.toList ads) : Ret Try.prog 5 ads [.one (B true)] := by
  rw [Try.params5] at h
  match ads, h with
  | [a0], ⟨h0, _⟩ =>
    obtain ⟨x0, rfl, w0⟩ := Cluster_arg h0
    exact law_AllPicks x0 w0

set_option maxRecDepth 100000 in
theorem lifted_ExactAllPicks (os : Os) (started : os.Started) (H : Type) (enc : TypeId × Value → H) :
    ReturnsInHanded {} Try.checked os 5 .any (Rows.fnExactAllPicksSpec.pre6 enc Try.prog Try.f5 Rows.fnExactAllPicksRow.domain false) (Rows.fnExactAllPicksSpec.post enc Try.prog Try.f5 false true false false) := by
  refine returnsInHanded_of_change (C := Try.checked) Try.own started (by kernel_rfl) Try.func5
    (ChangeSpec.witness6 (enc := enc) (C := Try.checked) false ⟨#[], #[.agg #[.slice none 0 0, .int .i64 0, .int .i64 0, .slice none 0 0, .slice none 0 0, .slice none 0 0, .slice none 0 0]], []⟩ 8 (by kernel_rfl) (by kernel_rfl) (by kernel_rfl) (by kernel_rfl)) ?_
  intro W base args ds gs before hval0 hW hcnd _
  exact law_of_ret (fno := 5) Try.laidOut (tb := 4) (by kernel_rfl) Try.underlying4 (by kernel_rfl) (by kernel_rfl) rfl hval0 hW (fun h => by obtain ⟨a0, rfl⟩ := lst1 (l := ds) h; exact ⟨rfl, rfl, rfl⟩) all_ExactAllPicks

theorem holds_ExactAllPicks : Rows.FnExactAllPicksSaid :=
  OpenClaim.holds_of_wide 5 Try.f5 rfl rfl rfl rfl rfl rfl rfl ⟨rfl, rfl, rfl, rfl, rfl⟩ rfl rfl rfl rfl rfl (by kernel_rfl) Try.func5 (by kernel_rfl)
    (of_decide_eq_true (by kernel_rfl)) (by unfold Func.isWrapper; first | (rw [if_pos (by decide +kernel)]; kernel_rfl) | (rw [if_neg (by decide +kernel)]; exact ⟨rfl, rfl⟩))
    (fun os started H enc _ => lifted_ExactAllPicks os started H enc)

#print axioms holds_ExactAllPicks
end Go.Proofs.Ytbbjajmimckabaa
