/- FnExactNewsFor: The law NewsFor holds. No condition. -/
import Derived.Test.YtcdpehhhkfdoaaaT5
import Derived.Test.YtcdpehhhkfdoaaaP6
set_option linter.unusedVariables false
set_option linter.unusedSimpArgs false
namespace Go.Proofs.Ytcdpehhhkfdoaaa
open Go.ChangeShapes Go.WideShapes Go.ChangeAt Go.RowKit Go.Joins Go.Sx

theorem all_ExactNewsFor (ads : List AD) (h : ShAll Try.prog Try.f13.params.toList ads) : Ret Try.prog 13 ads [.one (B true)] := by
  rw [Try.params13] at h
  match ads, h with
  | [a0, a1], ⟨h0, h1, _⟩ =>
    obtain ⟨x0, rfl, w0⟩ := Cluster_arg h0
    obtain ⟨x1, rfl, w1⟩ := int_arg h1
    exact law_NewsFor x0 x1 w0

set_option maxRecDepth 100000 in
theorem lifted_ExactNewsFor (os : Os) (started : os.Started) (H : Type) (enc : TypeId × Value → H) :
    ReturnsInHanded {} Try.checked os 13 .any (Rows.fnExactNewsForSpec.pre6 enc Try.prog Try.f13 Rows.fnExactNewsForRow.domain false) (Rows.fnExactNewsForSpec.post enc Try.prog Try.f13 false true false false) := by
  refine returnsInHanded_of_change (C := Try.checked) Try.own started (by kernel_rfl) Try.func13
    (ChangeSpec.witness6 (enc := enc) (C := Try.checked) false ⟨#[], #[.agg #[.slice none 0 0, .int .i64 0, .int .i64 0, .slice none 0 0, .slice none 0 0, .slice none 0 0, .slice none 0 0], .int .i64 0], []⟩ 8 (by kernel_rfl) (by kernel_rfl) (by kernel_rfl) (by kernel_rfl)) ?_
  intro W base args ds gs before hval0 hW hcnd _
  exact law_of_ret (fno := 13) Try.laidOut (tb := 4) (by kernel_rfl) Try.underlying4 (by kernel_rfl) (by kernel_rfl) rfl hval0 hW (fun h => by obtain ⟨a0, a1, rfl⟩ := lst2 (l := ds) h; exact ⟨rfl, rfl, rfl⟩) all_ExactNewsFor

theorem holds_ExactNewsFor : Rows.FnExactNewsForSaid :=
  OpenClaim.holds_of_wide 13 Try.f13 rfl rfl rfl rfl rfl rfl rfl ⟨rfl, rfl, rfl, rfl, rfl⟩ rfl rfl rfl rfl rfl (by kernel_rfl) Try.func13 (by kernel_rfl)
    (of_decide_eq_true (by kernel_rfl)) (by unfold Func.isWrapper; first | (rw [if_pos (by decide +kernel)]; kernel_rfl) | (rw [if_neg (by decide +kernel)]; exact ⟨rfl, rfl⟩))
    (fun os started H enc _ => lifted_ExactNewsFor os started H enc)

#print axioms holds_ExactNewsFor
end Go.Proofs.Ytcdpehhhkfdoaaa
