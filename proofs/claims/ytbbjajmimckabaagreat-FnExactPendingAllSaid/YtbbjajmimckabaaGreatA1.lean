/- FnExactPendingAll: the program and the reference gather the pending records alike. No condition. No condition. -/
import Derived.Test.YtbbjajmimckabaaGreatT5
import Derived.Test.YtbbjajmimckabaaGreatP13
set_option linter.unusedVariables false
set_option linter.unusedSimpArgs false
namespace Go.Proofs.YtbbjajmimckabaaGreat
open Go.ChangeShapes Go.WideShapes Go.ChangeAt Go.RowKit Go.Joins Go.Sx

theorem all_ExactPendingAll (ads : List AD) (h : ShAll Tryz.prog Tryz.f3.params.toList ads) : Ret Tryz.prog 3 ads [.one (B true)] := by
  rw [Tryz.params3] at h
  match ads, h with
  | [a0], ⟨h0, _⟩ =>
    obtain ⟨x0, rfl, w0⟩ := Cluster_arg h0
    exact law_PendingAll x0 w0

set_option maxRecDepth 100000 in
theorem lifted_ExactPendingAll (os : Os) (started : os.Started) (H : Type) (enc : TypeId × Value → H) :
    ReturnsInHanded {} Tryz.checked os 3 .any (Rows.fnExactPendingAllSpec.pre6 enc Tryz.prog Tryz.f3 Rows.fnExactPendingAllRow.domain false) (Rows.fnExactPendingAllSpec.post enc Tryz.prog Tryz.f3 false true false false) := by
  refine returnsInHanded_of_change (C := Tryz.checked) Tryz.own started (by kernel_rfl) Tryz.func3
    (ChangeSpec.witness6 (enc := enc) (C := Tryz.checked) false ⟨#[], #[.agg #[.slice none 0 0, .int .i64 0, .int .i64 0, .slice none 0 0, .slice none 0 0, .slice none 0 0, .slice none 0 0]], []⟩ 8 (by kernel_rfl) (by kernel_rfl) (by kernel_rfl) (by kernel_rfl)) ?_
  intro W base args ds gs before hval0 hW hcnd _
  exact law_of_ret (fno := 3) Tryz.laidOut (tb := 4) (by kernel_rfl) Tryz.underlying4 (by kernel_rfl) (by kernel_rfl) rfl hval0 hW (fun h => by obtain ⟨a0, rfl⟩ := lst1 (l := ds) h; exact ⟨rfl, rfl, rfl⟩) all_ExactPendingAll

theorem holds_ExactPendingAll : Rows.FnExactPendingAllSaid :=
  OpenClaim.holds_of_wide 3 Tryz.f3 rfl rfl rfl rfl rfl rfl rfl ⟨rfl, rfl, rfl, rfl, rfl⟩ rfl rfl rfl rfl rfl (by kernel_rfl) Tryz.func3 (by kernel_rfl)
    (of_decide_eq_true (by kernel_rfl)) (by unfold Func.isWrapper; first | (rw [if_pos (by decide +kernel)]; kernel_rfl) | (rw [if_neg (by decide +kernel)]; exact ⟨rfl, rfl⟩))
    (fun os started H enc _ => lifted_ExactPendingAll os started H enc)

#print axioms holds_ExactPendingAll
end Go.Proofs.YtbbjajmimckabaaGreat
