/- FnExactSafeAt: the program and the reference judge alike whether an epoch is safe. No condition. No condition. -/
import Derived.Test.YtbbjajmimckabaaGreatT5
import Derived.Test.YtbbjajmimckabaaGreatP13
set_option linter.unusedVariables false
set_option linter.unusedSimpArgs false
namespace Go.Proofs.YtbbjajmimckabaaGreat
open Go.ChangeShapes Go.WideShapes Go.ChangeAt Go.RowKit Go.Joins Go.Sx

theorem all_ExactSafeAt (ads : List AD) (h : ShAll Tryz.prog Tryz.f6.params.toList ads) : Ret Tryz.prog 6 ads [.one (B true)] := by
  rw [Tryz.params6] at h
  match ads, h with
  | [a0, a1], ⟨h0, h1, _⟩ =>
    obtain ⟨x0, rfl, w0⟩ := Cluster_arg h0
    obtain ⟨x1, rfl, w1⟩ := int_arg h1
    exact law_SafeAt x0 x1 w0

set_option maxRecDepth 100000 in
theorem lifted_ExactSafeAt (os : Os) (started : os.Started) (H : Type) (enc : TypeId × Value → H) :
    ReturnsInHanded {} Tryz.checked os 6 .any (Rows.fnExactSafeAtSpec.pre6 enc Tryz.prog Tryz.f6 Rows.fnExactSafeAtRow.domain false) (Rows.fnExactSafeAtSpec.post enc Tryz.prog Tryz.f6 false true false false) := by
  refine returnsInHanded_of_change (C := Tryz.checked) Tryz.own started (by kernel_rfl) Tryz.func6
    (ChangeSpec.witness6 (enc := enc) (C := Tryz.checked) false ⟨#[], #[.agg #[.slice none 0 0, .int .i64 0, .int .i64 0, .slice none 0 0, .slice none 0 0, .slice none 0 0, .slice none 0 0], .int .i64 0], []⟩ 8 (by kernel_rfl) (by kernel_rfl) (by kernel_rfl) (by kernel_rfl)) ?_
  intro W base args ds gs before hval0 hW hcnd _
  exact law_of_ret (fno := 6) Tryz.laidOut (tb := 4) (by kernel_rfl) Tryz.underlying4 (by kernel_rfl) (by kernel_rfl) rfl hval0 hW (fun h => by obtain ⟨a0, a1, rfl⟩ := lst2 (l := ds) h; exact ⟨rfl, rfl, rfl⟩) all_ExactSafeAt

theorem holds_ExactSafeAt : Rows.FnExactSafeAtSaid :=
  OpenClaim.holds_of_wide 6 Tryz.f6 rfl rfl rfl rfl rfl rfl rfl ⟨rfl, rfl, rfl, rfl, rfl⟩ rfl rfl rfl rfl rfl (by kernel_rfl) Tryz.func6 (by kernel_rfl)
    (of_decide_eq_true (by kernel_rfl)) (by unfold Func.isWrapper; first | (rw [if_pos (by decide +kernel)]; kernel_rfl) | (rw [if_neg (by decide +kernel)]; exact ⟨rfl, rfl⟩))
    (fun os started H enc _ => lifted_ExactSafeAt os started H enc)

#print axioms holds_ExactSafeAt
end Go.Proofs.YtbbjajmimckabaaGreat
