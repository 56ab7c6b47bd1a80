/- FnExactFrontAll: the program and the reference find the same frontier. No condition. No condition. -/
import Derived.Test.YtbbjajmimckabaaGreatT5
import Derived.Test.YtbbjajmimckabaaGreatP14
set_option linter.unusedVariables false
set_option linter.unusedSimpArgs false
namespace Go.Proofs.YtbbjajmimckabaaGreat
open Go.ChangeShapes Go.WideShapes Go.ChangeAt Go.RowKit Go.Joins Go.Sx

theorem all_ExactFrontAll (ads : List AD) (h : ShAll Tryz.prog Tryz.f5.params.toList ads) : Ret Tryz.prog 5 ads [.one (B true)] := by
  rw [Tryz.params5] at h
  match ads, h with
  | [a0], ⟨h0, _⟩ =>
    obtain ⟨x0, rfl, w0⟩ := Cluster_arg h0
    exact law_FrontAll x0 w0

set_option maxRecDepth 100000 in
theorem lifted_ExactFrontAll (os : Os) (started : os.Started) (H : Type) (enc : TypeId × Value → H) :
    ReturnsInHanded {} Tryz.checked os 5 .any (Rows.fnExactFrontAllSpec.pre6 enc Tryz.prog Tryz.f5 Rows.fnExactFrontAllRow.domain false) (Rows.fnExactFrontAllSpec.post enc Tryz.prog Tryz.f5 false true false false) := by
  refine returnsInHanded_of_change (C := Tryz.checked) Tryz.own started (by kernel_rfl) Tryz.func5
    (ChangeSpec.witness6 (enc := enc) (C := Tryz.checked) false ⟨#[], #[.agg #[.slice none 0 0, .int .i64 0, .int .i64 0, .slice none 0 0, .slice none 0 0, .slice none 0 0, .slice none 0 0]], []⟩ 8 (by kernel_rfl) (by kernel_rfl) (by kernel_rfl) (by kernel_rfl)) ?_
  intro W base args ds gs before hval0 hW hcnd _
  exact law_of_ret (fno := 5) Tryz.laidOut (tb := 4) (by kernel_rfl) Tryz.underlying4 (by kernel_rfl) (by kernel_rfl) rfl hval0 hW (fun h => by obtain ⟨a0, rfl⟩ := lst1 (l := ds) h; exact ⟨rfl, rfl, rfl⟩) all_ExactFrontAll

theorem holds_ExactFrontAll : Rows.FnExactFrontAllSaid :=
  OpenClaim.holds_of_wide 5 Tryz.f5 rfl rfl rfl rfl rfl rfl rfl ⟨rfl, rfl, rfl, rfl, rfl⟩ rfl rfl rfl rfl rfl (by kernel_rfl) Tryz.func5 (by kernel_rfl)
    (of_decide_eq_true (by kernel_rfl)) (by unfold Func.isWrapper; first | (rw [if_pos (by decide +kernel)]; kernel_rfl) | (rw [if_neg (by decide +kernel)]; exact ⟨rfl, rfl⟩))
    (fun os started H enc _ => lifted_ExactFrontAll os started H enc)

#print axioms holds_ExactFrontAll
end Go.Proofs.YtbbjajmimckabaaGreat
