/- FnExactTokenStep: the program's TokenStep answers what the reference's answers, in memory of its own. No condition. -/
import Derived.Test.YtdanpadojemjeaaGreatT5
import Derived.Test.YtdanpadojemjeaaGreatA0
import Derived.Test.YtdanpadojemjeaaGreatP48
set_option linter.unusedVariables false
set_option linter.unusedSimpArgs false
namespace Go.Proofs.YtdanpadojemjeaaGreat
open Go.ChangeShapes Go.WideShapes Go.ChangeAt Go.RowKit Go.Joins Go.Sx
theorem all_ExactTokenStep (ads : List AD) (h : ShAll Tryz.prog Tryz.f4.params.toList ads) : Rt 4 ads [.one (B true)] := by
  rw [Tryz.params4] at h
  match ads, h with
  | [a0, a1], ⟨h0, h1, _⟩ =>
    obtain ⟨x0, rfl, w0⟩ := qoG h0
    obtain ⟨x1, rfl, w1⟩ := qoH h1
    exact qEa x0 x1 w0
set_option maxRecDepth 100000 in
theorem lifted_ExactTokenStep (os : Os) (started : os.Started) (H : Type) (enc : TypeId × Value → H) :
    ReturnsInHanded {} Tryz.checked os 4 .any (Rows.fnExactTokenStepSpec.pre6 enc Tryz.prog Tryz.f4 Rows.fnExactTokenStepRow.domain false) (Rows.fnExactTokenStepSpec.post enc Tryz.prog Tryz.f4 false true false false) := by
  refine returnsInHanded_of_change (C := Tryz.checked) Tryz.own started (by kernel_rfl) Tryz.func4
    (ChangeSpec.witness6 (enc := enc) (C := Tryz.checked) false ⟨#[], #[.agg #[.slice none 0 0, .int .i64 0, .int .i64 0, .slice none 0 0, .slice none 0 0, .slice none 0 0, .slice none 0 0], .int .i64 0], []⟩ 8 (by kernel_rfl) (by kernel_rfl) (by kernel_rfl) (by kernel_rfl)) ?_
  intro W base args ds gs before hval0 hW hcnd _
  exact qom (fno := 4) Tryz.laidOut (tb := 4) (by kernel_rfl) Tryz.underlying4 (by kernel_rfl) (by kernel_rfl) rfl hval0 hW (fun h => by obtain ⟨a0, a1, rfl⟩ := lst2 (l := ds) h; exact ⟨rfl, rfl, rfl⟩) all_ExactTokenStep
theorem places_ExactTokenStep : (Rows.fnExactTokenStepRow.inPlace == Tryz.prog.inPlace 4) = true := by kernel_rfl
theorem follows_ExactTokenStep : (Rows.fnExactTokenStepRow.unfollowed == Tryz.prog.unfollowed 4) = true := by kernel_rfl
theorem recurs_ExactTokenStep : (Rows.fnExactTokenStepRow.recurses == Tryz.prog.recurses 4) = true := by kernel_rfl
theorem namedVars_ExactTokenStep : (Rows.fnExactTokenStepRow.named == Tryz.prog.varsNamed 4) = true := by kernel_rfl
theorem loopsKeys_ExactTokenStep : ((Rows.fnExactTokenStepRow.loops == (Tryz.f4.params.toList ++ Rows.fnExactTokenStepSpec.plain.varTypes Tryz.prog).any (Tryz.prog.loopsFrom ·)) && (Rows.fnExactTokenStepRow.wideKeys == (Tryz.f4.params.toList ++ Rows.fnExactTokenStepSpec.plain.varTypes Tryz.prog ++ Tryz.f4.resultTypes.toList).any (Tryz.prog.wideKeysFrom ·))) = true := by kernel_rfl
theorem joined_ExactTokenStep : joinedFacts Tryz.prog 4 Tryz.f4 Rows.fnExactTokenStepSpec Rows.fnExactTokenStepRow = true :=
  qoI (by kernel_rfl) Tryz.laidOut qoJ (by kernel_rfl) places_ExactTokenStep follows_ExactTokenStep recurs_ExactTokenStep namedVars_ExactTokenStep (by kernel_rfl) loopsKeys_ExactTokenStep (by kernel_rfl)
    (by rw [qoK]; rfl) (by kernel_rfl) qoL (by rw [qoM]; rfl) (by rw [qoN]; rfl) (by kernel_rfl) (by kernel_rfl)
theorem holds_ExactTokenStep : Rows.FnExactTokenStepSaid :=
  OpenClaim.holds_of_wide 4 Tryz.f4 rfl rfl rfl rfl rfl rfl rfl ⟨rfl, rfl, rfl, rfl, rfl⟩ rfl rfl rfl rfl rfl (by kernel_rfl) Tryz.func4 joined_ExactTokenStep
    (of_decide_eq_true (by kernel_rfl)) (by unfold Func.isWrapper; first | (rw [if_pos (by decide +kernel)]; kernel_rfl) | (rw [if_neg (by decide +kernel)]; exact ⟨rfl, rfl⟩))
    (fun os started H enc _ => lifted_ExactTokenStep os started H enc)
#print axioms holds_ExactTokenStep
end Go.Proofs.YtdanpadojemjeaaGreat
