/- FnExactStepKind: The program names the kind of a step as its specification does. No condition. -/
import Derived.Test.YtialmplmfcahpaaGreatT5
import Derived.Test.YtialmplmfcahpaaGreatA0
import Derived.Test.YtialmplmfcahpaaGreatP27
set_option linter.unusedVariables false
set_option linter.unusedSimpArgs false
namespace Go.Proofs.YtialmplmfcahpaaGreat
open Go.ChangeShapes Go.WideShapes Go.ChangeAt Go.RowKit Go.Joins Go.Sx
theorem all_ExactStepKind (ads : List AD) (h : ShAll Tryz.prog Tryz.f4.params.toList ads) : Ret Tryz.prog 4 ads [.one (B true)] := by
  rw [Tryz.params4] at h
  match ads, h with
  | [a0, a1, a2], ⟨h0, h1, h2, _⟩ =>
    obtain ⟨x0, rfl, w0⟩ := qf5 h0
    obtain ⟨x1, rfl, w1⟩ := qf5 h1
    obtain ⟨x2, rfl, w2⟩ := qle h2
    exact qEq x0 x1 x2 w0 w1 w2
set_option maxRecDepth 100000 in
theorem lifted_ExactStepKind (os : Os) (started : os.Started) (H : Type) (enc : TypeId × Value → H) :
    ReturnsInHanded {} Tryz.checked os 4 .any (Rows.fnExactStepKindSpec.pre6 enc Tryz.prog Tryz.f4 Rows.fnExactStepKindRow.domain false) (Rows.fnExactStepKindSpec.post enc Tryz.prog Tryz.f4 false true false false) := by
  refine returnsInHanded_of_change (C := Tryz.checked) Tryz.own started (by kernel_rfl) Tryz.func4
    (ChangeSpec.witness6 (enc := enc) (C := Tryz.checked) false ⟨#[], #[.agg #[.slice none 0 0, .int .i64 0, .int .i64 0, .slice none 0 0, .slice none 0 0, .slice none 0 0, .slice none 0 0], .agg #[.slice none 0 0, .int .i64 0, .int .i64 0, .slice none 0 0, .slice none 0 0, .slice none 0 0, .slice none 0 0], .agg #[.int .i64 0, .int .i64 0, .int .i64 0]], []⟩ 8 (by kernel_rfl) (by kernel_rfl) (by kernel_rfl) (by kernel_rfl)) ?_
  intro W base args ds gs before hval0 hW hcnd _
  exact qil (fno := 4) Tryz.laidOut (tb := 4) (by kernel_rfl) Tryz.underlying4 (by kernel_rfl) (by kernel_rfl) rfl hval0 hW (fun h => by obtain ⟨a0, a1, a2, rfl⟩ := lst3 (l := ds) h; exact ⟨rfl, rfl, rfl⟩) all_ExactStepKind
theorem places_ExactStepKind : (Rows.fnExactStepKindRow.inPlace == Tryz.prog.inPlace 4) = true := by kernel_rfl
theorem follows_ExactStepKind : (Rows.fnExactStepKindRow.unfollowed == Tryz.prog.unfollowed 4) = true := by kernel_rfl
theorem recurs_ExactStepKind : (Rows.fnExactStepKindRow.recurses == Tryz.prog.recurses 4) = true := by kernel_rfl
theorem namedVars_ExactStepKind : (Rows.fnExactStepKindRow.named == Tryz.prog.varsNamed 4) = true := by kernel_rfl
theorem loopsKeys_ExactStepKind : ((Rows.fnExactStepKindRow.loops == (Tryz.f4.params.toList ++ Rows.fnExactStepKindSpec.plain.varTypes Tryz.prog).any (Tryz.prog.loopsFrom ·)) && (Rows.fnExactStepKindRow.wideKeys == (Tryz.f4.params.toList ++ Rows.fnExactStepKindSpec.plain.varTypes Tryz.prog ++ Tryz.f4.resultTypes.toList).any (Tryz.prog.wideKeysFrom ·))) = true := by kernel_rfl
theorem joined_ExactStepKind : joinedFacts Tryz.prog 4 Tryz.f4 Rows.fnExactStepKindSpec Rows.fnExactStepKindRow = true :=
  qim (by kernel_rfl) Tryz.laidOut qin (by kernel_rfl) places_ExactStepKind follows_ExactStepKind recurs_ExactStepKind namedVars_ExactStepKind (by kernel_rfl) loopsKeys_ExactStepKind (by kernel_rfl)
    (by rw [qio]; rfl) (by kernel_rfl) qip (by rw [qiq]; rfl) (by rw [qir]; rfl) (by kernel_rfl) (by kernel_rfl)
theorem holds_ExactStepKind : Rows.FnExactStepKindSaid :=
  OpenClaim.holds_of_wide 4 Tryz.f4 rfl rfl rfl rfl rfl rfl rfl ⟨rfl, rfl, rfl, rfl, rfl⟩ rfl rfl rfl rfl rfl (by kernel_rfl) Tryz.func4 joined_ExactStepKind
    (of_decide_eq_true (by kernel_rfl)) (by unfold Func.isWrapper; first | (rw [if_pos (by decide +kernel)]; kernel_rfl) | (rw [if_neg (by decide +kernel)]; exact ⟨rfl, rfl⟩))
    (fun os started H enc _ => lifted_ExactStepKind os started H enc)
#print axioms holds_ExactStepKind
end Go.Proofs.YtialmplmfcahpaaGreat
