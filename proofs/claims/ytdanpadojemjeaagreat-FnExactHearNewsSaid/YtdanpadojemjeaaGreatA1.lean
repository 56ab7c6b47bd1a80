/- FnExactHearNews: the program's HearNews answers what the reference's answers, in memory of its own. No condition. -/
import Derived.Test.YtdanpadojemjeaaGreatT5
import Derived.Test.YtdanpadojemjeaaGreatA0
import Derived.Test.YtdanpadojemjeaaGreatP45
set_option linter.unusedVariables false
set_option linter.unusedSimpArgs false
namespace Go.Proofs.YtdanpadojemjeaaGreat
open Go.ChangeShapes Go.WideShapes Go.ChangeAt Go.RowKit Go.Joins Go.Sx
theorem all_ExactHearNews (ads : List AD) (h : ShAll Tryz.prog Tryz.f3.params.toList ads) : Rt 3 ads [.one (B true)] := by
  rw [Tryz.params3] at h
  match ads, h with
  | [a0, a1], ⟨h0, h1, _⟩ =>
    obtain ⟨x0, rfl, w0⟩ := qog h0
    obtain ⟨x1, rfl, w1⟩ := qoh h1
    exact qCX x0 x1 w0
set_option maxRecDepth 100000 in
theorem lifted_ExactHearNews (os : Os) (started : os.Started) (H : Type) (enc : TypeId × Value → H) :
    ReturnsInHanded {} Tryz.checked os 3 .any (Rows.fnExactHearNewsSpec.pre6 enc Tryz.prog Tryz.f3 Rows.fnExactHearNewsRow.domain false) (Rows.fnExactHearNewsSpec.post enc Tryz.prog Tryz.f3 false true false false) := by
  refine returnsInHanded_of_change (C := Tryz.checked) Tryz.own started (by kernel_rfl) Tryz.func3
    (ChangeSpec.witness6 (enc := enc) (C := Tryz.checked) false ⟨#[], #[.agg #[.slice none 0 0, .int .i64 0, .int .i64 0, .slice none 0 0, .slice none 0 0, .slice none 0 0, .slice none 0 0], .int .i64 0], []⟩ 8 (by kernel_rfl) (by kernel_rfl) (by kernel_rfl) (by kernel_rfl)) ?_
  intro W base args ds gs before hval0 hW hcnd _
  exact qnW (fno := 3) Tryz.laidOut (tb := 4) (by kernel_rfl) Tryz.underlying4 (by kernel_rfl) (by kernel_rfl) rfl hval0 hW (fun h => by obtain ⟨a0, a1, rfl⟩ := lst2 (l := ds) h; exact ⟨rfl, rfl, rfl⟩) all_ExactHearNews
theorem places_ExactHearNews : (Rows.fnExactHearNewsRow.inPlace == Tryz.prog.inPlace 3) = true := by kernel_rfl
theorem follows_ExactHearNews : (Rows.fnExactHearNewsRow.unfollowed == Tryz.prog.unfollowed 3) = true := by kernel_rfl
theorem recurs_ExactHearNews : (Rows.fnExactHearNewsRow.recurses == Tryz.prog.recurses 3) = true := by kernel_rfl
theorem namedVars_ExactHearNews : (Rows.fnExactHearNewsRow.named == Tryz.prog.varsNamed 3) = true := by kernel_rfl
theorem loopsKeys_ExactHearNews : ((Rows.fnExactHearNewsRow.loops == (Tryz.f3.params.toList ++ Rows.fnExactHearNewsSpec.plain.varTypes Tryz.prog).any (Tryz.prog.loopsFrom ·)) && (Rows.fnExactHearNewsRow.wideKeys == (Tryz.f3.params.toList ++ Rows.fnExactHearNewsSpec.plain.varTypes Tryz.prog ++ Tryz.f3.resultTypes.toList).any (Tryz.prog.wideKeysFrom ·))) = true := by kernel_rfl
theorem joined_ExactHearNews : joinedFacts Tryz.prog 3 Tryz.f3 Rows.fnExactHearNewsSpec Rows.fnExactHearNewsRow = true :=
  qoi (by kernel_rfl) Tryz.laidOut qoj (by kernel_rfl) places_ExactHearNews follows_ExactHearNews recurs_ExactHearNews namedVars_ExactHearNews (by kernel_rfl) loopsKeys_ExactHearNews (by kernel_rfl)
    (by rw [qok]; rfl) (by kernel_rfl) qol (by rw [qom]; rfl) (by rw [qon]; rfl) (by kernel_rfl) (by kernel_rfl)
theorem holds_ExactHearNews : Rows.FnExactHearNewsSaid :=
  OpenClaim.holds_of_wide 3 Tryz.f3 rfl rfl rfl rfl rfl rfl rfl ⟨rfl, rfl, rfl, rfl, rfl⟩ rfl rfl rfl rfl rfl (by kernel_rfl) Tryz.func3 joined_ExactHearNews
    (of_decide_eq_true (by kernel_rfl)) (by unfold Func.isWrapper; first | (rw [if_pos (by decide +kernel)]; kernel_rfl) | (rw [if_neg (by decide +kernel)]; exact ⟨rfl, rfl⟩))
    (fun os started H enc _ => lifted_ExactHearNews os started H enc)
#print axioms holds_ExactHearNews
end Go.Proofs.YtdanpadojemjeaaGreat
