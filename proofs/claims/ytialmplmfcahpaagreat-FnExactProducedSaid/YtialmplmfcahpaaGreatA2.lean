/- FnExactProduced: The program produces from a pick what its specification produces. No condition. -/
import Derived.Test.YtialmplmfcahpaaGreatT5
import Derived.Test.YtialmplmfcahpaaGreatA0
import Derived.Test.YtialmplmfcahpaaGreatP27
set_option linter.unusedVariables false
set_option linter.unusedSimpArgs false
namespace Go.Proofs.YtialmplmfcahpaaGreat
open Go.ChangeShapes Go.WideShapes Go.ChangeAt Go.RowKit Go.Joins Go.Sx
theorem all_ExactProduced (ads : List AD) (h : ShAll Tryz.prog Tryz.f3.params.toList ads) : Ret Tryz.prog 3 ads [.one (B true)] := by
  rw [Tryz.params3] at h
  match ads, h with
  | [a0, a1], ⟨h0, h1, _⟩ =>
    obtain ⟨x0, rfl, w0⟩ := qf5 h0
    obtain ⟨x1, rfl, w1⟩ := qle h1
    exact qEp x0 x1 w0 w1
set_option maxRecDepth 100000 in
theorem lifted_ExactProduced (os : Os) (started : os.Started) (H : Type) (enc : TypeId × Value → H) :
    ReturnsInHanded {} Tryz.checked os 3 .any (Rows.fnExactProducedSpec.pre6 enc Tryz.prog Tryz.f3 Rows.fnExactProducedRow.domain false) (Rows.fnExactProducedSpec.post enc Tryz.prog Tryz.f3 false true false false) := by
  refine returnsInHanded_of_change (C := Tryz.checked) Tryz.own started (by kernel_rfl) Tryz.func3
    (ChangeSpec.witness6 (enc := enc) (C := Tryz.checked) false ⟨#[], #[.agg #[.slice none 0 0, .int .i64 0, .int .i64 0, .slice none 0 0, .slice none 0 0, .slice none 0 0, .slice none 0 0], .agg #[.int .i64 0, .int .i64 0, .int .i64 0]], []⟩ 8 (by kernel_rfl) (by kernel_rfl) (by kernel_rfl) (by kernel_rfl)) ?_
  intro W base args ds gs before hval0 hW hcnd _
  exact qil (fno := 3) Tryz.laidOut (tb := 4) (by kernel_rfl) Tryz.underlying4 (by kernel_rfl) (by kernel_rfl) rfl hval0 hW (fun h => by obtain ⟨a0, a1, rfl⟩ := lst2 (l := ds) h; exact ⟨rfl, rfl, rfl⟩) all_ExactProduced
theorem places_ExactProduced : (Rows.fnExactProducedRow.inPlace == Tryz.prog.inPlace 3) = true := by kernel_rfl
theorem follows_ExactProduced : (Rows.fnExactProducedRow.unfollowed == Tryz.prog.unfollowed 3) = true := by kernel_rfl
theorem recurs_ExactProduced : (Rows.fnExactProducedRow.recurses == Tryz.prog.recurses 3) = true := by kernel_rfl
theorem namedVars_ExactProduced : (Rows.fnExactProducedRow.named == Tryz.prog.varsNamed 3) = true := by kernel_rfl
theorem loopsKeys_ExactProduced : ((Rows.fnExactProducedRow.loops == (Tryz.f3.params.toList ++ Rows.fnExactProducedSpec.plain.varTypes Tryz.prog).any (Tryz.prog.loopsFrom ·)) && (Rows.fnExactProducedRow.wideKeys == (Tryz.f3.params.toList ++ Rows.fnExactProducedSpec.plain.varTypes Tryz.prog ++ Tryz.f3.resultTypes.toList).any (Tryz.prog.wideKeysFrom ·))) = true := by kernel_rfl
theorem joined_ExactProduced : joinedFacts Tryz.prog 3 Tryz.f3 Rows.fnExactProducedSpec Rows.fnExactProducedRow = true :=
  qim (by kernel_rfl) Tryz.laidOut qin (by kernel_rfl) places_ExactProduced follows_ExactProduced recurs_ExactProduced namedVars_ExactProduced (by kernel_rfl) loopsKeys_ExactProduced (by kernel_rfl)
    (by rw [qio]; rfl) (by kernel_rfl) qip (by rw [qiq]; rfl) (by rw [qir]; rfl) (by kernel_rfl) (by kernel_rfl)
theorem holds_ExactProduced : Rows.FnExactProducedSaid :=
  OpenClaim.holds_of_wide 3 Tryz.f3 rfl rfl rfl rfl rfl rfl rfl ⟨rfl, rfl, rfl, rfl, rfl⟩ rfl rfl rfl rfl rfl (by kernel_rfl) Tryz.func3 joined_ExactProduced
    (of_decide_eq_true (by kernel_rfl)) (by unfold Func.isWrapper; first | (rw [if_pos (by decide +kernel)]; kernel_rfl) | (rw [if_neg (by decide +kernel)]; exact ⟨rfl, rfl⟩))
    (fun os started H enc _ => lifted_ExactProduced os started H enc)
#print axioms holds_ExactProduced
end Go.Proofs.YtialmplmfcahpaaGreat
