/- FnExactRightAt: The program names the right records at an epoch exactly where its specification does. No condition. -/
import Derived.Test.YtialmplmfcahpaaGreatT5
import Derived.Test.YtialmplmfcahpaaGreatA0
import Derived.Test.YtialmplmfcahpaaGreatP24
set_option linter.unusedVariables false
set_option linter.unusedSimpArgs false
namespace Go.Proofs.YtialmplmfcahpaaGreat
open Go.ChangeShapes Go.WideShapes Go.ChangeAt Go.RowKit Go.Joins Go.Sx
theorem all_ExactRightAt (ads : List AD) (h : ShAll Tryz.prog Tryz.f6.params.toList ads) : Ret Tryz.prog 6 ads [.one (B true)] := by
  rw [Tryz.params6] at h
  match ads, h with
  | [a0, a1, a2], ⟨h0, h1, h2, _⟩ =>
    obtain ⟨x0, rfl, w0⟩ := qf5 h0
    obtain ⟨x1, rfl, l1, w1⟩ := qoH h1
    obtain ⟨x2, rfl, w2⟩ := qoI h2
    exact qEa x0 x1 x2 w0 l1 w1
set_option maxRecDepth 100000 in
theorem lifted_ExactRightAt (os : Os) (started : os.Started) (H : Type) (enc : TypeId × Value → H) :
    ReturnsInHanded {} Tryz.checked os 6 .any (Rows.fnExactRightAtSpec.pre6 enc Tryz.prog Tryz.f6 Rows.fnExactRightAtRow.domain false) (Rows.fnExactRightAtSpec.post enc Tryz.prog Tryz.f6 false true false false) := by
  refine returnsInHanded_of_change (C := Tryz.checked) Tryz.own started (by kernel_rfl) Tryz.func6
    (ChangeSpec.witness6 (enc := enc) (C := Tryz.checked) false ⟨#[], #[.agg #[.slice none 0 0, .int .i64 0, .int .i64 0, .slice none 0 0, .slice none 0 0, .slice none 0 0, .slice none 0 0], .slice none 0 0, .int .i64 0], []⟩ 8 (by kernel_rfl) (by kernel_rfl) (by kernel_rfl) (by kernel_rfl)) ?_
  intro W base args ds gs before hval0 hW hcnd _
  exact qil (fno := 6) Tryz.laidOut (tb := 4) (by kernel_rfl) Tryz.underlying4 (by kernel_rfl) (by kernel_rfl) rfl hval0 hW (fun h => by obtain ⟨a0, a1, a2, rfl⟩ := lst3 (l := ds) h; exact ⟨rfl, rfl, rfl⟩) all_ExactRightAt
theorem places_ExactRightAt : (Rows.fnExactRightAtRow.inPlace == Tryz.prog.inPlace 6) = true := by kernel_rfl
theorem follows_ExactRightAt : (Rows.fnExactRightAtRow.unfollowed == Tryz.prog.unfollowed 6) = true := by kernel_rfl
theorem recurs_ExactRightAt : (Rows.fnExactRightAtRow.recurses == Tryz.prog.recurses 6) = true := by kernel_rfl
theorem namedVars_ExactRightAt : (Rows.fnExactRightAtRow.named == Tryz.prog.varsNamed 6) = true := by kernel_rfl
theorem loopsKeys_ExactRightAt : ((Rows.fnExactRightAtRow.loops == (Tryz.f6.params.toList ++ Rows.fnExactRightAtSpec.plain.varTypes Tryz.prog).any (Tryz.prog.loopsFrom ·)) && (Rows.fnExactRightAtRow.wideKeys == (Tryz.f6.params.toList ++ Rows.fnExactRightAtSpec.plain.varTypes Tryz.prog ++ Tryz.f6.resultTypes.toList).any (Tryz.prog.wideKeysFrom ·))) = true := by kernel_rfl
theorem joined_ExactRightAt : joinedFacts Tryz.prog 6 Tryz.f6 Rows.fnExactRightAtSpec Rows.fnExactRightAtRow = true :=
  qim (by kernel_rfl) Tryz.laidOut qin (by kernel_rfl) places_ExactRightAt follows_ExactRightAt recurs_ExactRightAt namedVars_ExactRightAt (by kernel_rfl) loopsKeys_ExactRightAt (by kernel_rfl)
    (by rw [qio]; rfl) (by kernel_rfl) qip (by rw [qiq]; rfl) (by rw [qir]; rfl) (by kernel_rfl) (by kernel_rfl)
theorem holds_ExactRightAt : Rows.FnExactRightAtSaid :=
  OpenClaim.holds_of_wide 6 Tryz.f6 rfl rfl rfl rfl rfl rfl rfl ⟨rfl, rfl, rfl, rfl, rfl⟩ rfl rfl rfl rfl rfl (by kernel_rfl) Tryz.func6 joined_ExactRightAt
    (of_decide_eq_true (by kernel_rfl)) (by unfold Func.isWrapper; first | (rw [if_pos (by decide +kernel)]; kernel_rfl) | (rw [if_neg (by decide +kernel)]; exact ⟨rfl, rfl⟩))
    (fun os started H enc _ => lifted_ExactRightAt os started H enc)
#print axioms holds_ExactRightAt
end Go.Proofs.YtialmplmfcahpaaGreat
