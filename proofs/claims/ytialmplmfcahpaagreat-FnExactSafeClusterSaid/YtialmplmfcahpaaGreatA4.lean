/- FnExactSafeCluster: The program calls a cluster safe exactly where its specification does. No condition. -/
import Derived.Test.YtialmplmfcahpaaGreatT5
import Derived.Test.YtialmplmfcahpaaGreatA0
import Derived.Test.YtialmplmfcahpaaGreatP31
set_option linter.unusedVariables false
set_option linter.unusedSimpArgs false
namespace Go.Proofs.YtialmplmfcahpaaGreat
open Go.ChangeShapes Go.WideShapes Go.ChangeAt Go.RowKit Go.Joins Go.Sx
theorem all_ExactSafeCluster (ads : List AD) (h : ShAll Tryz.prog Tryz.f5.params.toList ads) : Ret Tryz.prog 5 ads [.one (B true)] := by
  rw [Tryz.params5] at h
  match ads, h with
  | [a0], ⟨h0, _⟩ =>
    obtain ⟨x0, rfl, w0⟩ := qf5 h0
    exact law_SafeCluster x0 w0
set_option maxRecDepth 100000 in
theorem lifted_ExactSafeCluster (os : Os) (started : os.Started) (H : Type) (enc : TypeId × Value → H) :
    ReturnsInHanded {} Tryz.checked os 5 .any (Rows.fnExactSafeClusterSpec.pre6 enc Tryz.prog Tryz.f5 Rows.fnExactSafeClusterRow.domain false) (Rows.fnExactSafeClusterSpec.post enc Tryz.prog Tryz.f5 false true false false) := by
  refine returnsInHanded_of_change (C := Tryz.checked) Tryz.own started (by kernel_rfl) Tryz.func5
    (ChangeSpec.witness6 (enc := enc) (C := Tryz.checked) false ⟨#[], #[.agg #[.slice none 0 0, .int .i64 0, .int .i64 0, .slice none 0 0, .slice none 0 0, .slice none 0 0, .slice none 0 0]], []⟩ 8 (by kernel_rfl) (by kernel_rfl) (by kernel_rfl) (by kernel_rfl)) ?_
  intro W base args ds gs before hval0 hW hcnd _
  exact qil (fno := 5) Tryz.laidOut (tb := 4) (by kernel_rfl) Tryz.underlying4 (by kernel_rfl) (by kernel_rfl) rfl hval0 hW (fun h => by obtain ⟨a0, rfl⟩ := lst1 (l := ds) h; exact ⟨rfl, rfl, rfl⟩) all_ExactSafeCluster
theorem places_ExactSafeCluster : (Rows.fnExactSafeClusterRow.inPlace == Tryz.prog.inPlace 5) = true := by kernel_rfl
theorem follows_ExactSafeCluster : (Rows.fnExactSafeClusterRow.unfollowed == Tryz.prog.unfollowed 5) = true := by kernel_rfl
theorem recurs_ExactSafeCluster : (Rows.fnExactSafeClusterRow.recurses == Tryz.prog.recurses 5) = true := by kernel_rfl
theorem namedVars_ExactSafeCluster : (Rows.fnExactSafeClusterRow.named == Tryz.prog.varsNamed 5) = true := by kernel_rfl
theorem loopsKeys_ExactSafeCluster : ((Rows.fnExactSafeClusterRow.loops == (Tryz.f5.params.toList ++ Rows.fnExactSafeClusterSpec.plain.varTypes Tryz.prog).any (Tryz.prog.loopsFrom ·)) && (Rows.fnExactSafeClusterRow.wideKeys == (Tryz.f5.params.toList ++ Rows.fnExactSafeClusterSpec.plain.varTypes Tryz.prog ++ Tryz.f5.resultTypes.toList).any (Tryz.prog.wideKeysFrom ·))) = true := by kernel_rfl
theorem joined_ExactSafeCluster : joinedFacts Tryz.prog 5 Tryz.f5 Rows.fnExactSafeClusterSpec Rows.fnExactSafeClusterRow = true :=
  qim (by kernel_rfl) Tryz.laidOut qin (by kernel_rfl) places_ExactSafeCluster follows_ExactSafeCluster recurs_ExactSafeCluster namedVars_ExactSafeCluster (by kernel_rfl) loopsKeys_ExactSafeCluster (by kernel_rfl)
    (by rw [qio]; rfl) (by kernel_rfl) qip (by rw [qiq]; rfl) (by rw [qir]; rfl) (by kernel_rfl) (by kernel_rfl)
theorem holds_ExactSafeCluster : Rows.FnExactSafeClusterSaid :=
  OpenClaim.holds_of_wide 5 Tryz.f5 rfl rfl rfl rfl rfl rfl rfl ⟨rfl, rfl, rfl, rfl, rfl⟩ rfl rfl rfl rfl rfl (by kernel_rfl) Tryz.func5 joined_ExactSafeCluster
    (of_decide_eq_true (by kernel_rfl)) (by unfold Func.isWrapper; first | (rw [if_pos (by decide +kernel)]; kernel_rfl) | (rw [if_neg (by decide +kernel)]; exact ⟨rfl, rfl⟩))
    (fun os started H enc _ => lifted_ExactSafeCluster os started H enc)
#print axioms holds_ExactSafeCluster
end Go.Proofs.YtialmplmfcahpaaGreat
