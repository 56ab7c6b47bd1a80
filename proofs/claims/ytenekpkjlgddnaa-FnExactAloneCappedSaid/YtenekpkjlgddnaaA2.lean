/- FnExactAloneCapped: the program's AloneCapped returns what the reference's returns, for all arguments. No condition. -/
import Derived.Test.YtenekpkjlgddnaaT5
import Derived.Test.YtenekpkjlgddnaaP69
set_option linter.unusedVariables false
set_option linter.unusedSimpArgs false
namespace Go.Proofs.Ytenekpkjlgddnaa
open Go.ChangeShapes Go.WideShapes Go.ChangeAt Go.RowKit Go.Joins Go.Sx

theorem all_ExactAloneCapped (ads : List AD) (h : ShAll Try.prog Try.f3.params.toList ads) : Ret Try.prog 3 ads [.one (B true)] := by
  rw [Try.params3] at h
  match ads, h with
  | [a0, a1, a2], ⟨h0, h1, h2, _⟩ =>
    obtain ⟨x0, rfl, w0⟩ := Graph_arg h0
    obtain ⟨x1, rfl, l1, w1⟩ := Records_arg h1
    obtain ⟨x2, rfl, w2⟩ := int_arg h2
    exact law_AloneCapped x0 x1 x2 w0 l1 w1

set_option maxRecDepth 100000 in
theorem lifted_ExactAloneCapped (os : Os) (started : os.Started) (H : Type) (enc : TypeId × Value → H) :
    ReturnsInHanded {} Try.checked os 3 .any (Rows.fnExactAloneCappedSpec.pre6 enc Try.prog Try.f3 Rows.fnExactAloneCappedRow.domain false) (Rows.fnExactAloneCappedSpec.post enc Try.prog Try.f3 false true false false) := by
  refine returnsInHanded_of_change (C := Try.checked) Try.own started (by kernel_rfl) Try.func3
    (ChangeSpec.witness6 (enc := enc) (C := Try.checked) false ⟨#[], #[.agg #[.slice none 0 0, .int .i64 0, .int .i64 0], .slice none 0 0, .int .i64 0], []⟩ 8 (by kernel_rfl) (by kernel_rfl) (by kernel_rfl) (by kernel_rfl)) ?_
  intro W base args ds gs before hval0 hW hcnd _
  exact law_of_ret (fno := 3) Try.laidOut (tb := 4) (by kernel_rfl) Try.underlying4 (by kernel_rfl) (by kernel_rfl) rfl hval0 hW (fun h => by obtain ⟨a0, a1, a2, rfl⟩ := lst3 (l := ds) h; exact ⟨rfl, rfl, rfl⟩) all_ExactAloneCapped

theorem places_ExactAloneCapped : (Rows.fnExactAloneCappedRow.inPlace == Try.prog.inPlace 3) = true := by kernel_rfl
theorem follows_ExactAloneCapped : (Rows.fnExactAloneCappedRow.unfollowed == Try.prog.unfollowed 3) = true := by kernel_rfl
theorem recurs_ExactAloneCapped : (Rows.fnExactAloneCappedRow.recurses == Try.prog.recurses 3) = true := by kernel_rfl
theorem namedVars_ExactAloneCapped : (Rows.fnExactAloneCappedRow.named == Try.prog.varsNamed 3) = true := by kernel_rfl
theorem loopsKeys_ExactAloneCapped : ((Rows.fnExactAloneCappedRow.loops == (Try.f3.params.toList ++ Rows.fnExactAloneCappedSpec.plain.varTypes Try.prog).any (Try.prog.loopsFrom ·)) && (Rows.fnExactAloneCappedRow.wideKeys == (Try.f3.params.toList ++ Rows.fnExactAloneCappedSpec.plain.varTypes Try.prog ++ Try.f3.resultTypes.toList).any (Try.prog.wideKeysFrom ·))) = true := by kernel_rfl
theorem joined_ExactAloneCapped : joinedFacts Try.prog 3 Try.f3 Rows.fnExactAloneCappedSpec Rows.fnExactAloneCappedRow = true :=
  joinedFacts_of (by kernel_rfl) Try.laidOut mapsRowed_P (by kernel_rfl) places_ExactAloneCapped follows_ExactAloneCapped recurs_ExactAloneCapped namedVars_ExactAloneCapped (by kernel_rfl) loopsKeys_ExactAloneCapped (by kernel_rfl)
    (by rw [plainKeys_P]; rfl) (by kernel_rfl) mayEnter_P (by rw [liftsFinal_P]; rfl) (by rw [make_P]; rfl) (by kernel_rfl) (by kernel_rfl)

theorem holds_ExactAloneCapped : Rows.FnExactAloneCappedSaid :=
  OpenClaim.holds_of_wide 3 Try.f3 rfl rfl rfl rfl rfl rfl rfl ⟨rfl, rfl, rfl, rfl, rfl⟩ rfl rfl rfl rfl rfl (by kernel_rfl) Try.func3 joined_ExactAloneCapped
    (of_decide_eq_true (by kernel_rfl)) (by unfold Func.isWrapper; first | (rw [if_pos (by decide +kernel)]; kernel_rfl) | (rw [if_neg (by decide +kernel)]; exact ⟨rfl, rfl⟩))
    (fun os started H enc _ => lifted_ExactAloneCapped os started H enc)

#print axioms holds_ExactAloneCapped
end Go.Proofs.Ytenekpkjlgddnaa
