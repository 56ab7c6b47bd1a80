/- FnOneLess: whatever the bytes that a case is drawn from, the law's function returns true: a list without one record and with it again is the same bag. No condition. -/
import Derived.Test.YtenekpkjlgddnaaT5
import Derived.Test.YtenekpkjlgddnaaA0
import Derived.Test.YtenekpkjlgddnaaP64
set_option linter.unusedVariables false
set_option linter.unusedSimpArgs false
namespace Go.Proofs.Ytenekpkjlgddnaa
open Go.ChangeShapes Go.WideShapes Go.ChangeAt Go.RowKit Go.Joins Go.Sx

theorem all_OneLess (ads : List AD) (h : ShAll Try.prog Try.f4.params.toList ads) : Ret Try.prog 4 ads [.one (B true)] := by
  rw [Try.params4] at h
  match ads, h with
  | [a0], ⟨h0, _⟩ =>
    obtain ⟨x0, rfl, l0, w0⟩ := bytes_arg h0
    exact law_OneLess x0 w0

set_option maxRecDepth 100000 in
theorem lifted_OneLess (os : Os) (started : os.Started) (H : Type) (enc : TypeId × Value → H) :
    ReturnsInHanded {} Try.checked os 4 .any (Rows.fnOneLessSpec.pre6 enc Try.prog Try.f4 Rows.fnOneLessRow.domain false) (Rows.fnOneLessSpec.post enc Try.prog Try.f4 false true false false) := by
  refine returnsInHanded_of_change (C := Try.checked) Try.own started (by kernel_rfl) Try.func4
    (ChangeSpec.witness6 (enc := enc) (C := Try.checked) false ⟨#[], #[.slice none 0 0], []⟩ 8 (by kernel_rfl) (by kernel_rfl) (by kernel_rfl) (by kernel_rfl)) ?_
  intro W base args ds gs before hval0 hW hcnd _
  exact law_of_ret (fno := 4) Try.laidOut (tb := 4) (by kernel_rfl) Try.underlying4 (by kernel_rfl) (by kernel_rfl) rfl hval0 hW (fun h => by obtain ⟨a0, rfl⟩ := lst1 (l := ds) h; exact ⟨rfl, rfl, rfl⟩) all_OneLess

theorem places_OneLess : (Rows.fnOneLessRow.inPlace == Try.prog.inPlace 4) = true := by kernel_rfl
theorem follows_OneLess : (Rows.fnOneLessRow.unfollowed == Try.prog.unfollowed 4) = true := by kernel_rfl
theorem recurs_OneLess : (Rows.fnOneLessRow.recurses == Try.prog.recurses 4) = true := by kernel_rfl
theorem namedVars_OneLess : (Rows.fnOneLessRow.named == Try.prog.varsNamed 4) = true := by kernel_rfl
theorem loopsKeys_OneLess : ((Rows.fnOneLessRow.loops == (Try.f4.params.toList ++ Rows.fnOneLessSpec.plain.varTypes Try.prog).any (Try.prog.loopsFrom ·)) && (Rows.fnOneLessRow.wideKeys == (Try.f4.params.toList ++ Rows.fnOneLessSpec.plain.varTypes Try.prog ++ Try.f4.resultTypes.toList).any (Try.prog.wideKeysFrom ·))) = true := by kernel_rfl
theorem joined_OneLess : joinedFacts Try.prog 4 Try.f4 Rows.fnOneLessSpec Rows.fnOneLessRow = true :=
  joinedFacts_of (by kernel_rfl) Try.laidOut mapsRowed_P (by kernel_rfl) places_OneLess follows_OneLess recurs_OneLess namedVars_OneLess (by kernel_rfl) loopsKeys_OneLess (by kernel_rfl)
    (by rw [plainKeys_P]; rfl) (by kernel_rfl) mayEnter_P (by rw [liftsFinal_P]; rfl) (by rw [make_P]; rfl) (by kernel_rfl) (by kernel_rfl)

theorem holds_OneLess : Rows.FnOneLessSaid :=
  OpenClaim.holds_of_wide 4 Try.f4 rfl rfl rfl rfl rfl rfl rfl ⟨rfl, rfl, rfl, rfl, rfl⟩ rfl rfl rfl rfl rfl (by kernel_rfl) Try.func4 joined_OneLess
    (of_decide_eq_true (by kernel_rfl)) (by unfold Func.isWrapper; first | (rw [if_pos (by decide +kernel)]; kernel_rfl) | (rw [if_neg (by decide +kernel)]; exact ⟨rfl, rfl⟩))
    (fun os started H enc _ => lifted_OneLess os started H enc)

#print axioms holds_OneLess
end Go.Proofs.Ytenekpkjlgddnaa
