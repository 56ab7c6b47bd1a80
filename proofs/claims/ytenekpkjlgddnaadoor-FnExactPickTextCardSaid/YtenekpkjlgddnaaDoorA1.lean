/- FnExactPickText: FnExactPickText: for every pick the text that the program tells is the reference's: the law's function returns true. The card ties the three tables that strconv names to the program's text. No condition. -/
import Derived.Test.YtenekpkjlgddnaaDoorT5
import Derived.Test.YtenekpkjlgddnaaDoorP75
import Derived.Test.YtenekpkjlgddnaaDoorCards
import Derived.Test.YtenekpkjlgddnaaDoorTie
import Derived.OpenShut
import Derived.LaidMore
import Derived.Lay
import Derived.SevenTiedAt
import Derived.Stop.Joined
set_option linter.unusedVariables false
set_option linter.unusedSimpArgs false
namespace Go.Proofs.YtenekpkjlgddnaaDoor
open Go.ChangeShapes Go.WideShapes Go.ChangeAt Go.RowKit Go.Joins Go.Sx

theorem all_ExactPickText (ads : List AD) (h : ShAll Tryd.prog Tryd.f3.params.toList ads) : Ret Tryd.prog 3 ads [.one (B true)] := by
  rw [Tryd.params3] at h
  match ads, h with
  | [a0], ⟨h0, _⟩ =>
    obtain ⟨x0, rfl, w0⟩ := Pick_arg h0
    exact law_PickText x0 w0

set_option maxRecDepth 100000 in
theorem lifted_ExactPickText (os : Os) (started : os.Started) (H : Type) (enc : TypeId × Value → H) :
    ReturnsInHanded {} Tryd.checked os 3 .any (fun w args => (Rows.fnExactPickTextSpec.pre enc Tryd.prog Tryd.f3 Rows.fnExactPickTextRow.domain false w args ∧ laidMetH Tryd.prog Rows.fnExactPickTextRow.laid w) ∧ sizedMet enc Tryd.prog Tryd.f3 (OpenSpec.ofChange Rows.fnExactPickTextSpec) false w args)
      (Rows.fnExactPickTextSpec.post enc Tryd.prog Tryd.f3 false true false false) := by
  refine returnsInHanded_of_change_and (C := Tryd.checked) (X := fun w _ => laidMetH Tryd.prog Rows.fnExactPickTextRow.laid w) (fun _ _ _ hh h => h.of_heap hh) Tryd.own started (by kernel_rfl) Tryd.func3
    (ChangeSpec.witness_shaped (enc := enc) (C := Tryd.checked) (os := os) (X := fun w _ => laidMetH Tryd.prog Rows.fnExactPickTextRow.laid w) false (World.laidAll Tryd.prog os Rows.fnExactPickTextRow.laid) #[.agg #[.int .i64 0, .int .i64 0, .int .i64 0]] 8 (World.laidAll_os _ _ _)
      (World.shaped_of_ZipB (by kernel_rfl) (by kernel_rfl)) (by kernel_rfl) (by kernel_rfl) (by kernel_rfl)
      (by rw [MakeChecks.laidMetH_plain _ _ _ (by kernel_rfl)]; exact laidMet_laidAll _ (by kernel_rfl) (by kernel_rfl))) ?_
  intro W base args ds gs before hval0 hW hcnd _ hL _
  exact law_of_ret (fno := 3) Tryd.laidOut (tb := 4) (by kernel_rfl) Tryd.underlying4 (by kernel_rfl) (by kernel_rfl) rfl hval0 hW (fun h => by obtain ⟨a0, rfl⟩ := lst1 (l := ds) h; exact ⟨rfl, rfl, rfl⟩) (tabs_of hL) all_ExactPickText

theorem places_ExactPickText : (Rows.fnExactPickTextRow.inPlace == Tryd.prog.inPlace 3) = true := by kernel_rfl
theorem follows_ExactPickText : (Rows.fnExactPickTextRow.unfollowed == Tryd.prog.unfollowed 3) = true := by kernel_rfl
theorem recurs_ExactPickText : (Rows.fnExactPickTextRow.recurses == Tryd.prog.recurses 3) = true := by kernel_rfl
theorem namedVars_ExactPickText : (Rows.fnExactPickTextRow.named == Tryd.prog.varsNamed 3) = true := by kernel_rfl
theorem loopsKeys_ExactPickText : ((Rows.fnExactPickTextRow.loops == (Tryd.f3.params.toList ++ Rows.fnExactPickTextSpec.plain.varTypes Tryd.prog).any (Tryd.prog.loopsFrom ·)) && (Rows.fnExactPickTextRow.wideKeys == (Tryd.f3.params.toList ++ Rows.fnExactPickTextSpec.plain.varTypes Tryd.prog ++ Tryd.f3.resultTypes.toList).any (Tryd.prog.wideKeysFrom ·))) = true := by kernel_rfl
theorem joined_ExactPickText : joinedFacts Tryd.prog 3 Tryd.f3 Rows.fnExactPickTextSpec Rows.fnExactPickTextRow = true :=
  joinedFacts_of (by kernel_rfl) Tryd.laidOut mapsRowed_P (by kernel_rfl) places_ExactPickText follows_ExactPickText recurs_ExactPickText namedVars_ExactPickText (by kernel_rfl) loopsKeys_ExactPickText (by kernel_rfl)
    (by rw [plainKeys_P]; rfl) (by kernel_rfl) mayEnter_P (by rw [liftsFinal_P]; rfl) (by rw [make_P]; rfl) (by kernel_rfl) (by kernel_rfl)

theorem holds_ExactPickText : Rows.FnExactPickTextSaid :=
  OpenClaim.holds_of_wide 3 Tryd.f3 rfl rfl rfl rfl rfl rfl rfl ⟨rfl, rfl, rfl, rfl, rfl⟩ rfl rfl rfl rfl rfl (by kernel_rfl) Tryd.func3 joined_ExactPickText
    (of_decide_eq_true (by kernel_rfl)) (by unfold Func.isWrapper; first | (rw [if_pos (by decide +kernel)]; kernel_rfl) | (rw [if_neg (by decide +kernel)]; exact ⟨rfl, rfl⟩))
    (fun os started H enc _ => lifted_ExactPickText os started H enc)

#print axioms holds_ExactPickText
theorem holds_ExactPickTextCard : Rows.FnExactPickTextCardSaid :=
  Claim7.holds_tied_plain_at .later [] [.data, .data, .data] true (true, "0710f6c4eba1987a2e74a68020f23a2b115d5f801b7b7b71f0e4d7a0ad7e165f") false holds_ExactPickText (fun _ h => by cases h) (by kernel_rfl) (fun _ h => by cases h) fnExactPickText_row_tie rfl ⟨rfl, rfl⟩ (by kernel_rfl) rfl
    (fun f fn hf hfn => by
      obtain rfl : f = 3 := Option.some.inj ((show Tryd.prog.funcNamed "loop.example/g00973/laws.FnExactPickText" = some 3 by kernel_rfl).symm.trans hf) |>.symm
      obtain rfl : fn = Tryd.f3 := (Option.some.inj (Tryd.func3.symm.trans hfn)).symm
      exact ⟨by kernel_rfl, fun j t ht => by
        have hm : t ∈ Tryd.f3.params.toList := by simpa using Array.mem_of_getElem? ht
        have hall : (Tryd.f3.params.toList.all fun u => !Tryd.prog.wantsStandIn u) = true := by kernel_rfl
        exact (show Tryd.prog.wantsStandIn t = false by simpa using List.all_eq_true.1 hall t hm)⟩)
    (by kernel_rfl)

#print axioms holds_ExactPickTextCard
end Go.Proofs.YtenekpkjlgddnaaDoor
