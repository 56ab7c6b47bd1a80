/- FnWorked: The law FnWorked answers true at every text of bytes. No condition. -/
import Derived.Test.YtdchjefneblpgaaGreatA0
import Derived.Test.YtdchjefneblpgaaGreatP115
set_option linter.unusedVariables false
set_option linter.unusedSimpArgs false
namespace Go.Proofs.YtdchjefneblpgaaGreat
open Go.ChangeShapes Go.WideShapes Go.ChangeAt Go.RowKit Go.Joins Go.Sx
theorem all_Worked(fH:List cz)(h:Bc Tryz.prog Tryz.f6.params.toList fH):ar 6 fH [.one (B true)]:=by
 rw[Tryz.params6]at h
 match fH,h with
 | [a0],⟨b5,_⟩=>
  obtain⟨hc,rfl,fo,w0⟩:=alf b5;exact aiM hc w0
set_option maxRecDepth 100000 in
theorem lifted_Worked(os:Os)(started:os.Started)(H:Type)(enc:TypeId×Value->H):
  ReturnsInHanded {} Tryz.checked os 6 .any (Rows.fnWorkedSpec.pre6 enc Tryz.prog Tryz.f6 Rows.fnWorkedRow.domain false) (Rows.fnWorkedSpec.post enc Tryz.prog Tryz.f6 false true false false):=by
 refine returnsInHanded_of_change (C:=Tryz.checked) Tryz.own started (by kernel_rfl) Tryz.func6
  (ChangeSpec.witness6 (enc:=enc) (C:=Tryz.checked) false ⟨#[],#[.slice none 0 0],[]⟩ 8 (by kernel_rfl) (by kernel_rfl) (by kernel_rfl) (by kernel_rfl)) ?_
 intro W base args ds gs before XF su atK _;exact akU (fno:=6) Tryz.laidOut (tb:=4) (by kernel_rfl) Tryz.underlying4 (by kernel_rfl) (by kernel_rfl) rfl XF su (fun h=>by obtain⟨a0,rfl⟩:=X2 (l:=ds) h;exact⟨rfl,rfl,rfl⟩) (fun x ak=>by cases ak) all_Worked
theorem places_Worked:(Rows.fnWorkedRow.inPlace==Tryz.prog.inPlace 6)=true:=by kernel_rfl
theorem follows_Worked:(Rows.fnWorkedRow.unfollowed==Tryz.prog.unfollowed 6)=true:=by kernel_rfl
theorem recurs_Worked:(Rows.fnWorkedRow.recurses==Tryz.prog.recurses 6)=true:=by kernel_rfl
theorem namedVars_Worked:(Rows.fnWorkedRow.named==Tryz.prog.varsNamed 6)=true:=by kernel_rfl
theorem loopsKeys_Worked:((Rows.fnWorkedRow.loops==(Tryz.f6.params.toList++Rows.fnWorkedSpec.plain.varTypes Tryz.prog).any (Tryz.prog.loopsFrom ·))&&(Rows.fnWorkedRow.wideKeys==(Tryz.f6.params.toList++Rows.fnWorkedSpec.plain.varTypes Tryz.prog++Tryz.f6.resultTypes.toList).any (Tryz.prog.wideKeysFrom ·)))=true:=by kernel_rfl
theorem joined_Worked:joinedFacts Tryz.prog 6 Tryz.f6 Rows.fnWorkedSpec Rows.fnWorkedRow=true:=
 aj7 (by kernel_rfl) Tryz.laidOut aj8 (by kernel_rfl) places_Worked follows_Worked recurs_Worked namedVars_Worked (by kernel_rfl) loopsKeys_Worked (by kernel_rfl)
  (by rw[aj9];rfl) (by kernel_rfl) aka (by rw[akb];rfl) (by rw[akc];rfl) (by kernel_rfl) (by kernel_rfl)
theorem holds_Worked:Rows.FnWorkedSaid:=
 OpenClaim.holds_of_wide 6 Tryz.f6 rfl rfl rfl rfl rfl rfl rfl ⟨rfl,rfl,rfl,rfl,rfl⟩ rfl rfl rfl rfl rfl (by kernel_rfl) Tryz.func6 joined_Worked
  (of_decide_eq_true (by kernel_rfl)) (by unfold Func.isWrapper;first | (rw[bM (by decide +kernel)];kernel_rfl) | (rw[bG (by decide +kernel)];exact⟨rfl,rfl⟩))
  (fun os started H enc _=>lifted_Worked os started H enc)
#print axioms holds_Worked
end Go.Proofs.YtdchjefneblpgaaGreat
