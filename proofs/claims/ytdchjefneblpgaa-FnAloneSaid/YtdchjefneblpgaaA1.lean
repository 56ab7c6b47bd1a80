/- FnAlone: The law FnAlone answers true at every text of bytes. No condition. -/
import Derived.Test.YtdchjefneblpgaaA0
import Derived.Test.YtdchjefneblpgaaP127
set_option linter.unusedVariables false
set_option linter.unusedSimpArgs false
namespace Go.Proofs.Ytdchjefneblpgaa
open Go.ChangeShapes Go.WideShapes Go.ChangeAt Go.RowKit Go.Joins Go.Sx
theorem all_Alone(e1:List b7)(h:xA Try.prog Try.f3.params.toList e1):aA 3 e1 [.one (B true)]:=by
 rw[Try.params3]at h
 match e1,h with
 | [a0],⟨bX,_⟩=>
  obtain⟨ri,rfl,fO,w0⟩:=acs bX;exact adl ri w0
set_option maxRecDepth 100000 in
theorem lifted_Alone(os:Os)(started:os.Started)(H:Type)(enc:TypeId×Value->H):
  ReturnsInHanded {} Try.checked os 3 .any (Rows.fnAloneSpec.pre6 enc Try.prog Try.f3 Rows.fnAloneRow.domain false) (Rows.fnAloneSpec.post enc Try.prog Try.f3 false true false false):=by
 refine returnsInHanded_of_change (C:=Try.checked) Try.own started (by kernel_rfl) Try.func3
  (ChangeSpec.witness6 (enc:=enc) (C:=Try.checked) false ⟨#[],#[.slice none 0 0],[]⟩ 8 (by kernel_rfl) (by kernel_rfl) (by kernel_rfl) (by kernel_rfl)) ?_
 intro W base args ds gs before QS vl afe _;exact Sk (fno:=3) Try.laidOut (tb:=4) (by kernel_rfl) Try.underlying4 (by kernel_rfl) (by kernel_rfl) rfl QS vl (fun h=>by obtain⟨a0,rfl⟩:=Rg (l:=ds) h;exact⟨rfl,rfl,rfl⟩) (fun x ae=>by cases ae) all_Alone
theorem places_Alone:(Rows.fnAloneRow.inPlace==Try.prog.inPlace 3)=true:=by kernel_rfl
theorem follows_Alone:(Rows.fnAloneRow.unfollowed==Try.prog.unfollowed 3)=true:=by kernel_rfl
theorem recurs_Alone:(Rows.fnAloneRow.recurses==Try.prog.recurses 3)=true:=by kernel_rfl
theorem namedVars_Alone:(Rows.fnAloneRow.named==Try.prog.varsNamed 3)=true:=by kernel_rfl
theorem loopsKeys_Alone:((Rows.fnAloneRow.loops==(Try.f3.params.toList++Rows.fnAloneSpec.plain.varTypes Try.prog).any (Try.prog.loopsFrom ·))&&(Rows.fnAloneRow.wideKeys==(Try.f3.params.toList++Rows.fnAloneSpec.plain.varTypes Try.prog++Try.f3.resultTypes.toList).any (Try.prog.wideKeysFrom ·)))=true:=by kernel_rfl
theorem joined_Alone:joinedFacts Try.prog 3 Try.f3 Rows.fnAloneSpec Rows.fnAloneRow=true:=
 Sn (by kernel_rfl) Try.laidOut Sp (by kernel_rfl) places_Alone follows_Alone recurs_Alone namedVars_Alone (by kernel_rfl) loopsKeys_Alone (by kernel_rfl)
  (by rw[Sq];rfl) (by kernel_rfl) Sr (by rw[Ss];rfl) (by rw[St];rfl) (by kernel_rfl) (by kernel_rfl)
theorem holds_Alone:Rows.FnAloneSaid:=
 OpenClaim.holds_of_wide 3 Try.f3 rfl rfl rfl rfl rfl rfl rfl ⟨rfl,rfl,rfl,rfl,rfl⟩ rfl rfl rfl rfl rfl (by kernel_rfl) Try.func3 joined_Alone
  (of_decide_eq_true (by kernel_rfl)) (by unfold Func.isWrapper;first | (rw[bb (by decide +kernel)];kernel_rfl) | (rw[aZ (by decide +kernel)];exact⟨rfl,rfl⟩))
  (fun os started H enc _=>lifted_Alone os started H enc)
#print axioms holds_Alone
end Go.Proofs.Ytdchjefneblpgaa
