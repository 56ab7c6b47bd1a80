/- FnRight: The law FnRight answers true at every text of bytes. No condition. -/
import Derived.Test.YtdchjefneblpgaaGreatA0
import Derived.Test.YtdchjefneblpgaaGreatP108
set_option linter.unusedVariables false
set_option linter.unusedSimpArgs false
namespace Go.Proofs.YtdchjefneblpgaaGreat
open Go.ChangeShapes Go.WideShapes Go.ChangeAt Go.RowKit Go.Joins Go.Sx
theorem all_Right(gZ:List cL)(h:Ff Tryz.prog Tryz.f3.params.toList gZ):av 3 gZ [.one (B true)]:=by
 rw[Tryz.params3]at h
 match gZ,h with
 | [a0],⟨bE,_⟩=>
  obtain⟨cv,rfl,fR,w0⟩:=afC bE;exact asr cv w0
set_option maxRecDepth 100000 in
theorem lifted_Right(os:Os)(started:os.Started)(H:Type)(enc:TypeId×Value->H):
  ReturnsInHanded {} Tryz.checked os 3 .any (Rows.fnRightSpec.pre6 enc Tryz.prog Tryz.f3 Rows.fnRightRow.domain false) (Rows.fnRightSpec.post enc Tryz.prog Tryz.f3 false true false false):=by
 refine returnsInHanded_of_change (C:=Tryz.checked) Tryz.own started (by kernel_rfl) Tryz.func3
  (ChangeSpec.witness6 (enc:=enc) (C:=Tryz.checked) false ⟨#[],#[.slice none 0 0],[]⟩ 8 (by kernel_rfl) (by kernel_rfl) (by kernel_rfl) (by kernel_rfl)) ?_
 intro W base args ds gs before aeq vu aCQ _;exact aya (fno:=3) Tryz.laidOut (tb:=4) (by kernel_rfl) Tryz.underlying4 (by kernel_rfl) (by kernel_rfl) rfl aeq vu (fun h=>by obtain⟨a0,rfl⟩:=aeR (l:=ds) h;exact⟨rfl,rfl,rfl⟩) (fun x aa=>by cases aa) all_Right
theorem places_Right:(Rows.fnRightRow.inPlace==Tryz.prog.inPlace 3)=true:=by kernel_rfl
theorem follows_Right:(Rows.fnRightRow.unfollowed==Tryz.prog.unfollowed 3)=true:=by kernel_rfl
theorem recurs_Right:(Rows.fnRightRow.recurses==Tryz.prog.recurses 3)=true:=by kernel_rfl
theorem namedVars_Right:(Rows.fnRightRow.named==Tryz.prog.varsNamed 3)=true:=by kernel_rfl
theorem loopsKeys_Right:((Rows.fnRightRow.loops==(Tryz.f3.params.toList++Rows.fnRightSpec.plain.varTypes Tryz.prog).any (Tryz.prog.loopsFrom ·))&&(Rows.fnRightRow.wideKeys==(Tryz.f3.params.toList++Rows.fnRightSpec.plain.varTypes Tryz.prog++Tryz.f3.resultTypes.toList).any (Tryz.prog.wideKeysFrom ·)))=true:=by kernel_rfl
theorem joined_Right:joinedFacts Tryz.prog 3 Tryz.f3 Rows.fnRightSpec Rows.fnRightRow=true:=
 axp (by kernel_rfl) Tryz.laidOut axq (by kernel_rfl) places_Right follows_Right recurs_Right namedVars_Right (by kernel_rfl) loopsKeys_Right (by kernel_rfl)
  (by rw[axr];rfl) (by kernel_rfl) axs (by rw[axt];rfl) (by rw[axu];rfl) (by kernel_rfl) (by kernel_rfl)
theorem holds_Right:Rows.FnRightSaid:=
 OpenClaim.holds_of_wide 3 Tryz.f3 rfl rfl rfl rfl rfl rfl rfl ⟨rfl,rfl,rfl,rfl,rfl⟩ rfl rfl rfl rfl rfl (by kernel_rfl) Tryz.func3 joined_Right
  (of_decide_eq_true (by kernel_rfl)) (by unfold Func.isWrapper;first | (rw[bh (by decide +kernel)];kernel_rfl) | (rw[bq (by decide +kernel)];exact⟨rfl,rfl⟩))
  (fun os started H enc _=>lifted_Right os started H enc)
#print axioms holds_Right
end Go.Proofs.YtdchjefneblpgaaGreat
