/- FnFair: The law FnFair answers true at every text of bytes. No condition. -/
import Derived.Test.YtdchjefneblpgaaGreatA0
import Derived.Test.YtdchjefneblpgaaGreatP98
set_option linter.unusedVariables false
set_option linter.unusedSimpArgs false
namespace Go.Proofs.YtdchjefneblpgaaGreat
open Go.ChangeShapes Go.WideShapes Go.ChangeAt Go.RowKit Go.Joins Go.Sx
theorem all_Fair(gR:List cP)(h:EB Tryz.prog Tryz.f8.params.toList gR):aq 8 gR [.one (B true)]:=by
 rw[Tryz.params8]at h
 match gR,h with
 | [a0],⟨bO,_⟩=>
  obtain⟨cE,rfl,eF,w0⟩:=ahR bO;exact avy cE w0
set_option maxRecDepth 100000 in
theorem lifted_Fair(os:Os)(started:os.Started)(H:Type)(enc:TypeId×Value->H):
  ReturnsInHanded {} Tryz.checked os 8 .any (Rows.fnFairSpec.pre6 enc Tryz.prog Tryz.f8 Rows.fnFairRow.domain false) (Rows.fnFairSpec.post enc Tryz.prog Tryz.f8 false true false false):=by
 refine returnsInHanded_of_change (C:=Tryz.checked) Tryz.own started (by kernel_rfl) Tryz.func8
  (ChangeSpec.witness6 (enc:=enc) (C:=Tryz.checked) false ⟨#[],#[.slice none 0 0],[]⟩ 8 (by kernel_rfl) (by kernel_rfl) (by kernel_rfl) (by kernel_rfl)) ?_
 intro W base args ds gs before adH uZ aCW _;exact ax8 (fno:=8) Tryz.laidOut (tb:=4) (by kernel_rfl) Tryz.underlying4 (by kernel_rfl) (by kernel_rfl) rfl adH uZ (fun h=>by obtain⟨a0,rfl⟩:=ad6 (l:=ds) h;exact⟨rfl,rfl,rfl⟩) (fun x af=>by cases af) all_Fair
theorem places_Fair:(Rows.fnFairRow.inPlace==Tryz.prog.inPlace 8)=true:=by kernel_rfl
theorem follows_Fair:(Rows.fnFairRow.unfollowed==Tryz.prog.unfollowed 8)=true:=by kernel_rfl
theorem recurs_Fair:(Rows.fnFairRow.recurses==Tryz.prog.recurses 8)=true:=by kernel_rfl
theorem namedVars_Fair:(Rows.fnFairRow.named==Tryz.prog.varsNamed 8)=true:=by kernel_rfl
theorem loopsKeys_Fair:((Rows.fnFairRow.loops==(Tryz.f8.params.toList++Rows.fnFairSpec.plain.varTypes Tryz.prog).any (Tryz.prog.loopsFrom ·))&&(Rows.fnFairRow.wideKeys==(Tryz.f8.params.toList++Rows.fnFairSpec.plain.varTypes Tryz.prog++Tryz.f8.resultTypes.toList).any (Tryz.prog.wideKeysFrom ·)))=true:=by kernel_rfl
theorem joined_Fair:joinedFacts Tryz.prog 8 Tryz.f8 Rows.fnFairSpec Rows.fnFairRow=true:=
 ayc (by kernel_rfl) Tryz.laidOut ayd (by kernel_rfl) places_Fair follows_Fair recurs_Fair namedVars_Fair (by kernel_rfl) loopsKeys_Fair (by kernel_rfl)
  (by rw[aye];rfl) (by kernel_rfl) ayf (by rw[ayg];rfl) (by rw[ayh];rfl) (by kernel_rfl) (by kernel_rfl)
theorem holds_Fair:Rows.FnFairSaid:=
 OpenClaim.holds_of_wide 8 Tryz.f8 rfl rfl rfl rfl rfl rfl rfl ⟨rfl,rfl,rfl,rfl,rfl⟩ rfl rfl rfl rfl rfl (by kernel_rfl) Tryz.func8 joined_Fair
  (of_decide_eq_true (by kernel_rfl)) (by unfold Func.isWrapper;first | (rw[bn (by decide +kernel)];kernel_rfl) | (rw[bw (by decide +kernel)];exact⟨rfl,rfl⟩))
  (fun os started H enc _=>lifted_Fair os started H enc)
#print axioms holds_Fair
end Go.Proofs.YtdchjefneblpgaaGreat
