/- FnAgree: The law FnAgree answers true at every text of bytes. No condition. -/
import Derived.Test.YtdchjefneblpgaaGreatA0
import Derived.Test.YtdchjefneblpgaaGreatP99
set_option linter.unusedVariables false
set_option linter.unusedSimpArgs false
namespace Go.Proofs.YtdchjefneblpgaaGreat
open Go.ChangeShapes Go.WideShapes Go.ChangeAt Go.RowKit Go.Joins Go.Sx
theorem all_Agree(gW:List cK)(h:DH Tryz.prog Tryz.f5.params.toList gW):aw 5 gW [.one (B true)]:=by
 rw[Tryz.params5]at h
 match gW,h with
 | [a0],⟨bl,_⟩=>
  obtain⟨cm,rfl,fS,w0⟩:=ajE bl;exact amR cm w0
set_option maxRecDepth 100000 in
theorem lifted_Agree(os:Os)(started:os.Started)(H:Type)(enc:TypeId×Value->H):
  ReturnsInHanded {} Tryz.checked os 5 .any (Rows.fnAgreeSpec.pre6 enc Tryz.prog Tryz.f5 Rows.fnAgreeRow.domain false) (Rows.fnAgreeSpec.post enc Tryz.prog Tryz.f5 false true false false):=by
 refine returnsInHanded_of_change (C:=Tryz.checked) Tryz.own started (by kernel_rfl) Tryz.func5
  (ChangeSpec.witness6 (enc:=enc) (C:=Tryz.checked) false ⟨#[],#[.slice none 0 0],[]⟩ 8 (by kernel_rfl) (by kernel_rfl) (by kernel_rfl) (by kernel_rfl)) ?_
 intro W base args ds gs before aau uK awG _;exact ao1 (fno:=5) Tryz.laidOut (tb:=4) (by kernel_rfl) Tryz.underlying4 (by kernel_rfl) (by kernel_rfl) rfl aau uK (fun h=>by obtain⟨a0,rfl⟩:=aaX (l:=ds) h;exact⟨rfl,rfl,rfl⟩) (fun x aa=>by cases aa) all_Agree
theorem places_Agree:(Rows.fnAgreeRow.inPlace==Tryz.prog.inPlace 5)=true:=by kernel_rfl
theorem follows_Agree:(Rows.fnAgreeRow.unfollowed==Tryz.prog.unfollowed 5)=true:=by kernel_rfl
theorem recurs_Agree:(Rows.fnAgreeRow.recurses==Tryz.prog.recurses 5)=true:=by kernel_rfl
theorem namedVars_Agree:(Rows.fnAgreeRow.named==Tryz.prog.varsNamed 5)=true:=by kernel_rfl
theorem loopsKeys_Agree:((Rows.fnAgreeRow.loops==(Tryz.f5.params.toList++Rows.fnAgreeSpec.plain.varTypes Tryz.prog).any (Tryz.prog.loopsFrom ·))&&(Rows.fnAgreeRow.wideKeys==(Tryz.f5.params.toList++Rows.fnAgreeSpec.plain.varTypes Tryz.prog++Tryz.f5.resultTypes.toList).any (Tryz.prog.wideKeysFrom ·)))=true:=by kernel_rfl
theorem joined_Agree:joinedFacts Tryz.prog 5 Tryz.f5 Rows.fnAgreeSpec Rows.fnAgreeRow=true:=
 aof (by kernel_rfl) Tryz.laidOut aog (by kernel_rfl) places_Agree follows_Agree recurs_Agree namedVars_Agree (by kernel_rfl) loopsKeys_Agree (by kernel_rfl)
  (by rw[aoh];rfl) (by kernel_rfl) aoi (by rw[aoj];rfl) (by rw[aok];rfl) (by kernel_rfl) (by kernel_rfl)
theorem holds_Agree:Rows.FnAgreeSaid:=
 OpenClaim.holds_of_wide 5 Tryz.f5 rfl rfl rfl rfl rfl rfl rfl ⟨rfl,rfl,rfl,rfl,rfl⟩ rfl rfl rfl rfl rfl (by kernel_rfl) Tryz.func5 joined_Agree
  (of_decide_eq_true (by kernel_rfl)) (by unfold Func.isWrapper;first | (rw[aZ (by decide +kernel)];kernel_rfl) | (rw[a6 (by decide +kernel)];exact⟨rfl,rfl⟩))
  (fun os started H enc _=>lifted_Agree os started H enc)
#print axioms holds_Agree
end Go.Proofs.YtdchjefneblpgaaGreat
