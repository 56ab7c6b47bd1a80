/- FnRefined: The law FnRefined answers true at every text of bytes. No condition. -/
import Derived.Test.YtdchjefneblpgaaGreatA0
import Derived.Test.YtdchjefneblpgaaGreatP118
set_option linter.unusedVariables false
set_option linter.unusedSimpArgs false
namespace Go.Proofs.YtdchjefneblpgaaGreat
open Go.ChangeShapes Go.WideShapes Go.ChangeAt Go.RowKit Go.Joins Go.Sx
theorem all_Refined(hc:List cQ)(h:DQ Tryz.prog Tryz.f10.params.toList hc):al 10 hc [.one (B true)]:=by
 rw[Tryz.params10]at h
 match hc,h with
 | [a0],⟨bG,_⟩=>
  obtain⟨ff,rfl,ea,w0⟩:=aqB bG;exact avo ff w0
set_option maxRecDepth 100000 in
theorem lifted_Refined(os:Os)(started:os.Started)(H:Type)(enc:TypeId×Value->H):
  ReturnsInHanded {} Tryz.checked os 10 .any (Rows.fnRefinedSpec.pre6 enc Tryz.prog Tryz.f10 Rows.fnRefinedRow.domain false) (Rows.fnRefinedSpec.post enc Tryz.prog Tryz.f10 false true false false):=by
 refine returnsInHanded_of_change (C:=Tryz.checked) Tryz.own started (by kernel_rfl) Tryz.func10
  (ChangeSpec.witness6 (enc:=enc) (C:=Tryz.checked) false ⟨#[],#[.slice none 0 0],[]⟩ 8 (by kernel_rfl) (by kernel_rfl) (by kernel_rfl) (by kernel_rfl)) ?_
 intro W base args ds gs before adh uM aCL _;exact aw6 (fno:=10) Tryz.laidOut (tb:=4) (by kernel_rfl) Tryz.underlying4 (by kernel_rfl) (by kernel_rfl) rfl adh uM (fun h=>by obtain⟨a0,rfl⟩:=adH (l:=ds) h;exact⟨rfl,rfl,rfl⟩) (fun x ah=>by cases ah) all_Refined
theorem places_Refined:(Rows.fnRefinedRow.inPlace==Tryz.prog.inPlace 10)=true:=by kernel_rfl
theorem follows_Refined:(Rows.fnRefinedRow.unfollowed==Tryz.prog.unfollowed 10)=true:=by kernel_rfl
theorem recurs_Refined:(Rows.fnRefinedRow.recurses==Tryz.prog.recurses 10)=true:=by kernel_rfl
theorem namedVars_Refined:(Rows.fnRefinedRow.named==Tryz.prog.varsNamed 10)=true:=by kernel_rfl
theorem loopsKeys_Refined:((Rows.fnRefinedRow.loops==(Tryz.f10.params.toList++Rows.fnRefinedSpec.plain.varTypes Tryz.prog).any (Tryz.prog.loopsFrom ·))&&(Rows.fnRefinedRow.wideKeys==(Tryz.f10.params.toList++Rows.fnRefinedSpec.plain.varTypes Tryz.prog++Tryz.f10.resultTypes.toList).any (Tryz.prog.wideKeysFrom ·)))=true:=by kernel_rfl
theorem joined_Refined:joinedFacts Tryz.prog 10 Tryz.f10 Rows.fnRefinedSpec Rows.fnRefinedRow=true:=
 axa (by kernel_rfl) Tryz.laidOut axb (by kernel_rfl) places_Refined follows_Refined recurs_Refined namedVars_Refined (by kernel_rfl) loopsKeys_Refined (by kernel_rfl)
  (by rw[axc];rfl) (by kernel_rfl) axd (by rw[axe];rfl) (by rw[axf];rfl) (by kernel_rfl) (by kernel_rfl)
theorem holds_Refined:Rows.FnRefinedSaid:=
 OpenClaim.holds_of_wide 10 Tryz.f10 rfl rfl rfl rfl rfl rfl rfl ⟨rfl,rfl,rfl,rfl,rfl⟩ rfl rfl rfl rfl rfl (by kernel_rfl) Tryz.func10 joined_Refined
  (of_decide_eq_true (by kernel_rfl)) (by unfold Func.isWrapper;first | (rw[bm (by decide +kernel)];kernel_rfl) | (rw[bk (by decide +kernel)];exact⟨rfl,rfl⟩))
  (fun os started H enc _=>lifted_Refined os started H enc)
#print axioms holds_Refined
end Go.Proofs.YtdchjefneblpgaaGreat
