/- FnMoved: The law FnMoved answers true at every text of bytes. No condition. -/
import Derived.Test.YtdchjefneblpgaaGreatA0
import Derived.Test.YtdchjefneblpgaaGreatP115
set_option linter.unusedVariables false
set_option linter.unusedSimpArgs false
namespace Go.Proofs.YtdchjefneblpgaaGreat
open Go.ChangeShapes Go.WideShapes Go.ChangeAt Go.RowKit Go.Joins Go.Sx
theorem all_Moved(fU:List cF)(h:BG Tryz.prog Tryz.f4.params.toList fU):av 4 fU [.one (B true)]:=by
 rw[Tryz.params4]at h
 match fU,h with
 | [a0],⟨bJ,_⟩=>
  obtain⟨gZ,rfl,eP,w0⟩:=ak3 bJ;exact ai8 gZ w0
set_option maxRecDepth 100000 in
theorem lifted_Moved(os:Os)(started:os.Started)(H:Type)(enc:TypeId×Value->H):
  ReturnsInHanded {} Tryz.checked os 4 .any (Rows.fnMovedSpec.pre6 enc Tryz.prog Tryz.f4 Rows.fnMovedRow.domain false) (Rows.fnMovedSpec.post enc Tryz.prog Tryz.f4 false true false false):=by
 refine returnsInHanded_of_change (C:=Tryz.checked) Tryz.own started (by kernel_rfl) Tryz.func4
  (ChangeSpec.witness6 (enc:=enc) (C:=Tryz.checked) false ⟨#[],#[.slice none 0 0],[]⟩ 8 (by kernel_rfl) (by kernel_rfl) (by kernel_rfl) (by kernel_rfl)) ?_
 intro W base args ds gs before Ya sU atq _;exact akr (fno:=4) Tryz.laidOut (tb:=4) (by kernel_rfl) Tryz.underlying4 (by kernel_rfl) (by kernel_rfl) rfl Ya sU (fun h=>by obtain⟨a0,rfl⟩:=Yx (l:=ds) h;exact⟨rfl,rfl,rfl⟩) (fun x ag=>by cases ag) all_Moved
theorem places_Moved:(Rows.fnMovedRow.inPlace==Tryz.prog.inPlace 4)=true:=by kernel_rfl
theorem follows_Moved:(Rows.fnMovedRow.unfollowed==Tryz.prog.unfollowed 4)=true:=by kernel_rfl
theorem recurs_Moved:(Rows.fnMovedRow.recurses==Tryz.prog.recurses 4)=true:=by kernel_rfl
theorem namedVars_Moved:(Rows.fnMovedRow.named==Tryz.prog.varsNamed 4)=true:=by kernel_rfl
theorem loopsKeys_Moved:((Rows.fnMovedRow.loops==(Tryz.f4.params.toList++Rows.fnMovedSpec.plain.varTypes Tryz.prog).any (Tryz.prog.loopsFrom ·))&&(Rows.fnMovedRow.wideKeys==(Tryz.f4.params.toList++Rows.fnMovedSpec.plain.varTypes Tryz.prog++Tryz.f4.resultTypes.toList).any (Tryz.prog.wideKeysFrom ·)))=true:=by kernel_rfl
theorem joined_Moved:joinedFacts Tryz.prog 4 Tryz.f4 Rows.fnMovedSpec Rows.fnMovedRow=true:=
 ajX (by kernel_rfl) Tryz.laidOut ajY (by kernel_rfl) places_Moved follows_Moved recurs_Moved namedVars_Moved (by kernel_rfl) loopsKeys_Moved (by kernel_rfl)
  (by rw[ajZ];rfl) (by kernel_rfl) aj0 (by rw[aj1];rfl) (by rw[aj2];rfl) (by kernel_rfl) (by kernel_rfl)
theorem holds_Moved:Rows.FnMovedSaid:=
 OpenClaim.holds_of_wide 4 Tryz.f4 rfl rfl rfl rfl rfl rfl rfl ⟨rfl,rfl,rfl,rfl,rfl⟩ rfl rfl rfl rfl rfl (by kernel_rfl) Tryz.func4 joined_Moved
  (of_decide_eq_true (by kernel_rfl)) (by unfold Func.isWrapper;first | (rw[br (by decide +kernel)];kernel_rfl) | (rw[bg (by decide +kernel)];exact⟨rfl,rfl⟩))
  (fun os started H enc _=>lifted_Moved os started H enc)
#print axioms holds_Moved
end Go.Proofs.YtdchjefneblpgaaGreat
