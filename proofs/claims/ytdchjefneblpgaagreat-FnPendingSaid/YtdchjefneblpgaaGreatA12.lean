/- FnPending: The law FnPending answers true at every text of bytes. No condition. -/
import Derived.Test.YtdchjefneblpgaaGreatA0
import Derived.Test.YtdchjefneblpgaaGreatP125
set_option linter.unusedVariables false
set_option linter.unusedSimpArgs false
namespace Go.Proofs.YtdchjefneblpgaaGreat
open Go.ChangeShapes Go.WideShapes Go.ChangeAt Go.RowKit Go.Joins Go.Sx
theorem all_Pending(gB:List cH)(h:Cs Tryz.prog Tryz.f11.params.toList gB):aK 11 gB [.one (B true)]:=by
 rw[Tryz.params11]at h
 match gB,h with
 | [a0],⟨bm,_⟩=>
  obtain⟨cJ,rfl,ej,w0⟩:=aag bm;exact aiE cJ w0
set_option maxRecDepth 100000 in
theorem lifted_Pending(os:Os)(started:os.Started)(H:Type)(enc:TypeId×Value->H):
  ReturnsInHanded {} Tryz.checked os 11 .any (Rows.fnPendingSpec.pre6 enc Tryz.prog Tryz.f11 Rows.fnPendingRow.domain false) (Rows.fnPendingSpec.post enc Tryz.prog Tryz.f11 false true false false):=by
 refine returnsInHanded_of_change (C:=Tryz.checked) Tryz.own started (by kernel_rfl) Tryz.func11
  (ChangeSpec.witness6 (enc:=enc) (C:=Tryz.checked) false ⟨#[],#[.slice none 0 0],[]⟩ 8 (by kernel_rfl) (by kernel_rfl) (by kernel_rfl) (by kernel_rfl)) ?_
 intro W base args ds gs before YQ tH arB _;exact akn (fno:=11) Tryz.laidOut (tb:=4) (by kernel_rfl) Tryz.underlying4 (by kernel_rfl) (by kernel_rfl) rfl YQ tH (fun h=>by obtain⟨a0,rfl⟩:=Zd (l:=ds) h;exact⟨rfl,rfl,rfl⟩) (fun x aa=>by cases aa) all_Pending
theorem places_Pending:(Rows.fnPendingRow.inPlace==Tryz.prog.inPlace 11)=true:=by kernel_rfl
theorem follows_Pending:(Rows.fnPendingRow.unfollowed==Tryz.prog.unfollowed 11)=true:=by kernel_rfl
theorem recurs_Pending:(Rows.fnPendingRow.recurses==Tryz.prog.recurses 11)=true:=by kernel_rfl
theorem namedVars_Pending:(Rows.fnPendingRow.named==Tryz.prog.varsNamed 11)=true:=by kernel_rfl
theorem loopsKeys_Pending:((Rows.fnPendingRow.loops==(Tryz.f11.params.toList++Rows.fnPendingSpec.plain.varTypes Tryz.prog).any (Tryz.prog.loopsFrom ·))&&(Rows.fnPendingRow.wideKeys==(Tryz.f11.params.toList++Rows.fnPendingSpec.plain.varTypes Tryz.prog++Tryz.f11.resultTypes.toList).any (Tryz.prog.wideKeysFrom ·)))=true:=by kernel_rfl
theorem joined_Pending:joinedFacts Tryz.prog 11 Tryz.f11 Rows.fnPendingSpec Rows.fnPendingRow=true:=
 akt (by kernel_rfl) Tryz.laidOut aku (by kernel_rfl) places_Pending follows_Pending recurs_Pending namedVars_Pending (by kernel_rfl) loopsKeys_Pending (by kernel_rfl)
  (by rw[akv];rfl) (by kernel_rfl) akw (by rw[akx];rfl) (by rw[aky];rfl) (by kernel_rfl) (by kernel_rfl)
theorem holds_Pending:Rows.FnPendingSaid:=
 OpenClaim.holds_of_wide 11 Tryz.f11 rfl rfl rfl rfl rfl rfl rfl ⟨rfl,rfl,rfl,rfl,rfl⟩ rfl rfl rfl rfl rfl (by kernel_rfl) Tryz.func11 joined_Pending
  (of_decide_eq_true (by kernel_rfl)) (by unfold Func.isWrapper;first | (rw[a6 (by decide +kernel)];kernel_rfl) | (rw[aX (by decide +kernel)];exact⟨rfl,rfl⟩))
  (fun os started H enc _=>lifted_Pending os started H enc)
#print axioms holds_Pending
end Go.Proofs.YtdchjefneblpgaaGreat
