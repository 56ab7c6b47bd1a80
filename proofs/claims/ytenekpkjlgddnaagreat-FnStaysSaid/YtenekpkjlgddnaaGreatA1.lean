/- FnStays: whatever the bytes that a run is drawn from, the law's function returns true: who is done stays done, and inputs never become more. No condition. -/
import Derived.Test.YtenekpkjlgddnaaGreatT5
import Derived.Test.YtenekpkjlgddnaaGreatP67
set_option linter.unusedVariables false
set_option linter.unusedSimpArgs false
namespace Go.Proofs.YtenekpkjlgddnaaGreat
open Go.ChangeShapes Go.WideShapes Go.ChangeAt Go.RowKit Go.Joins Go.Sx
theorem all_Stays(ads:List AD)(h:ShAll Tryz.prog Tryz.f3.params.toList ads):Rt 3 ads [.one (B true)]:=by
 rw[Tryz.params3]at h
 match ads,h with
 | [a0],⟨h0,_⟩=>
  obtain⟨x0,rfl,l0,w0⟩:=qn9 h0
  exact qzm x0 w0
set_option maxRecDepth 100000 in
theorem lifted_Stays(os:Os)(started:os.Started)(H:Type)(enc:TypeId×Value→H):
  ReturnsInHanded {} Tryz.checked os 3 .any (Rows.fnStaysSpec.pre6 enc Tryz.prog Tryz.f3 Rows.fnStaysRow.domain false) (Rows.fnStaysSpec.post enc Tryz.prog Tryz.f3 false true false false):=by
 refine returnsInHanded_of_change (C:=Tryz.checked) Tryz.own started (by kernel_rfl) Tryz.func3
  (ChangeSpec.witness6 (enc:=enc) (C:=Tryz.checked) false ⟨#[],#[.slice none 0 0],[]⟩ 8 (by kernel_rfl) (by kernel_rfl) (by kernel_rfl) (by kernel_rfl)) ?_
 intro W base args ds gs before hval0 hW hcnd _
 exact qnk (fno:=3) Tryz.laidOut (tb:=4) (by kernel_rfl) Tryz.underlying4 (by kernel_rfl) (by kernel_rfl) rfl hval0 hW (fun h=>by obtain⟨a0,rfl⟩:=lst1 (l:=ds) h;exact⟨rfl,rfl,rfl⟩) all_Stays
theorem places_Stays:(Rows.fnStaysRow.inPlace==Tryz.prog.inPlace 3)=true:=by kernel_rfl
theorem follows_Stays:(Rows.fnStaysRow.unfollowed==Tryz.prog.unfollowed 3)=true:=by kernel_rfl
theorem recurs_Stays:(Rows.fnStaysRow.recurses==Tryz.prog.recurses 3)=true:=by kernel_rfl
theorem namedVars_Stays:(Rows.fnStaysRow.named==Tryz.prog.varsNamed 3)=true:=by kernel_rfl
theorem loopsKeys_Stays:((Rows.fnStaysRow.loops==(Tryz.f3.params.toList++Rows.fnStaysSpec.plain.varTypes Tryz.prog).any (Tryz.prog.loopsFrom ·))&&(Rows.fnStaysRow.wideKeys==(Tryz.f3.params.toList++Rows.fnStaysSpec.plain.varTypes Tryz.prog++Tryz.f3.resultTypes.toList).any (Tryz.prog.wideKeysFrom ·)))=true:=by kernel_rfl
theorem joined_Stays:joinedFacts Tryz.prog 3 Tryz.f3 Rows.fnStaysSpec Rows.fnStaysRow=true:=
 qnn (by kernel_rfl) Tryz.laidOut qno (by kernel_rfl) places_Stays follows_Stays recurs_Stays namedVars_Stays (by kernel_rfl) loopsKeys_Stays (by kernel_rfl)
  (by rw[qnp];rfl) (by kernel_rfl) qnq (by rw[qnr];rfl) (by rw[qns];rfl) (by kernel_rfl) (by kernel_rfl)
theorem holds_Stays:Rows.FnStaysSaid:=
 OpenClaim.holds_of_wide 3 Tryz.f3 rfl rfl rfl rfl rfl rfl rfl ⟨rfl,rfl,rfl,rfl,rfl⟩ rfl rfl rfl rfl rfl (by kernel_rfl) Tryz.func3 joined_Stays
  (of_decide_eq_true (by kernel_rfl)) (by unfold Func.isWrapper;first | (rw[zp (by decide +kernel)];kernel_rfl) | (rw[zo (by decide +kernel)];exact⟨rfl,rfl⟩))
  (fun os started H enc _=>lifted_Stays os started H enc)
#print axioms holds_Stays
end Go.Proofs.YtenekpkjlgddnaaGreat
