/- FnEpochsApart: The law FnEpochsApart answers true at every drawn text of bytes. No condition. No condition. -/
import Derived.Test.YtdkobdhckkjmeaaGreatT5
import Derived.Test.YtdkobdhckkjmeaaGreatA0
import Derived.Test.YtdkobdhckkjmeaaGreatP106
set_option linter.unusedVariables false
set_option linter.unusedSimpArgs false
namespace Go.Proofs.YtdkobdhckkjmeaaGreat
open Go.ChangeShapes Go.WideShapes Go.ChangeAt Go.RowKit Go.Joins Go.Sx
theorem all_EpochsApart(ads:List AD)(h:ShAll Tryz.prog Tryz.f5.params.toList ads):Rt 5 ads [.one (B true)]:=by
 rw[Tryz.params5]at h
 match ads,h with
 | [a0],⟨h0,_⟩=>
  obtain⟨x0,rfl,l0,w0⟩:=qtd h0;exact law_EpochsApart x0 w0
set_option maxRecDepth 100000 in
theorem lifted_EpochsApart(os:Os)(started:os.Started)(H:Type)(enc:TypeId×Value→H):
  ReturnsInHanded {} Tryz.checked os 5 .any (Rows.fnEpochsApartSpec.pre6 enc Tryz.prog Tryz.f5 Rows.fnEpochsApartRow.domain false) (Rows.fnEpochsApartSpec.post enc Tryz.prog Tryz.f5 false true false false):=by
 refine returnsInHanded_of_change (C:=Tryz.checked) Tryz.own started (by kernel_rfl) Tryz.func5
  (ChangeSpec.witness6 (enc:=enc) (C:=Tryz.checked) false ⟨#[],#[.slice none 0 0],[]⟩ 8 (by kernel_rfl) (by kernel_rfl) (by kernel_rfl) (by kernel_rfl)) ?_
 intro W base args ds gs before hval0 hW hcnd _;exact qpH (fno:=5) Tryz.laidOut (tb:=4) (by kernel_rfl) Tryz.underlying4 (by kernel_rfl) (by kernel_rfl) rfl hval0 hW (fun h=>by obtain⟨a0,rfl⟩:=lst1 (l:=ds) h;exact⟨rfl,rfl,rfl⟩) (fun x hx=>by cases hx) all_EpochsApart
theorem places_EpochsApart:(Rows.fnEpochsApartRow.inPlace==Tryz.prog.inPlace 5)=true:=by kernel_rfl
theorem follows_EpochsApart:(Rows.fnEpochsApartRow.unfollowed==Tryz.prog.unfollowed 5)=true:=by kernel_rfl
theorem recurs_EpochsApart:(Rows.fnEpochsApartRow.recurses==Tryz.prog.recurses 5)=true:=by kernel_rfl
theorem namedVars_EpochsApart:(Rows.fnEpochsApartRow.named==Tryz.prog.varsNamed 5)=true:=by kernel_rfl
theorem loopsKeys_EpochsApart:((Rows.fnEpochsApartRow.loops==(Tryz.f5.params.toList++Rows.fnEpochsApartSpec.plain.varTypes Tryz.prog).any (Tryz.prog.loopsFrom ·))&&(Rows.fnEpochsApartRow.wideKeys==(Tryz.f5.params.toList++Rows.fnEpochsApartSpec.plain.varTypes Tryz.prog++Tryz.f5.resultTypes.toList).any (Tryz.prog.wideKeysFrom ·)))=true:=by kernel_rfl
theorem joined_EpochsApart:joinedFacts Tryz.prog 5 Tryz.f5 Rows.fnEpochsApartSpec Rows.fnEpochsApartRow=true:=
 qpJ (by kernel_rfl) Tryz.laidOut qpK (by kernel_rfl) places_EpochsApart follows_EpochsApart recurs_EpochsApart namedVars_EpochsApart (by kernel_rfl) loopsKeys_EpochsApart (by kernel_rfl)
  (by rw[qpL];rfl) (by kernel_rfl) qpM (by rw[qpN];rfl) (by rw[qpO];rfl) (by kernel_rfl) (by kernel_rfl)
theorem holds_EpochsApart:Rows.FnEpochsApartSaid:=
 OpenClaim.holds_of_wide 5 Tryz.f5 rfl rfl rfl rfl rfl rfl rfl ⟨rfl,rfl,rfl,rfl,rfl⟩ rfl rfl rfl rfl rfl (by kernel_rfl) Tryz.func5 joined_EpochsApart
  (of_decide_eq_true (by kernel_rfl)) (by unfold Func.isWrapper;first | (rw[zp (by decide +kernel)];kernel_rfl) | (rw[zo (by decide +kernel)];exact⟨rfl,rfl⟩))
  (fun os started H enc _=>lifted_EpochsApart os started H enc)
#print axioms holds_EpochsApart
end Go.Proofs.YtdkobdhckkjmeaaGreat
