/- FnTwoWays: The law FnTwoWays answers true at every drawn text of bytes. No condition. No condition. -/
import Derived.Test.YtdkobdhckkjmeaaGreatT5
import Derived.Test.YtdkobdhckkjmeaaGreatA0
import Derived.Test.YtdkobdhckkjmeaaGreatP106
set_option linter.unusedVariables false
set_option linter.unusedSimpArgs false
namespace Go.Proofs.YtdkobdhckkjmeaaGreat
open Go.ChangeShapes Go.WideShapes Go.ChangeAt Go.RowKit Go.Joins Go.Sx
theorem all_TwoWays(ads:List AD)(h:ShAll Tryz.prog Tryz.f6.params.toList ads):Rt 6 ads [.one (B true)]:=by
 rw[Tryz.params6]at h
 match ads,h with
 | [a0],⟨h0,_⟩=>
  obtain⟨x0,rfl,l0,w0⟩:=qtd h0;exact law_TwoWays x0 w0
set_option maxRecDepth 100000 in
theorem lifted_TwoWays(os:Os)(started:os.Started)(H:Type)(enc:TypeId×Value→H):
  ReturnsInHanded {} Tryz.checked os 6 .any (Rows.fnTwoWaysSpec.pre6 enc Tryz.prog Tryz.f6 Rows.fnTwoWaysRow.domain false) (Rows.fnTwoWaysSpec.post enc Tryz.prog Tryz.f6 false true false false):=by
 refine returnsInHanded_of_change (C:=Tryz.checked) Tryz.own started (by kernel_rfl) Tryz.func6
  (ChangeSpec.witness6 (enc:=enc) (C:=Tryz.checked) false ⟨#[],#[.slice none 0 0],[]⟩ 8 (by kernel_rfl) (by kernel_rfl) (by kernel_rfl) (by kernel_rfl)) ?_
 intro W base args ds gs before hval0 hW hcnd _;exact qpH (fno:=6) Tryz.laidOut (tb:=4) (by kernel_rfl) Tryz.underlying4 (by kernel_rfl) (by kernel_rfl) rfl hval0 hW (fun h=>by obtain⟨a0,rfl⟩:=lst1 (l:=ds) h;exact⟨rfl,rfl,rfl⟩) (fun x hx=>by cases hx) all_TwoWays
theorem places_TwoWays:(Rows.fnTwoWaysRow.inPlace==Tryz.prog.inPlace 6)=true:=by kernel_rfl
theorem follows_TwoWays:(Rows.fnTwoWaysRow.unfollowed==Tryz.prog.unfollowed 6)=true:=by kernel_rfl
theorem recurs_TwoWays:(Rows.fnTwoWaysRow.recurses==Tryz.prog.recurses 6)=true:=by kernel_rfl
theorem namedVars_TwoWays:(Rows.fnTwoWaysRow.named==Tryz.prog.varsNamed 6)=true:=by kernel_rfl
theorem loopsKeys_TwoWays:((Rows.fnTwoWaysRow.loops==(Tryz.f6.params.toList++Rows.fnTwoWaysSpec.plain.varTypes Tryz.prog).any (Tryz.prog.loopsFrom ·))&&(Rows.fnTwoWaysRow.wideKeys==(Tryz.f6.params.toList++Rows.fnTwoWaysSpec.plain.varTypes Tryz.prog++Tryz.f6.resultTypes.toList).any (Tryz.prog.wideKeysFrom ·)))=true:=by kernel_rfl
theorem joined_TwoWays:joinedFacts Tryz.prog 6 Tryz.f6 Rows.fnTwoWaysSpec Rows.fnTwoWaysRow=true:=
 qpJ (by kernel_rfl) Tryz.laidOut qpK (by kernel_rfl) places_TwoWays follows_TwoWays recurs_TwoWays namedVars_TwoWays (by kernel_rfl) loopsKeys_TwoWays (by kernel_rfl)
  (by rw[qpL];rfl) (by kernel_rfl) qpM (by rw[qpN];rfl) (by rw[qpO];rfl) (by kernel_rfl) (by kernel_rfl)
theorem holds_TwoWays:Rows.FnTwoWaysSaid:=
 OpenClaim.holds_of_wide 6 Tryz.f6 rfl rfl rfl rfl rfl rfl rfl ⟨rfl,rfl,rfl,rfl,rfl⟩ rfl rfl rfl rfl rfl (by kernel_rfl) Tryz.func6 joined_TwoWays
  (of_decide_eq_true (by kernel_rfl)) (by unfold Func.isWrapper;first | (rw[zp (by decide +kernel)];kernel_rfl) | (rw[zo (by decide +kernel)];exact⟨rfl,rfl⟩))
  (fun os started H enc _=>lifted_TwoWays os started H enc)
#print axioms holds_TwoWays
end Go.Proofs.YtdkobdhckkjmeaaGreat
