/- FnTop: The law FnTop answers true at every drawn text of bytes: a cluster that is new, behind any picks, is safe, and is what the reference makes of the same picks. No condition. -/
import Derived.Test.YtdkobdhckkjmeaaGreatT5
import Derived.Test.YtdkobdhckkjmeaaGreatA0
import Derived.Test.YtdkobdhckkjmeaaGreatP97
set_option linter.unusedVariables false
set_option linter.unusedSimpArgs false
namespace Go.Proofs.YtdkobdhckkjmeaaGreat
open Go.ChangeShapes Go.WideShapes Go.ChangeAt Go.RowKit Go.Joins Go.Sx
theorem all_Top(ads:List AD)(h:ShAll Tryz.prog Tryz.f4.params.toList ads):Rt 4 ads [.one (B true)]:=by
 rw[Tryz.params4]at h
 match ads,h with
 | [a0],⟨h0,_⟩=>
  obtain⟨x0,rfl,l0,w0⟩:=qs5 h0;exact qPW x0 w0
set_option maxRecDepth 100000 in
theorem lifted_Top(os:Os)(started:os.Started)(H:Type)(enc:TypeId×Value→H):
  ReturnsInHanded {} Tryz.checked os 4 .any (Rows.fnTopSpec.pre6 enc Tryz.prog Tryz.f4 Rows.fnTopRow.domain false) (Rows.fnTopSpec.post enc Tryz.prog Tryz.f4 false true false false):=by
 refine returnsInHanded_of_change (C:=Tryz.checked) Tryz.own started (by kernel_rfl) Tryz.func4
  (ChangeSpec.witness6 (enc:=enc) (C:=Tryz.checked) false ⟨#[],#[.slice none 0 0],[]⟩ 8 (by kernel_rfl) (by kernel_rfl) (by kernel_rfl) (by kernel_rfl)) ?_
 intro W base args ds gs before hval0 hW hcnd _;exact qpA (fno:=4) Tryz.laidOut (tb:=4) (by kernel_rfl) Tryz.underlying4 (by kernel_rfl) (by kernel_rfl) rfl hval0 hW (fun h=>by obtain⟨a0,rfl⟩:=lst1 (l:=ds) h;exact⟨rfl,rfl,rfl⟩) (fun x hx=>by cases hx) all_Top
theorem places_Top:(Rows.fnTopRow.inPlace==Tryz.prog.inPlace 4)=true:=by kernel_rfl
theorem follows_Top:(Rows.fnTopRow.unfollowed==Tryz.prog.unfollowed 4)=true:=by kernel_rfl
theorem recurs_Top:(Rows.fnTopRow.recurses==Tryz.prog.recurses 4)=true:=by kernel_rfl
theorem namedVars_Top:(Rows.fnTopRow.named==Tryz.prog.varsNamed 4)=true:=by kernel_rfl
theorem loopsKeys_Top:((Rows.fnTopRow.loops==(Tryz.f4.params.toList++Rows.fnTopSpec.plain.varTypes Tryz.prog).any (Tryz.prog.loopsFrom ·))&&(Rows.fnTopRow.wideKeys==(Tryz.f4.params.toList++Rows.fnTopSpec.plain.varTypes Tryz.prog++Tryz.f4.resultTypes.toList).any (Tryz.prog.wideKeysFrom ·)))=true:=by kernel_rfl
theorem joined_Top:joinedFacts Tryz.prog 4 Tryz.f4 Rows.fnTopSpec Rows.fnTopRow=true:=
 qpC (by kernel_rfl) Tryz.laidOut qpD (by kernel_rfl) places_Top follows_Top recurs_Top namedVars_Top (by kernel_rfl) loopsKeys_Top (by kernel_rfl)
  (by rw[qpE];rfl) (by kernel_rfl) qpF (by rw[qpG];rfl) (by rw[qpH];rfl) (by kernel_rfl) (by kernel_rfl)
theorem holds_Top:Rows.FnTopSaid:=
 OpenClaim.holds_of_wide 4 Tryz.f4 rfl rfl rfl rfl rfl rfl rfl ⟨rfl,rfl,rfl,rfl,rfl⟩ rfl rfl rfl rfl rfl (by kernel_rfl) Tryz.func4 joined_Top
  (of_decide_eq_true (by kernel_rfl)) (by unfold Func.isWrapper;first | (rw[zp (by decide +kernel)];kernel_rfl) | (rw[zo (by decide +kernel)];exact⟨rfl,rfl⟩))
  (fun os started H enc _=>lifted_Top os started H enc)
#print axioms holds_Top
end Go.Proofs.YtdkobdhckkjmeaaGreat
