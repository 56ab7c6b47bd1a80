/- FnExactCanMove: for a cluster the program and the reference answer alike whether some pick does anything. No condition. -/
import Derived.Test.YtdanpadojemjeaaGreatT5
import Derived.Test.YtdanpadojemjeaaGreatP53
set_option linter.unusedVariables false
set_option linter.unusedSimpArgs false
namespace Go.Proofs.YtdanpadojemjeaaGreat
open Go.ChangeShapes Go.WideShapes Go.ChangeAt Go.RowKit Go.Joins Go.Sx
theorem all_ExactCanMove(ads:List AD)(h:ShAll Tryz.prog Tryz.f5.params.toList ads):Rt 5 ads [.one (B true)]:=by
 rw[Tryz.params5]at h
 match ads,h with
 | [a0],⟨h0,_⟩=>
  obtain⟨x0,rfl,w0⟩:=qgZ h0
  exact qPP x0 w0
set_option maxRecDepth 100000 in
theorem lifted_ExactCanMove(os:Os)(started:os.Started)(H:Type)(enc:TypeId×Value→H):
  ReturnsInHanded {} Tryz.checked os 5 .any (Rows.fnExactCanMoveSpec.pre6 enc Tryz.prog Tryz.f5 Rows.fnExactCanMoveRow.domain false) (Rows.fnExactCanMoveSpec.post enc Tryz.prog Tryz.f5 false true false false):=by
 refine returnsInHanded_of_change (C:=Tryz.checked) Tryz.own started (by kernel_rfl) Tryz.func5
  (ChangeSpec.witness6 (enc:=enc) (C:=Tryz.checked) false ⟨#[],#[.agg #[.slice none 0 0,.int .i64 0,.int .i64 0,.slice none 0 0,.slice none 0 0,.slice none 0 0,.slice none 0 0]],[]⟩ 8 (by kernel_rfl) (by kernel_rfl) (by kernel_rfl) (by kernel_rfl)) ?_
 intro W base args ds gs before hval0 hW hcnd _
 exact qgY (fno:=5) Tryz.laidOut (tb:=4) (by kernel_rfl) Tryz.underlying4 (by kernel_rfl) (by kernel_rfl) rfl hval0 hW (fun h=>by obtain⟨a0,rfl⟩:=lst1 (l:=ds) h;exact⟨rfl,rfl,rfl⟩) all_ExactCanMove
theorem places_ExactCanMove:(Rows.fnExactCanMoveRow.inPlace==Tryz.prog.inPlace 5)=true:=by kernel_rfl
theorem follows_ExactCanMove:(Rows.fnExactCanMoveRow.unfollowed==Tryz.prog.unfollowed 5)=true:=by kernel_rfl
theorem recurs_ExactCanMove:(Rows.fnExactCanMoveRow.recurses==Tryz.prog.recurses 5)=true:=by kernel_rfl
theorem namedVars_ExactCanMove:(Rows.fnExactCanMoveRow.named==Tryz.prog.varsNamed 5)=true:=by kernel_rfl
theorem loopsKeys_ExactCanMove:((Rows.fnExactCanMoveRow.loops==(Tryz.f5.params.toList++Rows.fnExactCanMoveSpec.plain.varTypes Tryz.prog).any (Tryz.prog.loopsFrom ·))&&(Rows.fnExactCanMoveRow.wideKeys==(Tryz.f5.params.toList++Rows.fnExactCanMoveSpec.plain.varTypes Tryz.prog++Tryz.f5.resultTypes.toList).any (Tryz.prog.wideKeysFrom ·)))=true:=by kernel_rfl
theorem joined_ExactCanMove:joinedFacts Tryz.prog 5 Tryz.f5 Rows.fnExactCanMoveSpec Rows.fnExactCanMoveRow=true:=
 qg0 (by kernel_rfl) Tryz.laidOut qg1 (by kernel_rfl) places_ExactCanMove follows_ExactCanMove recurs_ExactCanMove namedVars_ExactCanMove (by kernel_rfl) loopsKeys_ExactCanMove (by kernel_rfl)
  (by rw[qg2];rfl) (by kernel_rfl) qg3 (by rw[qg4];rfl) (by rw[qg5];rfl) (by kernel_rfl) (by kernel_rfl)
theorem holds_ExactCanMove:Rows.FnExactCanMoveSaid:=
 OpenClaim.holds_of_wide 5 Tryz.f5 rfl rfl rfl rfl rfl rfl rfl ⟨rfl,rfl,rfl,rfl,rfl⟩ rfl rfl rfl rfl rfl (by kernel_rfl) Tryz.func5 joined_ExactCanMove
  (of_decide_eq_true (by kernel_rfl)) (by unfold Func.isWrapper;first | (rw[zp (by decide +kernel)];kernel_rfl) | (rw[zo (by decide +kernel)];exact⟨rfl,rfl⟩))
  (fun os started H enc _=>lifted_ExactCanMove os started H enc)
#print axioms holds_ExactCanMove
end Go.Proofs.YtdanpadojemjeaaGreat
