/- FnExactRunPicks: for a cluster and a list of picks the program and the reference hand back the same cluster and the same answers. No condition. -/
import Derived.Test.YtdanpadojemjeaaGreatT5
import Derived.Test.YtdanpadojemjeaaGreatP54
set_option linter.unusedVariables false
set_option linter.unusedSimpArgs false
namespace Go.Proofs.YtdanpadojemjeaaGreat
open Go.ChangeShapes Go.WideShapes Go.ChangeAt Go.RowKit Go.Joins Go.Sx
theorem all_ExactRunPicks(ads:List AD)(h:ShAll Tryz.prog Tryz.f7.params.toList ads):Rt 7 ads [.one (B true)]:=by
 rw[Tryz.params7]at h
 match ads,h with
 | [a0,a1],⟨h0,h1,_⟩=>
  obtain⟨x0,rfl,w0⟩:=qgZ h0
  obtain⟨x1,rfl,l1,w1⟩:=qtI h1
  exact qPX x0 x1 w0 l1 w1
set_option maxRecDepth 100000 in
theorem lifted_ExactRunPicks(os:Os)(started:os.Started)(H:Type)(enc:TypeId×Value→H):
  ReturnsInHanded {} Tryz.checked os 7 .any (Rows.fnExactRunPicksSpec.pre6 enc Tryz.prog Tryz.f7 Rows.fnExactRunPicksRow.domain false) (Rows.fnExactRunPicksSpec.post enc Tryz.prog Tryz.f7 false true false false):=by
 refine returnsInHanded_of_change (C:=Tryz.checked) Tryz.own started (by kernel_rfl) Tryz.func7
  (ChangeSpec.witness6 (enc:=enc) (C:=Tryz.checked) false ⟨#[],#[.agg #[.slice none 0 0,.int .i64 0,.int .i64 0,.slice none 0 0,.slice none 0 0,.slice none 0 0,.slice none 0 0],.slice none 0 0],[]⟩ 8 (by kernel_rfl) (by kernel_rfl) (by kernel_rfl) (by kernel_rfl)) ?_
 intro W base args ds gs before hval0 hW hcnd _
 exact qgY (fno:=7) Tryz.laidOut (tb:=4) (by kernel_rfl) Tryz.underlying4 (by kernel_rfl) (by kernel_rfl) rfl hval0 hW (fun h=>by obtain⟨a0,a1,rfl⟩:=lst2 (l:=ds) h;exact⟨rfl,rfl,rfl⟩) all_ExactRunPicks
theorem places_ExactRunPicks:(Rows.fnExactRunPicksRow.inPlace==Tryz.prog.inPlace 7)=true:=by kernel_rfl
theorem follows_ExactRunPicks:(Rows.fnExactRunPicksRow.unfollowed==Tryz.prog.unfollowed 7)=true:=by kernel_rfl
theorem recurs_ExactRunPicks:(Rows.fnExactRunPicksRow.recurses==Tryz.prog.recurses 7)=true:=by kernel_rfl
theorem namedVars_ExactRunPicks:(Rows.fnExactRunPicksRow.named==Tryz.prog.varsNamed 7)=true:=by kernel_rfl
theorem loopsKeys_ExactRunPicks:((Rows.fnExactRunPicksRow.loops==(Tryz.f7.params.toList++Rows.fnExactRunPicksSpec.plain.varTypes Tryz.prog).any (Tryz.prog.loopsFrom ·))&&(Rows.fnExactRunPicksRow.wideKeys==(Tryz.f7.params.toList++Rows.fnExactRunPicksSpec.plain.varTypes Tryz.prog++Tryz.f7.resultTypes.toList).any (Tryz.prog.wideKeysFrom ·)))=true:=by kernel_rfl
theorem joined_ExactRunPicks:joinedFacts Tryz.prog 7 Tryz.f7 Rows.fnExactRunPicksSpec Rows.fnExactRunPicksRow=true:=
 qg0 (by kernel_rfl) Tryz.laidOut qg1 (by kernel_rfl) places_ExactRunPicks follows_ExactRunPicks recurs_ExactRunPicks namedVars_ExactRunPicks (by kernel_rfl) loopsKeys_ExactRunPicks (by kernel_rfl)
  (by rw[qg2];rfl) (by kernel_rfl) qg3 (by rw[qg4];rfl) (by rw[qg5];rfl) (by kernel_rfl) (by kernel_rfl)
theorem holds_ExactRunPicks:Rows.FnExactRunPicksSaid:=
 OpenClaim.holds_of_wide 7 Tryz.f7 rfl rfl rfl rfl rfl rfl rfl ⟨rfl,rfl,rfl,rfl,rfl⟩ rfl rfl rfl rfl rfl (by kernel_rfl) Tryz.func7 joined_ExactRunPicks
  (of_decide_eq_true (by kernel_rfl)) (by unfold Func.isWrapper;first | (rw[zp (by decide +kernel)];kernel_rfl) | (rw[zo (by decide +kernel)];exact⟨rfl,rfl⟩))
  (fun os started H enc _=>lifted_ExactRunPicks os started H enc)
#print axioms holds_ExactRunPicks
end Go.Proofs.YtdanpadojemjeaaGreat
