/- FnExactFairRound: for a cluster the program and the reference hand back the same cluster and the same number of picks that did something. No condition. -/
import Derived.Test.YtdanpadojemjeaaGreatT5
import Derived.Test.YtdanpadojemjeaaGreatP54
set_option linter.unusedVariables false
set_option linter.unusedSimpArgs false
namespace Go.Proofs.YtdanpadojemjeaaGreat
open Go.ChangeShapes Go.WideShapes Go.ChangeAt Go.RowKit Go.Joins Go.Sx
theorem all_ExactFairRound(ads:List AD)(h:ShAll Tryz.prog Tryz.f8.params.toList ads):Rt 8 ads [.one (B true)]:=by
 rw[Tryz.params8]at h
 match ads,h with
 | [a0],⟨h0,_⟩=>
  obtain⟨x0,rfl,w0⟩:=qgZ h0
  exact qPZ x0 w0
set_option maxRecDepth 100000 in
theorem lifted_ExactFairRound(os:Os)(started:os.Started)(H:Type)(enc:TypeId×Value→H):
  ReturnsInHanded {} Tryz.checked os 8 .any (Rows.fnExactFairRoundSpec.pre6 enc Tryz.prog Tryz.f8 Rows.fnExactFairRoundRow.domain false) (Rows.fnExactFairRoundSpec.post enc Tryz.prog Tryz.f8 false true false false):=by
 refine returnsInHanded_of_change (C:=Tryz.checked) Tryz.own started (by kernel_rfl) Tryz.func8
  (ChangeSpec.witness6 (enc:=enc) (C:=Tryz.checked) false ⟨#[],#[.agg #[.slice none 0 0,.int .i64 0,.int .i64 0,.slice none 0 0,.slice none 0 0,.slice none 0 0,.slice none 0 0]],[]⟩ 8 (by kernel_rfl) (by kernel_rfl) (by kernel_rfl) (by kernel_rfl)) ?_
 intro W base args ds gs before hval0 hW hcnd _
 exact qgY (fno:=8) Tryz.laidOut (tb:=4) (by kernel_rfl) Tryz.underlying4 (by kernel_rfl) (by kernel_rfl) rfl hval0 hW (fun h=>by obtain⟨a0,rfl⟩:=lst1 (l:=ds) h;exact⟨rfl,rfl,rfl⟩) all_ExactFairRound
theorem places_ExactFairRound:(Rows.fnExactFairRoundRow.inPlace==Tryz.prog.inPlace 8)=true:=by kernel_rfl
theorem follows_ExactFairRound:(Rows.fnExactFairRoundRow.unfollowed==Tryz.prog.unfollowed 8)=true:=by kernel_rfl
theorem recurs_ExactFairRound:(Rows.fnExactFairRoundRow.recurses==Tryz.prog.recurses 8)=true:=by kernel_rfl
theorem namedVars_ExactFairRound:(Rows.fnExactFairRoundRow.named==Tryz.prog.varsNamed 8)=true:=by kernel_rfl
theorem loopsKeys_ExactFairRound:((Rows.fnExactFairRoundRow.loops==(Tryz.f8.params.toList++Rows.fnExactFairRoundSpec.plain.varTypes Tryz.prog).any (Tryz.prog.loopsFrom ·))&&(Rows.fnExactFairRoundRow.wideKeys==(Tryz.f8.params.toList++Rows.fnExactFairRoundSpec.plain.varTypes Tryz.prog++Tryz.f8.resultTypes.toList).any (Tryz.prog.wideKeysFrom ·)))=true:=by kernel_rfl
theorem joined_ExactFairRound:joinedFacts Tryz.prog 8 Tryz.f8 Rows.fnExactFairRoundSpec Rows.fnExactFairRoundRow=true:=
 qg0 (by kernel_rfl) Tryz.laidOut qg1 (by kernel_rfl) places_ExactFairRound follows_ExactFairRound recurs_ExactFairRound namedVars_ExactFairRound (by kernel_rfl) loopsKeys_ExactFairRound (by kernel_rfl)
  (by rw[qg2];rfl) (by kernel_rfl) qg3 (by rw[qg4];rfl) (by rw[qg5];rfl) (by kernel_rfl) (by kernel_rfl)
theorem holds_ExactFairRound:Rows.FnExactFairRoundSaid:=
 OpenClaim.holds_of_wide 8 Tryz.f8 rfl rfl rfl rfl rfl rfl rfl ⟨rfl,rfl,rfl,rfl,rfl⟩ rfl rfl rfl rfl rfl (by kernel_rfl) Tryz.func8 joined_ExactFairRound
  (of_decide_eq_true (by kernel_rfl)) (by unfold Func.isWrapper;first | (rw[zp (by decide +kernel)];kernel_rfl) | (rw[zo (by decide +kernel)];exact⟨rfl,rfl⟩))
  (fun os started H enc _=>lifted_ExactFairRound os started H enc)
#print axioms holds_ExactFairRound
end Go.Proofs.YtdanpadojemjeaaGreat
