/- FnExactFairRun: for a cluster and a number of rounds the program and the reference hand back the same cluster and the same number of rounds. No condition. -/
import Derived.Test.YtdanpadojemjeaaGreatT5
import Derived.Test.YtdanpadojemjeaaGreatP54
set_option linter.unusedVariables false
set_option linter.unusedSimpArgs false
namespace Go.Proofs.YtdanpadojemjeaaGreat
open Go.ChangeShapes Go.WideShapes Go.ChangeAt Go.RowKit Go.Joins Go.Sx
theorem all_ExactFairRun(ads:List AD)(h:ShAll Tryz.prog Tryz.f9.params.toList ads):Rt 9 ads [.one (B true)]:=by
 rw[Tryz.params9]at h
 match ads,h with
 | [a0,a1],⟨h0,h1,_⟩=>
  obtain⟨x0,rfl,w0⟩:=qgZ h0
  obtain⟨x1,rfl,w1⟩:=qtJ h1
  exact qP0 x0 x1 w0
set_option maxRecDepth 100000 in
theorem lifted_ExactFairRun(os:Os)(started:os.Started)(H:Type)(enc:TypeId×Value→H):
  ReturnsInHanded {} Tryz.checked os 9 .any (Rows.fnExactFairRunSpec.pre6 enc Tryz.prog Tryz.f9 Rows.fnExactFairRunRow.domain false) (Rows.fnExactFairRunSpec.post enc Tryz.prog Tryz.f9 false true false false):=by
 refine returnsInHanded_of_change (C:=Tryz.checked) Tryz.own started (by kernel_rfl) Tryz.func9
  (ChangeSpec.witness6 (enc:=enc) (C:=Tryz.checked) false ⟨#[],#[.agg #[.slice none 0 0,.int .i64 0,.int .i64 0,.slice none 0 0,.slice none 0 0,.slice none 0 0,.slice none 0 0],.int .i64 0],[]⟩ 8 (by kernel_rfl) (by kernel_rfl) (by kernel_rfl) (by kernel_rfl)) ?_
 intro W base args ds gs before hval0 hW hcnd _
 exact qgY (fno:=9) Tryz.laidOut (tb:=4) (by kernel_rfl) Tryz.underlying4 (by kernel_rfl) (by kernel_rfl) rfl hval0 hW (fun h=>by obtain⟨a0,a1,rfl⟩:=lst2 (l:=ds) h;exact⟨rfl,rfl,rfl⟩) all_ExactFairRun
theorem places_ExactFairRun:(Rows.fnExactFairRunRow.inPlace==Tryz.prog.inPlace 9)=true:=by kernel_rfl
theorem follows_ExactFairRun:(Rows.fnExactFairRunRow.unfollowed==Tryz.prog.unfollowed 9)=true:=by kernel_rfl
theorem recurs_ExactFairRun:(Rows.fnExactFairRunRow.recurses==Tryz.prog.recurses 9)=true:=by kernel_rfl
theorem namedVars_ExactFairRun:(Rows.fnExactFairRunRow.named==Tryz.prog.varsNamed 9)=true:=by kernel_rfl
theorem loopsKeys_ExactFairRun:((Rows.fnExactFairRunRow.loops==(Tryz.f9.params.toList++Rows.fnExactFairRunSpec.plain.varTypes Tryz.prog).any (Tryz.prog.loopsFrom ·))&&(Rows.fnExactFairRunRow.wideKeys==(Tryz.f9.params.toList++Rows.fnExactFairRunSpec.plain.varTypes Tryz.prog++Tryz.f9.resultTypes.toList).any (Tryz.prog.wideKeysFrom ·)))=true:=by kernel_rfl
theorem joined_ExactFairRun:joinedFacts Tryz.prog 9 Tryz.f9 Rows.fnExactFairRunSpec Rows.fnExactFairRunRow=true:=
 qg0 (by kernel_rfl) Tryz.laidOut qg1 (by kernel_rfl) places_ExactFairRun follows_ExactFairRun recurs_ExactFairRun namedVars_ExactFairRun (by kernel_rfl) loopsKeys_ExactFairRun (by kernel_rfl)
  (by rw[qg2];rfl) (by kernel_rfl) qg3 (by rw[qg4];rfl) (by rw[qg5];rfl) (by kernel_rfl) (by kernel_rfl)
theorem holds_ExactFairRun:Rows.FnExactFairRunSaid:=
 OpenClaim.holds_of_wide 9 Tryz.f9 rfl rfl rfl rfl rfl rfl rfl ⟨rfl,rfl,rfl,rfl,rfl⟩ rfl rfl rfl rfl rfl (by kernel_rfl) Tryz.func9 joined_ExactFairRun
  (of_decide_eq_true (by kernel_rfl)) (by unfold Func.isWrapper;first | (rw[zp (by decide +kernel)];kernel_rfl) | (rw[zo (by decide +kernel)];exact⟨rfl,rfl⟩))
  (fun os started H enc _=>lifted_ExactFairRun os started H enc)
#print axioms holds_ExactFairRun
end Go.Proofs.YtdanpadojemjeaaGreat
