/- FnExactFairResult: for a graph, inputs and an epoch the program and the reference hand back the same cells and the same answer. No condition. -/
import Derived.Test.YtdanpadojemjeaaGreatT5
import Derived.Test.YtdanpadojemjeaaGreatP58
set_option linter.unusedVariables false
set_option linter.unusedSimpArgs false
namespace Go.Proofs.YtdanpadojemjeaaGreat
open Go.ChangeShapes Go.WideShapes Go.ChangeAt Go.RowKit Go.Joins Go.Sx
theorem all_ExactFairResult(ads:List AD)(h:ShAll Tryz.prog Tryz.f10.params.toList ads):Rt 10 ads [.one (B true)]:=by
 rw[Tryz.params10]at h
 match ads,h with
 | [a0,a1,a2],⟨h0,h1,h2,_⟩=>
  obtain⟨x0,rfl,w0⟩:=qsC h0
  obtain⟨x1,rfl,l1,w1⟩:=qsD h1
  obtain⟨x2,rfl,w2⟩:=qsE h2
  exact qMn x0 x1 x2 w0 l1 w1
set_option maxRecDepth 100000 in
theorem lifted_ExactFairResult(os:Os)(started:os.Started)(H:Type)(enc:TypeId×Value→H):
  ReturnsInHanded {} Tryz.checked os 10 .any (Rows.fnExactFairResultSpec.pre6 enc Tryz.prog Tryz.f10 Rows.fnExactFairResultRow.domain false) (Rows.fnExactFairResultSpec.post enc Tryz.prog Tryz.f10 false true false false):=by
 refine returnsInHanded_of_change (C:=Tryz.checked) Tryz.own started (by kernel_rfl) Tryz.func10
  (ChangeSpec.witness6 (enc:=enc) (C:=Tryz.checked) false ⟨#[],#[.agg #[.slice none 0 0,.int .i64 0,.int .i64 0],.slice none 0 0,.int .i64 0],[]⟩ 8 (by kernel_rfl) (by kernel_rfl) (by kernel_rfl) (by kernel_rfl)) ?_
 intro W base args ds gs before hval0 hW hcnd _
 exact qst (fno:=10) Tryz.laidOut (tb:=4) (by kernel_rfl) Tryz.underlying4 (by kernel_rfl) (by kernel_rfl) rfl hval0 hW (fun h=>by obtain⟨a0,a1,a2,rfl⟩:=lst3 (l:=ds) h;exact⟨rfl,rfl,rfl⟩) all_ExactFairResult
theorem places_ExactFairResult:(Rows.fnExactFairResultRow.inPlace==Tryz.prog.inPlace 10)=true:=by kernel_rfl
theorem follows_ExactFairResult:(Rows.fnExactFairResultRow.unfollowed==Tryz.prog.unfollowed 10)=true:=by kernel_rfl
theorem recurs_ExactFairResult:(Rows.fnExactFairResultRow.recurses==Tryz.prog.recurses 10)=true:=by kernel_rfl
theorem namedVars_ExactFairResult:(Rows.fnExactFairResultRow.named==Tryz.prog.varsNamed 10)=true:=by kernel_rfl
theorem loopsKeys_ExactFairResult:((Rows.fnExactFairResultRow.loops==(Tryz.f10.params.toList++Rows.fnExactFairResultSpec.plain.varTypes Tryz.prog).any (Tryz.prog.loopsFrom ·))&&(Rows.fnExactFairResultRow.wideKeys==(Tryz.f10.params.toList++Rows.fnExactFairResultSpec.plain.varTypes Tryz.prog++Tryz.f10.resultTypes.toList).any (Tryz.prog.wideKeysFrom ·)))=true:=by kernel_rfl
theorem joined_ExactFairResult:joinedFacts Tryz.prog 10 Tryz.f10 Rows.fnExactFairResultSpec Rows.fnExactFairResultRow=true:=
 qsF (by kernel_rfl) Tryz.laidOut qsG (by kernel_rfl) places_ExactFairResult follows_ExactFairResult recurs_ExactFairResult namedVars_ExactFairResult (by kernel_rfl) loopsKeys_ExactFairResult (by kernel_rfl)
  (by rw[qsH];rfl) (by kernel_rfl) qsI (by rw[qsJ];rfl) (by rw[qsK];rfl) (by kernel_rfl) (by kernel_rfl)
theorem holds_ExactFairResult:Rows.FnExactFairResultSaid:=
 OpenClaim.holds_of_wide 10 Tryz.f10 rfl rfl rfl rfl rfl rfl rfl ⟨rfl,rfl,rfl,rfl,rfl⟩ rfl rfl rfl rfl rfl (by kernel_rfl) Tryz.func10 joined_ExactFairResult
  (of_decide_eq_true (by kernel_rfl)) (by unfold Func.isWrapper;first | (rw[zp (by decide +kernel)];kernel_rfl) | (rw[zo (by decide +kernel)];exact⟨rfl,rfl⟩))
  (fun os started H enc _=>lifted_ExactFairResult os started H enc)
#print axioms holds_ExactFairResult
end Go.Proofs.YtdanpadojemjeaaGreat
