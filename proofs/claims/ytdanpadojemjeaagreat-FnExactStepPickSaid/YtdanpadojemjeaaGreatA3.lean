/- FnExactStepPick: for a cluster and a pick the program and the reference hand back the same cluster and the same answer. No condition. -/
import Derived.Test.YtdanpadojemjeaaGreatT5
import Derived.Test.YtdanpadojemjeaaGreatA0
import Derived.Test.YtdanpadojemjeaaGreatP53
set_option linter.unusedVariables false
set_option linter.unusedSimpArgs false
namespace Go.Proofs.YtdanpadojemjeaaGreat
open Go.ChangeShapes Go.WideShapes Go.ChangeAt Go.RowKit Go.Joins Go.Sx
theorem all_ExactStepPick(ads:List AD)(h:ShAll Tryz.prog Tryz.f6.params.toList ads):Rt 6 ads [.one (B true)]:=by
 rw[Tryz.params6]at h
 match ads,h with
 | [a0,a1],⟨h0,h1,_⟩=>
  obtain⟨x0,rfl,w0⟩:=qrT h0
  obtain⟨x1,rfl,w1⟩:=qrG h1
  exact qMw x0 x1 w0 w1
set_option maxRecDepth 100000 in
theorem lifted_ExactStepPick(os:Os)(started:os.Started)(H:Type)(enc:TypeId×Value→H):
  ReturnsInHanded {} Tryz.checked os 6 .any (Rows.fnExactStepPickSpec.pre6 enc Tryz.prog Tryz.f6 Rows.fnExactStepPickRow.domain false) (Rows.fnExactStepPickSpec.post enc Tryz.prog Tryz.f6 false true false false):=by
 refine returnsInHanded_of_change (C:=Tryz.checked) Tryz.own started (by kernel_rfl) Tryz.func6
  (ChangeSpec.witness6 (enc:=enc) (C:=Tryz.checked) false ⟨#[],#[.agg #[.slice none 0 0,.int .i64 0,.int .i64 0,.slice none 0 0,.slice none 0 0,.slice none 0 0,.slice none 0 0],.agg #[.int .i64 0,.int .i64 0,.int .i64 0]],[]⟩ 8 (by kernel_rfl) (by kernel_rfl) (by kernel_rfl) (by kernel_rfl)) ?_
 intro W base args ds gs before hval0 hW hcnd _
 exact qrx (fno:=6) Tryz.laidOut (tb:=4) (by kernel_rfl) Tryz.underlying4 (by kernel_rfl) (by kernel_rfl) rfl hval0 hW (fun h=>by obtain⟨a0,a1,rfl⟩:=lst2 (l:=ds) h;exact⟨rfl,rfl,rfl⟩) all_ExactStepPick
theorem places_ExactStepPick:(Rows.fnExactStepPickRow.inPlace==Tryz.prog.inPlace 6)=true:=by kernel_rfl
theorem follows_ExactStepPick:(Rows.fnExactStepPickRow.unfollowed==Tryz.prog.unfollowed 6)=true:=by kernel_rfl
theorem recurs_ExactStepPick:(Rows.fnExactStepPickRow.recurses==Tryz.prog.recurses 6)=true:=by kernel_rfl
theorem namedVars_ExactStepPick:(Rows.fnExactStepPickRow.named==Tryz.prog.varsNamed 6)=true:=by kernel_rfl
theorem loopsKeys_ExactStepPick:((Rows.fnExactStepPickRow.loops==(Tryz.f6.params.toList++Rows.fnExactStepPickSpec.plain.varTypes Tryz.prog).any (Tryz.prog.loopsFrom ·))&&(Rows.fnExactStepPickRow.wideKeys==(Tryz.f6.params.toList++Rows.fnExactStepPickSpec.plain.varTypes Tryz.prog++Tryz.f6.resultTypes.toList).any (Tryz.prog.wideKeysFrom ·)))=true:=by kernel_rfl
theorem joined_ExactStepPick:joinedFacts Tryz.prog 6 Tryz.f6 Rows.fnExactStepPickSpec Rows.fnExactStepPickRow=true:=
 qrU (by kernel_rfl) Tryz.laidOut qrV (by kernel_rfl) places_ExactStepPick follows_ExactStepPick recurs_ExactStepPick namedVars_ExactStepPick (by kernel_rfl) loopsKeys_ExactStepPick (by kernel_rfl)
  (by rw[qrW];rfl) (by kernel_rfl) qrX (by rw[qrY];rfl) (by rw[qrZ];rfl) (by kernel_rfl) (by kernel_rfl)
theorem holds_ExactStepPick:Rows.FnExactStepPickSaid:=
 OpenClaim.holds_of_wide 6 Tryz.f6 rfl rfl rfl rfl rfl rfl rfl ⟨rfl,rfl,rfl,rfl,rfl⟩ rfl rfl rfl rfl rfl (by kernel_rfl) Tryz.func6 joined_ExactStepPick
  (of_decide_eq_true (by kernel_rfl)) (by unfold Func.isWrapper;first | (rw[zq (by decide +kernel)];kernel_rfl) | (rw[zo (by decide +kernel)];exact⟨rfl,rfl⟩))
  (fun os started H enc _=>lifted_ExactStepPick os started H enc)
#print axioms holds_ExactStepPick
end Go.Proofs.YtdanpadojemjeaaGreat
