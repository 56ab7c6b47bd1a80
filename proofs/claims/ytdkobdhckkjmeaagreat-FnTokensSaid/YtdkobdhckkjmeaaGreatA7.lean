/- FnTokens: The law FnTokens answers true at every drawn text of bytes. No condition. No condition. -/
import Derived.Test.YtdkobdhckkjmeaaGreatT5
import Derived.Test.YtdkobdhckkjmeaaGreatA0
import Derived.Test.YtdkobdhckkjmeaaGreatP114
set_option linter.unusedVariables false
set_option linter.unusedSimpArgs false
namespace Go.Proofs.YtdkobdhckkjmeaaGreat
open Go.ChangeShapes Go.WideShapes Go.ChangeAt Go.RowKit Go.Joins Go.Sx
theorem all_Tokens(ads:List AD)(h:ShAll Tryz.prog Tryz.f7.params.toList ads):Rt 7 ads [.one (B true)]:=by
 rw[Tryz.params7]at h
 match ads,h with
 | [a0],⟨h0,_⟩=>
  obtain⟨x0,rfl,l0,w0⟩:=qpX h0;exact law_Tokens x0 w0
set_option maxRecDepth 100000 in
theorem lifted_Tokens(os:Os)(started:os.Started)(H:Type)(enc:TypeId×Value→H):
  ReturnsInHanded {} Tryz.checked os 7 .any (Rows.fnTokensSpec.pre6 enc Tryz.prog Tryz.f7 Rows.fnTokensRow.domain false) (Rows.fnTokensSpec.post enc Tryz.prog Tryz.f7 false true false false):=by
 refine returnsInHanded_of_change (C:=Tryz.checked) Tryz.own started (by kernel_rfl) Tryz.func7
  (ChangeSpec.witness6 (enc:=enc) (C:=Tryz.checked) false ⟨#[],#[.slice none 0 0],[]⟩ 8 (by kernel_rfl) (by kernel_rfl) (by kernel_rfl) (by kernel_rfl)) ?_
 intro W base args ds gs before hval0 hW hcnd _;exact qpA (fno:=7) Tryz.laidOut (tb:=4) (by kernel_rfl) Tryz.underlying4 (by kernel_rfl) (by kernel_rfl) rfl hval0 hW (fun h=>by obtain⟨a0,rfl⟩:=lst1 (l:=ds) h;exact⟨rfl,rfl,rfl⟩) (fun x hx=>by cases hx) all_Tokens
theorem places_Tokens:(Rows.fnTokensRow.inPlace==Tryz.prog.inPlace 7)=true:=by kernel_rfl
theorem follows_Tokens:(Rows.fnTokensRow.unfollowed==Tryz.prog.unfollowed 7)=true:=by kernel_rfl
theorem recurs_Tokens:(Rows.fnTokensRow.recurses==Tryz.prog.recurses 7)=true:=by kernel_rfl
theorem namedVars_Tokens:(Rows.fnTokensRow.named==Tryz.prog.varsNamed 7)=true:=by kernel_rfl
theorem loopsKeys_Tokens:((Rows.fnTokensRow.loops==(Tryz.f7.params.toList++Rows.fnTokensSpec.plain.varTypes Tryz.prog).any (Tryz.prog.loopsFrom ·))&&(Rows.fnTokensRow.wideKeys==(Tryz.f7.params.toList++Rows.fnTokensSpec.plain.varTypes Tryz.prog++Tryz.f7.resultTypes.toList).any (Tryz.prog.wideKeysFrom ·)))=true:=by kernel_rfl
theorem joined_Tokens:joinedFacts Tryz.prog 7 Tryz.f7 Rows.fnTokensSpec Rows.fnTokensRow=true:=
 qpC (by kernel_rfl) Tryz.laidOut qpD (by kernel_rfl) places_Tokens follows_Tokens recurs_Tokens namedVars_Tokens (by kernel_rfl) loopsKeys_Tokens (by kernel_rfl)
  (by rw[qpE];rfl) (by kernel_rfl) qpF (by rw[qpG];rfl) (by rw[qpH];rfl) (by kernel_rfl) (by kernel_rfl)
theorem holds_Tokens:Rows.FnTokensSaid:=
 OpenClaim.holds_of_wide 7 Tryz.f7 rfl rfl rfl rfl rfl rfl rfl ⟨rfl,rfl,rfl,rfl,rfl⟩ rfl rfl rfl rfl rfl (by kernel_rfl) Tryz.func7 joined_Tokens
  (of_decide_eq_true (by kernel_rfl)) (by unfold Func.isWrapper;first | (rw[zp (by decide +kernel)];kernel_rfl) | (rw[zo (by decide +kernel)];exact⟨rfl,rfl⟩))
  (fun os started H enc _=>lifted_Tokens os started H enc)
#print axioms holds_Tokens
end Go.Proofs.YtdkobdhckkjmeaaGreat
