/- FnEachTurn: FnEachTurn: whatever the bytes that a case is drawn from, the law's function returns true: a record that goes round and round takes 22 steps, is remembered seven times, and is capped. No condition. No condition. -/
import Derived.Test.YtenekpkjlgddnaaT5
import Derived.Test.YtenekpkjlgddnaaP71
set_option linter.unusedVariables false
set_option linter.unusedSimpArgs false
namespace Go.Proofs.Ytenekpkjlgddnaa
open Go.ChangeShapes Go.WideShapes Go.ChangeAt Go.RowKit Go.Joins Go.Sx
theorem all_EachTurn(ads:List AD)(h:ShAll Try.prog Try.f5.params.toList ads):Rt 5 ads [.one (B true)]:=by
 rw[Try.params5]at h
 match ads,h with
 | [a0],⟨h0,_⟩=>
  obtain⟨x0,rfl,l0,w0⟩:=qo4 h0
  exact qpd x0 w0
set_option maxRecDepth 100000 in
theorem lifted_EachTurn(os:Os)(started:os.Started)(H:Type)(enc:TypeId×Value→H):
  ReturnsInHanded {} Try.checked os 5 .any (Rows.fnEachTurnSpec.pre6 enc Try.prog Try.f5 Rows.fnEachTurnRow.domain false) (Rows.fnEachTurnSpec.post enc Try.prog Try.f5 false true false false):=by
 refine returnsInHanded_of_change (C:=Try.checked) Try.own started (by kernel_rfl) Try.func5
  (ChangeSpec.witness6 (enc:=enc) (C:=Try.checked) false ⟨#[],#[.slice none 0 0],[]⟩ 8 (by kernel_rfl) (by kernel_rfl) (by kernel_rfl) (by kernel_rfl)) ?_
 intro W base args ds gs before hval0 hW hcnd _
 exact qj6 (fno:=5) Try.laidOut (tb:=4) (by kernel_rfl) Try.underlying4 (by kernel_rfl) (by kernel_rfl) rfl hval0 hW (fun h=>by obtain⟨a0,rfl⟩:=lst1 (l:=ds) h;exact⟨rfl,rfl,rfl⟩) all_EachTurn
theorem places_EachTurn:(Rows.fnEachTurnRow.inPlace==Try.prog.inPlace 5)=true:=by kernel_rfl
theorem follows_EachTurn:(Rows.fnEachTurnRow.unfollowed==Try.prog.unfollowed 5)=true:=by kernel_rfl
theorem recurs_EachTurn:(Rows.fnEachTurnRow.recurses==Try.prog.recurses 5)=true:=by kernel_rfl
theorem namedVars_EachTurn:(Rows.fnEachTurnRow.named==Try.prog.varsNamed 5)=true:=by kernel_rfl
theorem loopsKeys_EachTurn:((Rows.fnEachTurnRow.loops==(Try.f5.params.toList++Rows.fnEachTurnSpec.plain.varTypes Try.prog).any (Try.prog.loopsFrom ·))&&(Rows.fnEachTurnRow.wideKeys==(Try.f5.params.toList++Rows.fnEachTurnSpec.plain.varTypes Try.prog++Try.f5.resultTypes.toList).any (Try.prog.wideKeysFrom ·)))=true:=by kernel_rfl
theorem joined_EachTurn:joinedFacts Try.prog 5 Try.f5 Rows.fnEachTurnSpec Rows.fnEachTurnRow=true:=
 qj9 (by kernel_rfl) Try.laidOut qka (by kernel_rfl) places_EachTurn follows_EachTurn recurs_EachTurn namedVars_EachTurn (by kernel_rfl) loopsKeys_EachTurn (by kernel_rfl)
  (by rw[qkb];rfl) (by kernel_rfl) qkc (by rw[qkd];rfl) (by rw[qke];rfl) (by kernel_rfl) (by kernel_rfl)
theorem holds_EachTurn:Rows.FnEachTurnSaid:=
 OpenClaim.holds_of_wide 5 Try.f5 rfl rfl rfl rfl rfl rfl rfl ⟨rfl,rfl,rfl,rfl,rfl⟩ rfl rfl rfl rfl rfl (by kernel_rfl) Try.func5 joined_EachTurn
  (of_decide_eq_true (by kernel_rfl)) (by unfold Func.isWrapper;first | (rw[zp (by decide +kernel)];kernel_rfl) | (rw[zo (by decide +kernel)];exact⟨rfl,rfl⟩))
  (fun os started H enc _=>lifted_EachTurn os started H enc)
#print axioms holds_EachTurn
end Go.Proofs.Ytenekpkjlgddnaa
