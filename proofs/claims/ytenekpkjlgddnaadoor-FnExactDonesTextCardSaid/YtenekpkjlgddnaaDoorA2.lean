/- FnExactDonesText: FnExactDonesText: for every worker the text that the program tells of its epochs is the reference's: the law's function returns true. The card ties the three tables that strconv names to the program's text. No condition. -/
import Derived.Test.YtenekpkjlgddnaaDoorT5
import Derived.Test.YtenekpkjlgddnaaDoorP76
import Derived.Test.YtenekpkjlgddnaaDoorCards
import Derived.Test.YtenekpkjlgddnaaDoorTie
import Derived.OpenShut
import Derived.LaidMore
import Derived.Lay
import Derived.SevenTiedAt
import Derived.Stop.Joined
set_option linter.unusedVariables false
set_option linter.unusedSimpArgs false
namespace Go.Proofs.YtenekpkjlgddnaaDoor
open Go.ChangeShapes Go.WideShapes Go.ChangeAt Go.RowKit Go.Joins Go.Sx
theorem all_ExactDonesText(ads:List AD)(h:ShAll Tryd.prog Tryd.f4.params.toList ads):Rt 4 ads [.one (B true)]:=by
 rw[Tryd.params4]at h
 match ads,h with
 | [a0],⟨h0,_⟩=>
  obtain⟨x0,rfl,w0⟩:=qiY h0
  exact qlC x0 w0
set_option maxRecDepth 100000 in
theorem lifted_ExactDonesText(os:Os)(started:os.Started)(H:Type)(enc:TypeId×Value→H):
  ReturnsInHanded {} Tryd.checked os 4 .any (fun w args=>(Rows.fnExactDonesTextSpec.pre enc Tryd.prog Tryd.f4 Rows.fnExactDonesTextRow.domain false w args∧laidMetH Tryd.prog Rows.fnExactDonesTextRow.laid w)∧sizedMet enc Tryd.prog Tryd.f4 (OpenSpec.ofChange Rows.fnExactDonesTextSpec) false w args)
   (Rows.fnExactDonesTextSpec.post enc Tryd.prog Tryd.f4 false true false false):=by
 refine returnsInHanded_of_change_and (C:=Tryd.checked) (X:=fun w _=>laidMetH Tryd.prog Rows.fnExactDonesTextRow.laid w) (fun _ _ _ hh h=>h.of_heap hh) Tryd.own started (by kernel_rfl) Tryd.func4
  (ChangeSpec.witness_shaped (enc:=enc) (C:=Tryd.checked) (os:=os) (X:=fun w _=>laidMetH Tryd.prog Rows.fnExactDonesTextRow.laid w) false (World.laidAll Tryd.prog os Rows.fnExactDonesTextRow.laid) #[.agg #[.slice none 0 0,.slice none 0 0,.slice none 0 0,.slice none 0 0,.slice none 0 0,.slice none 0 0,.slice none 0 0,.slice none 0 0]] 8 (World.laidAll_os _ _ _)
   (World.shaped_of_ZipB (by kernel_rfl) (by kernel_rfl)) (by kernel_rfl) (by kernel_rfl) (by kernel_rfl)
   (by rw[MakeChecks.laidMetH_plain _ _ _ (by kernel_rfl)];exact laidMet_laidAll _ (by kernel_rfl) (by kernel_rfl))) ?_
 intro W base args ds gs before hval0 hW hcnd _ hL _
 exact qiO (fno:=4) Tryd.laidOut (tb:=4) (by kernel_rfl) Tryd.underlying4 (by kernel_rfl) (by kernel_rfl) rfl hval0 hW (fun h=>by obtain⟨a0,rfl⟩:=lst1 (l:=ds) h;exact⟨rfl,rfl,rfl⟩) (qlB hL) all_ExactDonesText
theorem places_ExactDonesText:(Rows.fnExactDonesTextRow.inPlace==Tryd.prog.inPlace 4)=true:=by kernel_rfl
theorem follows_ExactDonesText:(Rows.fnExactDonesTextRow.unfollowed==Tryd.prog.unfollowed 4)=true:=by kernel_rfl
theorem recurs_ExactDonesText:(Rows.fnExactDonesTextRow.recurses==Tryd.prog.recurses 4)=true:=by kernel_rfl
theorem namedVars_ExactDonesText:(Rows.fnExactDonesTextRow.named==Tryd.prog.varsNamed 4)=true:=by kernel_rfl
theorem loopsKeys_ExactDonesText:((Rows.fnExactDonesTextRow.loops==(Tryd.f4.params.toList++Rows.fnExactDonesTextSpec.plain.varTypes Tryd.prog).any (Tryd.prog.loopsFrom ·))&&(Rows.fnExactDonesTextRow.wideKeys==(Tryd.f4.params.toList++Rows.fnExactDonesTextSpec.plain.varTypes Tryd.prog++Tryd.f4.resultTypes.toList).any (Tryd.prog.wideKeysFrom ·)))=true:=by kernel_rfl
theorem joined_ExactDonesText:joinedFacts Tryd.prog 4 Tryd.f4 Rows.fnExactDonesTextSpec Rows.fnExactDonesTextRow=true:=
 qiZ (by kernel_rfl) Tryd.laidOut qi0 (by kernel_rfl) places_ExactDonesText follows_ExactDonesText recurs_ExactDonesText namedVars_ExactDonesText (by kernel_rfl) loopsKeys_ExactDonesText (by kernel_rfl)
  (by rw[qi1];rfl) (by kernel_rfl) qi2 (by rw[qi3];rfl) (by rw[qi4];rfl) (by kernel_rfl) (by kernel_rfl)
theorem holds_ExactDonesText:Rows.FnExactDonesTextSaid:=
 OpenClaim.holds_of_wide 4 Tryd.f4 rfl rfl rfl rfl rfl rfl rfl ⟨rfl,rfl,rfl,rfl,rfl⟩ rfl rfl rfl rfl rfl (by kernel_rfl) Tryd.func4 joined_ExactDonesText
  (of_decide_eq_true (by kernel_rfl)) (by unfold Func.isWrapper;first | (rw[zp (by decide +kernel)];kernel_rfl) | (rw[zo (by decide +kernel)];exact⟨rfl,rfl⟩))
  (fun os started H enc _=>lifted_ExactDonesText os started H enc)
#print axioms holds_ExactDonesText
theorem holds_ExactDonesTextCard:Rows.FnExactDonesTextCardSaid:=
 Claim7.holds_tied_plain_at .later [] [.data, .data, .data] true (true, "0710f6c4eba1987a2e74a68020f23a2b115d5f801b7b7b71f0e4d7a0ad7e165f") false holds_ExactDonesText (fun _ h => by cases h) (by kernel_rfl) (fun _ h => by cases h) fnExactDonesText_row_tie rfl ⟨rfl, rfl⟩ (by kernel_rfl) rfl
  (fun f fn hf hfn=>by
   obtain rfl : f = 4 := zx ((show Tryd.prog.funcNamed "loop.example/g00973/laws.FnExactDonesText" = some 4 by kernel_rfl).symm.trans hf) |>.symm
   obtain rfl:fn=Tryd.f4:=(zx (Tryd.func4.symm.trans hfn)).symm
   exact⟨by kernel_rfl,fun j t ht=>by
    have hm:t∈Tryd.f4.params.toList:=by simpa using Array.mem_of_getElem? ht
    have hall:(Tryd.f4.params.toList.all fun u=>!Tryd.prog.wantsStandIn u)=true:=by kernel_rfl
    exact (show Tryd.prog.wantsStandIn t=false by simpa using zM.1 hall t hm)⟩)
  (by kernel_rfl)
#print axioms holds_ExactDonesTextCard
end Go.Proofs.YtenekpkjlgddnaaDoor
