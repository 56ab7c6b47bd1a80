/- FnNews: The law FnNews answers true at every text of bytes. No condition. -/
import Derived.Test.YthfnndblgbjniaaGreatDoorA0
import Derived.Test.YthfnndblgbjniaaGreatDoorP133
import Derived.Test.YthfnndblgbjniaaGreatDoorCards
import Derived.Test.YthfnndblgbjniaaGreatDoorTie
import Derived.OpenShut
import Derived.LaidMore
import Derived.Lay
import Derived.SevenTiedAt
import Derived.Stop.Joined
set_option linter.unusedVariables false
set_option linter.unusedSimpArgs false
namespace Go.Proofs.YthfnndblgbjniaaGreatDoor
open Go.ChangeShapes Go.WideShapes Go.ChangeAt Go.RowKit Go.Joins Go.Sx
theorem all_News(fD:List cE)(h:Az Tryz.prog Tryz.f3.params.toList fD):ax 3 fD [.one (B true)]:=by
 rw[Tryz.params3]at h
 match fD,h with
 | [a0],⟨bV,_⟩=>
  obtain⟨ha,rfl,fk,w0⟩:=alO bV;exact ahF ha w0
set_option maxRecDepth 100000 in
theorem lifted_News(os:Os)(started:os.Started)(H:Type)(enc:TypeId×Value->H):
  ReturnsInHanded {} Tryz.checked os 3 .any (fun w args=>(Rows.fnNewsSpec.pre enc Tryz.prog Tryz.f3 Rows.fnNewsRow.domain false w args/\laidMetH Tryz.prog Rows.fnNewsRow.laid w)/\sizedMet enc Tryz.prog Tryz.f3 (OpenSpec.ofChange Rows.fnNewsSpec) false w args)
   (Rows.fnNewsSpec.post enc Tryz.prog Tryz.f3 false true false false):=by
 refine returnsInHanded_of_change_and (C:=Tryz.checked) (X:=fun w _=>laidMetH Tryz.prog Rows.fnNewsRow.laid w) (fun _ _ _ bH h=>h.of_heap bH) Tryz.own started (by kernel_rfl) Tryz.func3
  (ChangeSpec.witness_shaped (enc:=enc) (C:=Tryz.checked) (os:=os) (X:=fun w _=>laidMetH Tryz.prog Rows.fnNewsRow.laid w) false (World.laidAll Tryz.prog os Rows.fnNewsRow.laid) #[.slice none 0 0] 8 (World.laidAll_os _ _ _)
   (World.shaped_of_ZipB (by kernel_rfl) (by kernel_rfl)) (by kernel_rfl) (by kernel_rfl) (by kernel_rfl)
   (by rw[MakeChecks.laidMetH_plain _ _ _ (by kernel_rfl)];exact laidMet_laidAll _ (by kernel_rfl) (by kernel_rfl))) ?_
 intro W base args ds gs before WR r' asP _ cz _;exact ajn (fno:=3) Tryz.laidOut (tb:=4) (by kernel_rfl) Tryz.underlying4 (by kernel_rfl) (by kernel_rfl) rfl WR r' (fun h=>by obtain⟨a0,rfl⟩:=Xf (l:=ds) h;exact⟨rfl,rfl,rfl⟩) (ah2 cz) all_News
theorem places_News:(Rows.fnNewsRow.inPlace==Tryz.prog.inPlace 3)=true:=by kernel_rfl
theorem follows_News:(Rows.fnNewsRow.unfollowed==Tryz.prog.unfollowed 3)=true:=by kernel_rfl
theorem recurs_News:(Rows.fnNewsRow.recurses==Tryz.prog.recurses 3)=true:=by kernel_rfl
theorem namedVars_News:(Rows.fnNewsRow.named==Tryz.prog.varsNamed 3)=true:=by kernel_rfl
theorem loopsKeys_News:((Rows.fnNewsRow.loops==(Tryz.f3.params.toList++Rows.fnNewsSpec.plain.varTypes Tryz.prog).any (Tryz.prog.loopsFrom ·))&&(Rows.fnNewsRow.wideKeys==(Tryz.f3.params.toList++Rows.fnNewsSpec.plain.varTypes Tryz.prog++Tryz.f3.resultTypes.toList).any (Tryz.prog.wideKeysFrom ·)))=true:=by kernel_rfl
theorem joined_News:joinedFacts Tryz.prog 3 Tryz.f3 Rows.fnNewsSpec Rows.fnNewsRow=true:=
 ajs (by kernel_rfl) Tryz.laidOut ajt (by kernel_rfl) places_News follows_News recurs_News namedVars_News (by kernel_rfl) loopsKeys_News (by kernel_rfl)
  (by rw[aju];rfl) (by kernel_rfl) ajv (by rw[ajw];rfl) (by rw[ajx];rfl) (by kernel_rfl) (by kernel_rfl)
theorem holds_News:Rows.FnNewsSaid:=
 OpenClaim.holds_of_wide 3 Tryz.f3 rfl rfl rfl rfl rfl rfl rfl ⟨rfl,rfl,rfl,rfl,rfl⟩ rfl rfl rfl rfl rfl (by kernel_rfl) Tryz.func3 joined_News
  (of_decide_eq_true (by kernel_rfl)) (by unfold Func.isWrapper;first | (rw[bU (by decide +kernel)];kernel_rfl) | (rw[bE (by decide +kernel)];exact⟨rfl,rfl⟩))
  (fun os started H enc _=>lifted_News os started H enc)
#print axioms holds_News
theorem holds_NewsCard:Rows.FnNewsCardSaid:=
 Claim7.holds_tied_plain_at .later [] [.data, .data, .data] true (true, "9824b0ff05f2973f6370e83f459c41c8ae47016b4bcee8d2cbfe73bc67758ba8") false holds_News (fun _ h => by cases h) (by kernel_rfl) (fun _ h => by cases h) fnNews_row_tie rfl ⟨rfl, rfl⟩ (by kernel_rfl) rfl
  (fun f fn b7 jt=>by
   obtain rfl : f = 3 := fB ((show Tryz.prog.funcNamed "loop.example/g00973/laws.FnNews" = some 3 by kernel_rfl).symm.trans b7) |>.symm;obtain rfl:fn=Tryz.f3:=(fB (Tryz.func3.symm.trans jt)).symm;exact⟨by kernel_rfl,fun j t bZ=>by
    have hm:t∈Tryz.f3.params.toList:=by simpa using Array.mem_of_getElem? bZ
    have gV:(Tryz.f3.params.toList.all fun u=>!Tryz.prog.wantsStandIn u)=true:=by kernel_rfl
    exact (show Tryz.prog.wantsStandIn t=false by simpa using fp.1 gV t hm)⟩)
  (by kernel_rfl)
#print axioms holds_NewsCard
end Go.Proofs.YthfnndblgbjniaaGreatDoor
