/- FnPicks: The law FnPicks answers true at every text of bytes. No condition. -/
import Derived.Test.YthfnndblgbjniaaGreatDoorA0
import Derived.Test.YthfnndblgbjniaaGreatDoorP130
import Derived.Test.YthfnndblgbjniaaGreatDoorCards
import Derived.Test.YthfnndblgbjniaaGreatDoorTie
import Derived.OpenShut
import Derived.LaidMore
import Derived.Lay
import Derived.SevenTiedAt
import Derived.Stop.Joined
set_option linter.unusedVariables false
set_option linter.unusedSimpArgs false
namespace Go.Proofs.YthfnndblgbjniaaGreatDoor
open Go.ChangeShapes Go.WideShapes Go.ChangeAt Go.RowKit Go.Joins Go.Sx
theorem all_Picks(gk:List cJ)(h:Cn Tryz.prog Tryz.f4.params.toList gk):al 4 gk [.one (B true)]:=by
 rw[Tryz.params4]at h
 match gk,h with
 | [a0],⟨b4,_⟩=>
  obtain⟨e9,rfl,eW,w0⟩:=ar9 b4;exact aoS e9 w0
set_option maxRecDepth 100000 in
theorem lifted_Picks(os:Os)(started:os.Started)(H:Type)(enc:TypeId×Value->H):
  ReturnsInHanded {} Tryz.checked os 4 .any (fun w args=>(Rows.fnPicksSpec.pre enc Tryz.prog Tryz.f4 Rows.fnPicksRow.domain false w args/\laidMetH Tryz.prog Rows.fnPicksRow.laid w)/\sizedMet enc Tryz.prog Tryz.f4 (OpenSpec.ofChange Rows.fnPicksSpec) false w args)
   (Rows.fnPicksSpec.post enc Tryz.prog Tryz.f4 false true false false):=by
 refine returnsInHanded_of_change_and (C:=Tryz.checked) (X:=fun w _=>laidMetH Tryz.prog Rows.fnPicksRow.laid w) (fun _ _ _ bD h=>h.of_heap bD) Tryz.own started (by kernel_rfl) Tryz.func4
  (ChangeSpec.witness_shaped (enc:=enc) (C:=Tryz.checked) (os:=os) (X:=fun w _=>laidMetH Tryz.prog Rows.fnPicksRow.laid w) false (World.laidAll Tryz.prog os Rows.fnPicksRow.laid) #[.slice none 0 0] 8 (World.laidAll_os _ _ _)
   (World.shaped_of_ZipB (by kernel_rfl) (by kernel_rfl)) (by kernel_rfl) (by kernel_rfl) (by kernel_rfl)
   (by rw[MakeChecks.laidMetH_plain _ _ _ (by kernel_rfl)];exact laidMet_laidAll _ (by kernel_rfl) (by kernel_rfl))) ?_
 intro W base args ds gs before ZF tC axV _ cB _;exact apK (fno:=4) Tryz.laidOut (tb:=4) (by kernel_rfl) Tryz.underlying4 (by kernel_rfl) (by kernel_rfl) rfl ZF tC (fun h=>by obtain⟨a0,rfl⟩:=Z6 (l:=ds) h;exact⟨rfl,rfl,rfl⟩) (aoO cB) all_Picks
theorem places_Picks:(Rows.fnPicksRow.inPlace==Tryz.prog.inPlace 4)=true:=by kernel_rfl
theorem follows_Picks:(Rows.fnPicksRow.unfollowed==Tryz.prog.unfollowed 4)=true:=by kernel_rfl
theorem recurs_Picks:(Rows.fnPicksRow.recurses==Tryz.prog.recurses 4)=true:=by kernel_rfl
theorem namedVars_Picks:(Rows.fnPicksRow.named==Tryz.prog.varsNamed 4)=true:=by kernel_rfl
theorem loopsKeys_Picks:((Rows.fnPicksRow.loops==(Tryz.f4.params.toList++Rows.fnPicksSpec.plain.varTypes Tryz.prog).any (Tryz.prog.loopsFrom ·))&&(Rows.fnPicksRow.wideKeys==(Tryz.f4.params.toList++Rows.fnPicksSpec.plain.varTypes Tryz.prog++Tryz.f4.resultTypes.toList).any (Tryz.prog.wideKeysFrom ·)))=true:=by kernel_rfl
theorem joined_Picks:joinedFacts Tryz.prog 4 Tryz.f4 Rows.fnPicksSpec Rows.fnPicksRow=true:=
 apN (by kernel_rfl) Tryz.laidOut apO (by kernel_rfl) places_Picks follows_Picks recurs_Picks namedVars_Picks (by kernel_rfl) loopsKeys_Picks (by kernel_rfl)
  (by rw[apP];rfl) (by kernel_rfl) apQ (by rw[apR];rfl) (by rw[apS];rfl) (by kernel_rfl) (by kernel_rfl)
theorem holds_Picks:Rows.FnPicksSaid:=
 OpenClaim.holds_of_wide 4 Tryz.f4 rfl rfl rfl rfl rfl rfl rfl ⟨rfl,rfl,rfl,rfl,rfl⟩ rfl rfl rfl rfl rfl (by kernel_rfl) Tryz.func4 joined_Picks
  (of_decide_eq_true (by kernel_rfl)) (by unfold Func.isWrapper;first | (rw[bL (by decide +kernel)];kernel_rfl) | (rw[bH (by decide +kernel)];exact⟨rfl,rfl⟩))
  (fun os started H enc _=>lifted_Picks os started H enc)
#print axioms holds_Picks
theorem holds_PicksCard:Rows.FnPicksCardSaid:=
 Claim7.holds_tied_plain_at .later [] [.data, .data, .data] true (true, "9824b0ff05f2973f6370e83f459c41c8ae47016b4bcee8d2cbfe73bc67758ba8") false holds_Picks (fun _ h => by cases h) (by kernel_rfl) (fun _ h => by cases h) fnPicks_row_tie rfl ⟨rfl, rfl⟩ (by kernel_rfl) rfl
  (fun f fn b8 kL=>by
   obtain rfl : f = 4 := gd ((show Tryz.prog.funcNamed "loop.example/g00973/laws.FnPicks" = some 4 by kernel_rfl).symm.trans b8) |>.symm;obtain rfl:fn=Tryz.f4:=(gd (Tryz.func4.symm.trans kL)).symm;exact⟨by kernel_rfl,fun j t bZ=>by
    have hm:t∈Tryz.f4.params.toList:=by simpa using Array.mem_of_getElem? bZ
    have hQ:(Tryz.f4.params.toList.all fun u=>!Tryz.prog.wantsStandIn u)=true:=by kernel_rfl
    exact (show Tryz.prog.wantsStandIn t=false by simpa using fU.1 hQ t hm)⟩)
  (by kernel_rfl)
#print axioms holds_PicksCard
end Go.Proofs.YthfnndblgbjniaaGreatDoor
