import Derived.Test.YthfnndblgbjniaaGreatDoorC0
import Derived.Test.YthfnndblgbjniaaGreatDoorG1
set_option linter.unusedVariables false
set_option linter.unusedSimpArgs false
namespace Go.Proofs.YthfnndblgbjniaaGreatDoor
open Go.Sx Go.RowKit Go.Proofs.Tryz
theorem SO(xs:List Int)(au:xs.length<=8388608):ax 145 [.one (.J 1 (xs.map ba)),.one (.J 1 (xs.map ba))] [.one (B true)]:=by
 have l:=eu (P:=prog) (c:=(aq f145 0)) (cI 0) xs.length (fun i:Nat=>yZ (xs.map ba) (xs.map ba) i) (fun i hi=>by
  obtain⟨a,ai⟩:=cS hi;exact agW ⟨b3 hi,bn,bt hi,bp ba ai,bn,bt hi,bp ba ai,by simp,cT hi au,ad⟩) (agX ⟨dv,ad⟩)
 exact agY ⟨by simp,l,ad⟩
theorem SP{xs:List Bool}(au:xs.length<=8388608):ax 146 [.one (.J 1 (xs.map cu)),.one (.J 1 (xs.map cu))] [.one (B true)]:=by
 have l:=eu (P:=prog) (c:=(aq f146 0)) (cI 0) xs.length (fun i:Nat=>y0 (xs.map cu) (xs.map cu) i) (fun i hi=>by
  obtain⟨a,ai⟩:=cS hi;exact agZ ⟨b3 hi,bn,bt hi,bp cu ai,bn,bt hi,bp cu ai,by simp,cT hi au,ad⟩) (ag0 ⟨dv,ad⟩)
 exact ag1 ⟨by simp,l,ad⟩
theorem aij{xs:List ca}(au:xs.length<=8388608):ax 147 [.one (.J 2 (xs.map ca.e)),.one (.J 2 (xs.map ca.e))] [.one (B true)]:=by
 have l:=eu (P:=prog) (c:=(aq f147 0)) (cI 0) xs.length (fun i:Nat=>y1 (xs.map ca.e) (xs.map ca.e) i) (fun i hi=>by
  obtain⟨a,ai⟩:=cS hi;exact ag2 ⟨b3 hi,bn,bt hi,bp ca.e ai,bn,bt hi,bp ca.e ai,by simp,cT hi au,ad⟩) (ag3 ⟨dv,ad⟩)
 exact ag4 ⟨by simp,l,ad⟩
theorem aik{xs:List b4}(au:xs.length<=8388608):ax 49 [.one (.J 5 (xs.map b4.e)),.one (.J 5 (xs.map b4.e))] [.one (B true)]:=by
 have l:=eu (P:=prog) (c:=(aq f49 0)) (cI 0) xs.length (fun i:Nat=>y2 (xs.map b4.e) (xs.map b4.e) i) (fun i hi=>by
  obtain⟨a,ai⟩:=cS hi;exact ag5 ⟨b3 hi,bn,bt hi,bp b4.e ai,bn,bt hi,bp b4.e ai,by simp,cT hi au,ad⟩) (ag6 ⟨dv,ad⟩)
 exact ag7 ⟨by simp,l,ad⟩
theorem SQ(xs:List bR)(au:xs.length<=8388608):ax 10 [.one (.J 3 (xs.map bR.e)),.one (.J 3 (xs.map bR.e))] [.one (B true)]:=by
 have l:=eu (P:=prog) (c:=(aq f10 0)) (cI 0) xs.length (fun i:Nat=>y3 (xs.map bR.e) (xs.map bR.e) i) (fun i hi=>by
  obtain⟨a,ai⟩:=cS hi;exact ag8 ⟨b3 hi,bn,bt hi,bp bR.e ai,bn,bt hi,bp bR.e ai,by simp,cT hi au,ad⟩) (agz ⟨dv,ad⟩)
 exact agA ⟨by simp,l,ad⟩
theorem Da(xs:List aH)(au:xs.length<=8388608):ax 143 [.one (.J 5 (xs.map aH.e)),.one (.J 5 (xs.map aH.e))] [.one (B true)]:=by
 have l:=eu (P:=prog) (c:=(aq f143 0)) (cI 0) xs.length (fun i:Nat=>y7 (xs.map aH.e) (xs.map aH.e) i) (fun i hi=>by
  obtain⟨a,ai⟩:=cS hi;exact aic ⟨b3 hi,bn,bt hi,bp aH.e ai,bn,bt hi,bp aH.e ai,by simp,cT hi au,ad⟩) (aid ⟨dv,ad⟩)
 exact aie ⟨by simp,l,ad⟩
theorem ail{xs:List Cell}(au:xs.length<=8388608):ax 144 [.one (.J 4 (xs.map Cell.e)),.one (.J 4 (xs.map Cell.e))] [.one (B true)]:=by
 have l:=eu (P:=prog) (c:=(aq f144 0)) (cI 0) xs.length (fun i:Nat=>y8 (xs.map Cell.e) (xs.map Cell.e) i) (fun i hi=>by
  obtain⟨a,ai⟩:=cS hi;exact aif ⟨b3 hi,bn,bt hi,bp Cell.e ai,bn,bt hi,bp Cell.e ai,by simp,cT hi au,ad⟩) (aih ⟨dv,ad⟩)
 exact aii ⟨by simp,l,ad⟩
theorem aim(x:Node)(ao:x.sz<=8388608):ax 142 [.agg x.e,.agg x.e] [.one (B true)]:=
 agB ⟨by simp,by simp,by simp,SO x.outs ao,ad⟩
theorem ain(g:b1)(ay:g.sz<=8388608):ax 46 [.agg g.e,.agg g.e] [.one (B true)]:=by
 have au:g.nodes.length<=8388608:=wA (sz:=Node.sz) ay;have l:=eu (P:=prog) (c:=(aq f85 0)) (cI 0) g.nodes.length (fun i:Nat=>y4 (g.nodes.map Node.e) (g.nodes.map Node.e) i) (fun i hi=>by
  obtain⟨a,ai⟩:=cS hi;exact agC ⟨b3 hi,bn,bt hi,bp Node.e ai,bn,bt hi,bp Node.e ai,aim a (uU (sz:=Node.sz) ay (ee ai)),rfl,cT hi au,ad⟩) (agD ⟨dv,ad⟩)
 have e:ax 46 [.agg g.e,.agg g.e] [.one (B (g.cap==g.cap))]:=agF ⟨agE ⟨by simp,l,ad⟩,rfl,by simp,ad⟩;rwa[rT]at e
theorem aio(l:bA)(au:l.sz<=8388608):ax 87 [.agg l.e,.agg l.e] [.one (B true)]:=by
 have e:ax 87 [.agg l.e,.agg l.e] [.one (B (l.dd==l.dd))]:=agG ⟨by simp,Da l.queue au,rfl,by simp,by simp,by simp,ad⟩;rwa[rT]at e
theorem aip(w:aR)(hw:w.sz<=8388608):ax 86 [.agg w.e,.agg w.e] [.one (B true)]:=by
 simp only[aR.sz]at hw;exact ah7 ⟨Da _ (by omega),rfl,Da _ (by omega),rfl,Da _ (by omega),rfl,ail (by omega),rfl,SO _ (by omega),rfl,SP (by omega),rfl,SP (by omega),rfl,aij (by omega),ad⟩
theorem aiq(c:bb)(ap:c.sz<=8388608):ax 9 [.agg c.e,.agg c.e] [.one (B true)]:=by
 simp only[bb.sz]at ap;have hw:eO aR.sz c.aB<=8388608:=by omega
 have au:eO bA.sz c.b2<=8388608:=by omega
 have kw:=wA hw;have k':=wA au;have kI:=eu (P:=prog) (c:=(aq f47 0)) (cI 0) c.aB.length (fun i:Nat=>y6 (c.aB.map aR.e) (c.aB.map aR.e) i) (fun i hi=>by
  obtain⟨a,ai⟩:=cS hi;exact ah8 ⟨b3 hi,bn,bt hi,bp aR.e ai,bn,bt hi,bp aR.e ai,aip a (uU hw (ee ai)),rfl,cT hi kw,ad⟩) (ah9 ⟨dv,ad⟩)
 have yd:=eu (P:=prog) (c:=(aq f48 0)) (cI 0) c.b2.length (fun i:Nat=>y5 (c.b2.map bA.e) (c.b2.map bA.e) i) (fun i hi=>by
  obtain⟨a,ai⟩:=cS hi;exact agH ⟨b3 hi,bn,bt hi,bp bA.e ai,bn,bt hi,bp bA.e ai,aio a (uU au (ee ai)),rfl,cT hi k',ad⟩) (agI ⟨dv,ad⟩)
 exact aib ⟨ain c.aG (by omega),rfl,aia ⟨by simp,kI,ad⟩,rfl,ah6 ⟨by simp,yd,ad⟩,rfl,aik (by omega),rfl,SQ _ (by omega),ad⟩
