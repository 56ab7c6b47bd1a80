import Derived.Test.YthfnndblgbjniaaGreatDoorC0
import Derived.Test.YthfnndblgbjniaaGreatDoorG1
set_option linter.unusedVariables false
set_option linter.unusedSimpArgs false
namespace Go.Proofs.YthfnndblgbjniaaGreatDoor
open Go.Sx Go.RowKit Go.Proofs.Tryz
theorem U0(xs:List Int)(ar:xs.length<=8388608):al 145 [.one (.J 1 (xs.map bb)),.one (.J 1 (xs.map bb))] [.one (B true)]:=by
 have l:=er (P:=prog) (c:=(ap f145 0)) (cy 0) xs.length (fun i:Nat=>A9 (xs.map bb) (xs.map bb) i) (fun i hi=>by
  obtain⟨a,aj⟩:=c2 hi;exact aob ⟨cc hi,bB,bI hi,bC bb aj,bB,bI hi,bC bb aj,by simp,dc hi ar,ad⟩) (aoc ⟨dG,ad⟩)
 exact aod ⟨by simp,l,ad⟩
theorem U1{xs:List Bool}(ar:xs.length<=8388608):al 146 [.one (.J 1 (xs.map cp)),.one (.J 1 (xs.map cp))] [.one (B true)]:=by
 have l:=er (P:=prog) (c:=(ap f146 0)) (cy 0) xs.length (fun i:Nat=>A' (xs.map cp) (xs.map cp) i) (fun i hi=>by
  obtain⟨a,aj⟩:=c2 hi;exact aoe ⟨cc hi,bB,bI hi,bC cp aj,bB,bI hi,bC cp aj,by simp,dc hi ar,ad⟩) (aof ⟨dG,ad⟩)
 exact aog ⟨by simp,l,ad⟩
theorem anX{xs:List cz}(ar:xs.length<=8388608):al 147 [.one (.J 2 (xs.map cz.e)),.one (.J 2 (xs.map cz.e))] [.one (B true)]:=by
 have l:=er (P:=prog) (c:=(ap f147 0)) (cy 0) xs.length (fun i:Nat=>Ba (xs.map cz.e) (xs.map cz.e) i) (fun i hi=>by
  obtain⟨a,aj⟩:=c2 hi;exact aoh ⟨cc hi,bB,bI hi,bC cz.e aj,bB,bI hi,bC cz.e aj,by simp,dc hi ar,ad⟩) (aoi ⟨dG,ad⟩)
 exact aoj ⟨by simp,l,ad⟩
theorem anY{xs:List bW}(ar:xs.length<=8388608):al 49 [.one (.J 5 (xs.map bW.e)),.one (.J 5 (xs.map bW.e))] [.one (B true)]:=by
 have l:=er (P:=prog) (c:=(ap f49 0)) (cy 0) xs.length (fun i:Nat=>Bb (xs.map bW.e) (xs.map bW.e) i) (fun i hi=>by
  obtain⟨a,aj⟩:=c2 hi;exact aok ⟨cc hi,bB,bI hi,bC bW.e aj,bB,bI hi,bC bW.e aj,by simp,dc hi ar,ad⟩) (aol ⟨dG,ad⟩)
 exact aom ⟨by simp,l,ad⟩
theorem anZ{xs:List bR}(ar:xs.length<=8388608):al 10 [.one (.J 3 (xs.map bR.e)),.one (.J 3 (xs.map bR.e))] [.one (B true)]:=by
 have l:=er (P:=prog) (c:=(ap f10 0)) (cy 0) xs.length (fun i:Nat=>Bc (xs.map bR.e) (xs.map bR.e) i) (fun i hi=>by
  obtain⟨a,aj⟩:=c2 hi;exact aon ⟨cc hi,bB,bI hi,bC bR.e aj,bB,bI hi,bC bR.e aj,by simp,dc hi ar,ad⟩) (aoo ⟨dG,ad⟩)
 exact aop ⟨by simp,l,ad⟩
theorem Fg(xs:List aD)(ar:xs.length<=8388608):al 143 [.one (.J 5 (xs.map aD.e)),.one (.J 5 (xs.map aD.e))] [.one (B true)]:=by
 have l:=er (P:=prog) (c:=(ap f143 0)) (cy 0) xs.length (fun i:Nat=>Bh (xs.map aD.e) (xs.map aD.e) i) (fun i hi=>by
  obtain⟨a,aj⟩:=c2 hi;exact anR ⟨cc hi,bB,bI hi,bC aD.e aj,bB,bI hi,bC aD.e aj,by simp,dc hi ar,ad⟩) (anS ⟨dG,ad⟩)
 exact anT ⟨by simp,l,ad⟩
theorem an0{xs:List Cell}(ar:xs.length<=8388608):al 144 [.one (.J 4 (xs.map Cell.e)),.one (.J 4 (xs.map Cell.e))] [.one (B true)]:=by
 have l:=er (P:=prog) (c:=(ap f144 0)) (cy 0) xs.length (fun i:Nat=>Bi (xs.map Cell.e) (xs.map Cell.e) i) (fun i hi=>by
  obtain⟨a,aj⟩:=c2 hi;exact anU ⟨cc hi,bB,bI hi,bC Cell.e aj,bB,bI hi,bC Cell.e aj,by simp,dc hi ar,ad⟩) (anV ⟨dG,ad⟩)
 exact anW ⟨by simp,l,ad⟩
theorem an1(xs:List cf)(ar:xs.length<=8388608):al 30 [.one (.J 3 (xs.map cf.e)),.one (.J 3 (xs.map cf.e))] [.one (B true)]:=by
 have l:=er (P:=prog) (c:=(ap f30 0)) (cy 0) xs.length (fun i:Nat=>Bg (xs.map cf.e) (xs.map cf.e) i) (fun i hi=>by
  obtain⟨a,aj⟩:=c2 hi;exact anO ⟨cc hi,bB,bI hi,bC cf.e aj,bB,bI hi,bC cf.e aj,by simp,dc hi ar,ad⟩) (anP ⟨dG,ad⟩)
 exact anQ ⟨by simp,l,ad⟩
theorem an2(x:Node)(aq:x.sz<=8388608):al 142 [.agg x.e,.agg x.e] [.one (B true)]:=
 aoq ⟨by simp,by simp,by simp,U0 x.outs aq,ad⟩
theorem an3(g:b5)(ax:g.sz<=8388608):al 46 [.agg g.e,.agg g.e] [.one (B true)]:=by
 have ar:g.nodes.length<=8388608:=AY (sz:=Node.sz) ax;have l:=er (P:=prog) (c:=(ap f85 0)) (cy 0) g.nodes.length (fun i:Nat=>Bd (g.nodes.map Node.e) (g.nodes.map Node.e) i) (fun i hi=>by
  obtain⟨a,aj⟩:=c2 hi;exact aor ⟨cc hi,bB,bI hi,bC Node.e aj,bB,bI hi,bC Node.e aj,an2 a (vJ (sz:=Node.sz) ax (eQ aj)),rfl,dc hi ar,ad⟩) (aos ⟨dG,ad⟩)
 have e:al 46 [.agg g.e,.agg g.e] [.one (B (g.cap==g.cap))]:=aou ⟨aot ⟨by simp,l,ad⟩,rfl,by simp,ad⟩;rwa[ti]at e
theorem an4(l:br)(ar:l.sz<=8388608):al 87 [.agg l.e,.agg l.e] [.one (B true)]:=by
 have e:al 87 [.agg l.e,.agg l.e] [.one (B (l.de==l.de))]:=aov ⟨by simp,Fg l.queue ar,rfl,by simp,by simp,by simp,ad⟩;rwa[ti]at e
theorem an5(w:aR)(hw:w.sz<=8388608):al 86 [.agg w.e,.agg w.e] [.one (B true)]:=by
 simp only[aR.sz]at hw;exact anJ ⟨Fg _ (by omega),rfl,Fg _ (by omega),rfl,Fg _ (by omega),rfl,an0 (by omega),rfl,U0 _ (by omega),rfl,U1 (by omega),rfl,U1 (by omega),rfl,anX (by omega),ad⟩
theorem U2(c:bi)(ao:c.sz<=8388608):al 9 [.agg c.e,.agg c.e] [.one (B true)]:=by
 simp only[bi.sz]at ao;have hw:fr aR.sz c.az<=8388608:=by omega
 have ar:fr br.sz c.bU<=8388608:=by omega
 have kw:=AY hw;have my:=AY ar;have ku:=er (P:=prog) (c:=(ap f47 0)) (cy 0) c.az.length (fun i:Nat=>Bf (c.az.map aR.e) (c.az.map aR.e) i) (fun i hi=>by
  obtain⟨a,aj⟩:=c2 hi;exact anK ⟨cc hi,bB,bI hi,bC aR.e aj,bB,bI hi,bC aR.e aj,an5 a (vJ hw (eQ aj)),rfl,dc hi kw,ad⟩) (anL ⟨dG,ad⟩)
 have rh:=er (P:=prog) (c:=(ap f48 0)) (cy 0) c.bU.length (fun i:Nat=>Be (c.bU.map br.e) (c.bU.map br.e) i) (fun i hi=>by
  obtain⟨a,aj⟩:=c2 hi;exact aow ⟨cc hi,bB,bI hi,bC br.e aj,bB,bI hi,bC br.e aj,an4 a (vJ ar (eQ aj)),rfl,dc hi my,ad⟩) (aox ⟨dG,ad⟩)
 exact anN ⟨an3 c.aA (by omega),rfl,anM ⟨by simp,ku,ad⟩,rfl,aoy ⟨by simp,rh,ad⟩,rfl,anY (by omega),rfl,anZ (by omega),ad⟩
