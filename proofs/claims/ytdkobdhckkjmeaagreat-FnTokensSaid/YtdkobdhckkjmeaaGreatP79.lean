import Derived.Test.YtdkobdhckkjmeaaGreatC0
import Derived.Test.YtdkobdhckkjmeaaGreatG1
set_option linter.unusedVariables false
set_option linter.unusedSimpArgs false
namespace Go.Proofs.YtdkobdhckkjmeaaGreat
open Go.Sx Go.RowKit Go.Proofs.Tryz
theorem qt1(xs:List Int)(hl:xs.length≤8388608):Rt 89 [.one (.sl 1 (xs.map eI)),.one (.sl 1 (xs.map eI))] [.one (B true)]:=by
 have l:=qao (P:=prog) (c:=(qaa f89 0)) (qaf 0) xs.length (fun i:Nat=>qij (xs.map eI) (xs.map eI) i) (fun i hi=>by
  obtain⟨a,ha⟩:=qal hi;exact qOZ ⟨lt1 hi,lt0,lt2 hi,qac eI ha,lt0,lt2 hi,qac eI ha,by simp,up1 hi hl,trivial⟩) (qO0 ⟨ge1,trivial⟩)
 exact qO1 ⟨by simp,l,trivial⟩
theorem qt2(xs:List Bool)(hl:xs.length≤8388608):Rt 206 [.one (.sl 1 (xs.map eB)),.one (.sl 1 (xs.map eB))] [.one (B true)]:=by
 have l:=qao (P:=prog) (c:=(qaa f206 0)) (qaf 0) xs.length (fun i:Nat=>qik (xs.map eB) (xs.map eB) i) (fun i hi=>by
  obtain⟨a,ha⟩:=qal hi;exact qO2 ⟨lt1 hi,lt0,lt2 hi,qac eB ha,lt0,lt2 hi,qac eB ha,by simp,up1 hi hl,trivial⟩) (qO3 ⟨ge1,trivial⟩)
 exact qO4 ⟨by simp,l,trivial⟩
theorem qPy(xs:List Done)(hl:xs.length≤8388608):Rt 207 [.one (.sl 2 (xs.map Done.e)),.one (.sl 2 (xs.map Done.e))] [.one (B true)]:=by
 have l:=qao (P:=prog) (c:=(qaa f207 0)) (qaf 0) xs.length (fun i:Nat=>qil (xs.map Done.e) (xs.map Done.e) i) (fun i hi=>by
  obtain⟨a,ha⟩:=qal hi;exact qO5 ⟨lt1 hi,lt0,lt2 hi,qac Done.e ha,lt0,lt2 hi,qac Done.e ha,by simp,up1 hi hl,trivial⟩) (qO6 ⟨ge1,trivial⟩)
 exact qO7 ⟨by simp,l,trivial⟩
theorem qPz(xs:List Token)(hl:xs.length≤8388608):Rt 156 [.one (.sl 5 (xs.map Token.e)),.one (.sl 5 (xs.map Token.e))] [.one (B true)]:=by
 have l:=qao (P:=prog) (c:=(qaa f156 0)) (qaf 0) xs.length (fun i:Nat=>qim (xs.map Token.e) (xs.map Token.e) i) (fun i hi=>by
  obtain⟨a,ha⟩:=qal hi;exact qO8 ⟨lt1 hi,lt0,lt2 hi,qac Token.e ha,lt0,lt2 hi,qac Token.e ha,by simp,up1 hi hl,trivial⟩) (qO9 ⟨ge1,trivial⟩)
 exact qPa ⟨by simp,l,trivial⟩
theorem qPA(xs:List News)(hl:xs.length≤8388608):Rt 157 [.one (.sl 3 (xs.map News.e)),.one (.sl 3 (xs.map News.e))] [.one (B true)]:=by
 have l:=qao (P:=prog) (c:=(qaa f157 0)) (qaf 0) xs.length (fun i:Nat=>qin (xs.map News.e) (xs.map News.e) i) (fun i hi=>by
  obtain⟨a,ha⟩:=qal hi;exact qPb ⟨lt1 hi,lt0,lt2 hi,qac News.e ha,lt0,lt2 hi,qac News.e ha,by simp,up1 hi hl,trivial⟩) (qPc ⟨ge1,trivial⟩)
 exact qPd ⟨by simp,l,trivial⟩
theorem qkp(xs:List Record)(hl:xs.length≤8388608):Rt 58 [.one (.sl 5 (xs.map Record.e)),.one (.sl 5 (xs.map Record.e))] [.one (B true)]:=by
 have l:=qao (P:=prog) (c:=(qaa f58 0)) (qaf 0) xs.length (fun i:Nat=>qir (xs.map Record.e) (xs.map Record.e) i) (fun i hi=>by
  obtain⟨a,ha⟩:=qal hi;exact qPs ⟨lt1 hi,lt0,lt2 hi,qac Record.e ha,lt0,lt2 hi,qac Record.e ha,by simp,up1 hi hl,trivial⟩) (qPt ⟨ge1,trivial⟩)
 exact qPu ⟨by simp,l,trivial⟩
theorem qPB(xs:List Cell)(hl:xs.length≤8388608):Rt 22 [.one (.sl 4 (xs.map Cell.e)),.one (.sl 4 (xs.map Cell.e))] [.one (B true)]:=by
 have l:=qao (P:=prog) (c:=(qaa f22 0)) (qaf 0) xs.length (fun i:Nat=>qis (xs.map Cell.e) (xs.map Cell.e) i) (fun i hi=>by
  obtain⟨a,ha⟩:=qal hi;exact qPv ⟨lt1 hi,lt0,lt2 hi,qac Cell.e ha,lt0,lt2 hi,qac Cell.e ha,by simp,up1 hi hl,trivial⟩) (qPw ⟨ge1,trivial⟩)
 exact qPx ⟨by simp,l,trivial⟩
theorem qPC(x:Node)(hx:x.sz≤8388608):Rt 310 [.agg x.e,.agg x.e] [.one (B true)]:=
 qPe ⟨by simp,by simp,by simp,qt1 x.outs hx,trivial⟩
theorem qPD(g:Graph)(hg:g.sz≤8388608):Rt 153 [.agg g.e,.agg g.e] [.one (B true)]:=by
 have hl:g.nodes.length≤8388608:=qlY (sz:=Node.sz) hg;have l:=qao (P:=prog) (c:=(qaa f264 0)) (qaf 0) g.nodes.length (fun i:Nat=>qio (g.nodes.map Node.e) (g.nodes.map Node.e) i) (fun i hi=>by
  obtain⟨a,ha⟩:=qal hi;exact qPf ⟨lt1 hi,lt0,lt2 hi,qac Node.e ha,lt0,lt2 hi,qac Node.e ha,qPC a (qeZ (sz:=Node.sz) hg (qag ha)),rfl,up1 hi hl,trivial⟩) (qPg ⟨ge1,trivial⟩)
 have e:Rt 153 [.agg g.e,.agg g.e] [.one (B (g.cap==g.cap))]:=qPi ⟨qPh ⟨by simp,l,trivial⟩,rfl,by simp,trivial⟩;rwa[zby]at e
theorem qPE(l:Link)(hl:l.sz≤8388608):Rt 265 [.agg l.e,.agg l.e] [.one (B true)]:=by
 have e:Rt 265 [.agg l.e,.agg l.e] [.one (B (l.got==l.got))]:=qPj ⟨by simp,qkp l.queue hl,rfl,by simp,by simp,by simp,trivial⟩;rwa[zby]at e
theorem qPF(w:Worker)(hw:w.sz≤8388608):Rt 79 [.agg w.e,.agg w.e] [.one (B true)]:=by
 simp only[Worker.sz]at hw;exact qPn ⟨qkp _ (by omega),rfl,qkp _ (by omega),rfl,qkp _ (by omega),rfl,qPB _ (by omega),rfl,qt1 _ (by omega),rfl,qt2 _ (by omega),rfl,qt2 _ (by omega),rfl,qPy _ (by omega),trivial⟩
theorem qPG(c:Cluster)(hc:c.sz≤8388608):Rt 33 [.agg c.e,.agg c.e] [.one (B true)]:=by
 simp only[Cluster.sz]at hc;have hw:szS Worker.sz c.workers≤8388608:=by omega
 have hl:szS Link.sz c.links≤8388608:=by omega
 have kw:=qlY hw;have kl:=qlY hl;have l1:=qao (P:=prog) (c:=(qaa f154 0)) (qaf 0) c.workers.length (fun i:Nat=>qiq (c.workers.map Worker.e) (c.workers.map Worker.e) i) (fun i hi=>by
  obtain⟨a,ha⟩:=qal hi;exact qPo ⟨lt1 hi,lt0,lt2 hi,qac Worker.e ha,lt0,lt2 hi,qac Worker.e ha,qPF a (qeZ hw (qag ha)),rfl,up1 hi kw,trivial⟩) (qPp ⟨ge1,trivial⟩)
 have l2:=qao (P:=prog) (c:=(qaa f155 0)) (qaf 0) c.links.length (fun i:Nat=>qip (c.links.map Link.e) (c.links.map Link.e) i) (fun i hi=>by
  obtain⟨a,ha⟩:=qal hi;exact qPk ⟨lt1 hi,lt0,lt2 hi,qac Link.e ha,lt0,lt2 hi,qac Link.e ha,qPE a (qeZ hl (qag ha)),rfl,up1 hi kl,trivial⟩) (qPl ⟨ge1,trivial⟩)
 exact qPr ⟨qPD c.graph (by omega),rfl,qPq ⟨by simp,l1,trivial⟩,rfl,qPm ⟨by simp,l2,trivial⟩,rfl,qPz _ (by omega),rfl,qPA _ (by omega),trivial⟩
