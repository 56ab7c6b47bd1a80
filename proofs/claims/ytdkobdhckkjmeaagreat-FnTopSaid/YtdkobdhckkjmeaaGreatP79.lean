/- What the laws hold for the same is the same as itself. -/
import Derived.Test.YtdkobdhckkjmeaaGreatC0
import Derived.Test.YtdkobdhckkjmeaaGreatG1
set_option linter.unusedVariables false
set_option linter.unusedSimpArgs false
namespace Go.Proofs.YtdkobdhckkjmeaaGreat
open Go.Sx Go.RowKit Go.Proofs.Tryz
theorem qs1(xs:List Int)(hl:xs.length≤8388608):Rt 89 [.one (.sl 1 (xs.map eI)),.one (.sl 1 (xs.map eI))] [.one (B true)]:=by
 have l:=qao (P:=prog) (c:=(qaa f89 0)) (qaf 0) xs.length (fun i:Nat=>qib (xs.map eI) (xs.map eI) i) (fun i hi=>by
  obtain⟨a,ha⟩:=qal hi;exact qLJ ⟨lt1 hi,lt0,lt2 hi,qac eI ha,lt0,lt2 hi,qac eI ha,by simp,up1 hi hl,trivial⟩) (qLK ⟨ge1,trivial⟩)
 exact qLL ⟨by simp,l,trivial⟩
theorem qs2(xs:List Bool)(hl:xs.length≤8388608):Rt 206 [.one (.sl 1 (xs.map eB)),.one (.sl 1 (xs.map eB))] [.one (B true)]:=by
 have l:=qao (P:=prog) (c:=(qaa f206 0)) (qaf 0) xs.length (fun i:Nat=>qic (xs.map eB) (xs.map eB) i) (fun i hi=>by
  obtain⟨a,ha⟩:=qal hi;exact qLM ⟨lt1 hi,lt0,lt2 hi,qac eB ha,lt0,lt2 hi,qac eB ha,by simp,up1 hi hl,trivial⟩) (qLN ⟨ge1,trivial⟩)
 exact qLO ⟨by simp,l,trivial⟩
theorem qMi(xs:List Done)(hl:xs.length≤8388608):Rt 207 [.one (.sl 2 (xs.map Done.e)),.one (.sl 2 (xs.map Done.e))] [.one (B true)]:=by
 have l:=qao (P:=prog) (c:=(qaa f207 0)) (qaf 0) xs.length (fun i:Nat=>qid (xs.map Done.e) (xs.map Done.e) i) (fun i hi=>by
  obtain⟨a,ha⟩:=qal hi;exact qLP ⟨lt1 hi,lt0,lt2 hi,qac Done.e ha,lt0,lt2 hi,qac Done.e ha,by simp,up1 hi hl,trivial⟩) (qLQ ⟨ge1,trivial⟩)
 exact qLR ⟨by simp,l,trivial⟩
theorem qMj(xs:List Token)(hl:xs.length≤8388608):Rt 156 [.one (.sl 5 (xs.map Token.e)),.one (.sl 5 (xs.map Token.e))] [.one (B true)]:=by
 have l:=qao (P:=prog) (c:=(qaa f156 0)) (qaf 0) xs.length (fun i:Nat=>qie (xs.map Token.e) (xs.map Token.e) i) (fun i hi=>by
  obtain⟨a,ha⟩:=qal hi;exact qLS ⟨lt1 hi,lt0,lt2 hi,qac Token.e ha,lt0,lt2 hi,qac Token.e ha,by simp,up1 hi hl,trivial⟩) (qLT ⟨ge1,trivial⟩)
 exact qLU ⟨by simp,l,trivial⟩
theorem qMk(xs:List News)(hl:xs.length≤8388608):Rt 157 [.one (.sl 3 (xs.map News.e)),.one (.sl 3 (xs.map News.e))] [.one (B true)]:=by
 have l:=qao (P:=prog) (c:=(qaa f157 0)) (qaf 0) xs.length (fun i:Nat=>qif (xs.map News.e) (xs.map News.e) i) (fun i hi=>by
  obtain⟨a,ha⟩:=qal hi;exact qLV ⟨lt1 hi,lt0,lt2 hi,qac News.e ha,lt0,lt2 hi,qac News.e ha,by simp,up1 hi hl,trivial⟩) (qLW ⟨ge1,trivial⟩)
 exact qLX ⟨by simp,l,trivial⟩
theorem qki(xs:List Record)(hl:xs.length≤8388608):Rt 58 [.one (.sl 5 (xs.map Record.e)),.one (.sl 5 (xs.map Record.e))] [.one (B true)]:=by
 have l:=qao (P:=prog) (c:=(qaa f58 0)) (qaf 0) xs.length (fun i:Nat=>qij (xs.map Record.e) (xs.map Record.e) i) (fun i hi=>by
  obtain⟨a,ha⟩:=qal hi;exact qMc ⟨lt1 hi,lt0,lt2 hi,qac Record.e ha,lt0,lt2 hi,qac Record.e ha,by simp,up1 hi hl,trivial⟩) (qMd ⟨ge1,trivial⟩)
 exact qMe ⟨by simp,l,trivial⟩
theorem qMl(xs:List Cell)(hl:xs.length≤8388608):Rt 22 [.one (.sl 4 (xs.map Cell.e)),.one (.sl 4 (xs.map Cell.e))] [.one (B true)]:=by
 have l:=qao (P:=prog) (c:=(qaa f22 0)) (qaf 0) xs.length (fun i:Nat=>qik (xs.map Cell.e) (xs.map Cell.e) i) (fun i hi=>by
  obtain⟨a,ha⟩:=qal hi;exact qMf ⟨lt1 hi,lt0,lt2 hi,qac Cell.e ha,lt0,lt2 hi,qac Cell.e ha,by simp,up1 hi hl,trivial⟩) (qMg ⟨ge1,trivial⟩)
 exact qMh ⟨by simp,l,trivial⟩
theorem qMm(x:Node)(hx:x.sz≤8388608):Rt 310 [.agg x.e,.agg x.e] [.one (B true)]:=
 qLY ⟨by simp,by simp,by simp,qs1 x.outs hx,trivial⟩
theorem qMn(g:Graph)(hg:g.sz≤8388608):Rt 153 [.agg g.e,.agg g.e] [.one (B true)]:=by
 have hl:g.nodes.length≤8388608:=qlY (sz:=Node.sz) hg;have l:=qao (P:=prog) (c:=(qaa f264 0)) (qaf 0) g.nodes.length (fun i:Nat=>qig (g.nodes.map Node.e) (g.nodes.map Node.e) i) (fun i hi=>by
  obtain⟨a,ha⟩:=qal hi;exact qLZ ⟨lt1 hi,lt0,lt2 hi,qac Node.e ha,lt0,lt2 hi,qac Node.e ha,qMm a (qeZ (sz:=Node.sz) hg (qag ha)),rfl,up1 hi hl,trivial⟩) (qL0 ⟨ge1,trivial⟩)
 have e:Rt 153 [.agg g.e,.agg g.e] [.one (B (g.cap==g.cap))]:=qL2 ⟨qL1 ⟨by simp,l,trivial⟩,rfl,by simp,trivial⟩;rwa[zby]at e
theorem qMo(l:Link)(hl:l.sz≤8388608):Rt 265 [.agg l.e,.agg l.e] [.one (B true)]:=by
 have e:Rt 265 [.agg l.e,.agg l.e] [.one (B (l.got==l.got))]:=qL3 ⟨by simp,qki l.queue hl,rfl,by simp,by simp,by simp,trivial⟩;rwa[zby]at e
theorem qMp(w:Worker)(hw:w.sz≤8388608):Rt 79 [.agg w.e,.agg w.e] [.one (B true)]:=by
 simp only[Worker.sz]at hw;exact qL7 ⟨qki _ (by omega),rfl,qki _ (by omega),rfl,qki _ (by omega),rfl,qMl _ (by omega),rfl,qs1 _ (by omega),rfl,qs2 _ (by omega),rfl,qs2 _ (by omega),rfl,qMi _ (by omega),trivial⟩
theorem qMq(c:Cluster)(hc:c.sz≤8388608):Rt 33 [.agg c.e,.agg c.e] [.one (B true)]:=by
 simp only[Cluster.sz]at hc;have hw:szS Worker.sz c.workers≤8388608:=by omega
 have hl:szS Link.sz c.links≤8388608:=by omega
 have kw:=qlY hw;have kl:=qlY hl;have l1:=qao (P:=prog) (c:=(qaa f154 0)) (qaf 0) c.workers.length (fun i:Nat=>qii (c.workers.map Worker.e) (c.workers.map Worker.e) i) (fun i hi=>by
  obtain⟨a,ha⟩:=qal hi;exact qL8 ⟨lt1 hi,lt0,lt2 hi,qac Worker.e ha,lt0,lt2 hi,qac Worker.e ha,qMp a (qeZ hw (qag ha)),rfl,up1 hi kw,trivial⟩) (qL9 ⟨ge1,trivial⟩)
 have l2:=qao (P:=prog) (c:=(qaa f155 0)) (qaf 0) c.links.length (fun i:Nat=>qih (c.links.map Link.e) (c.links.map Link.e) i) (fun i hi=>by
  obtain⟨a,ha⟩:=qal hi;exact qL4 ⟨lt1 hi,lt0,lt2 hi,qac Link.e ha,lt0,lt2 hi,qac Link.e ha,qMo a (qeZ hl (qag ha)),rfl,up1 hi kl,trivial⟩) (qL5 ⟨ge1,trivial⟩)
 exact qMb ⟨qMn c.graph (by omega),rfl,qMa ⟨by simp,l1,trivial⟩,rfl,qL6 ⟨by simp,l2,trivial⟩,rfl,qMj _ (by omega),rfl,qMk _ (by omega),trivial⟩
end Go.Proofs.YtdkobdhckkjmeaaGreat
