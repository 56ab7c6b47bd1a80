/- FnEpochsApart: the law's function returns true. -/
import Derived.Test.YtdkobdhckkjmeaaGreatP96
import Derived.Test.YtdkobdhckkjmeaaGreatP97
import Derived.Test.YtdkobdhckkjmeaaGreatP61
import Derived.Test.YtdkobdhckkjmeaaGreatP9
import Derived.Test.YtdkobdhckkjmeaaGreatGK
set_option linter.unusedVariables false
set_option linter.unusedSimpArgs false
namespace Go.Proofs.YtdkobdhckkjmeaaGreat
open Go.Sx Go.RowKit Go.Proofs.Tryz
theorem right_law{g:Graph}{xs:List Record}(hg:Drawn g)(hx:∀r∈xs,Input r)(hl:xs.length≤5)(ps:List Pick)(hp:ps.length≤81):
  ∃(d:Cluster) (j:Nat),qce (qah (qaI g xs) ps).1 3000=(d,j)∧d.graph=g∧d.workers.length=g.workers.toNat∧d.sz≤1300000∧qai d=true∧
   ∀e:Int,0≤e∧e≤3→∃f:Done,(∀w∈d.workers,qd3 w e=(f,true))∧(f.capped=false→outCells d e=resultOf g e xs):=by
 obtain⟨d,j,e1,_,e2,e3,e4,h⟩:=right_run hg hx hl ps (by omega);have hn:=qkr hg (by omega) hx;have hs:=hg.size;have hz:=qs4 hn;have hz2:=qh0 ps (qaI g xs);have hz3:=qnW (qaV 3000 0 3000).toNat (qah (qaI g xs) ps).1 0;change (qce (qah (qaI g xs) ps).1 3000).1.sz≤_ at hz3;have hb3:(qaV 3000 0 3000).toNat=3000:=by decide
 rw[hb3,e1]at hz3;dsimp only at hz3;exact⟨d,j,e1,e2,e3,by omega,e4,h⟩
end Go.Proofs.YtdkobdhckkjmeaaGreat
namespace Go.Proofs.YtdkobdhckkjmeaaGreat
open Go.Sx Go.RowKit Go.Proofs.Tryz
theorem turned_loop(g:Graph)(c:Cluster)(ps:List Pick)(hl:ps.length≤81):
  qam prog (qaa f6 0) (laws_FnTwoWays_L0 (g.nodes.map Node.e) g.workers g.cap (ps.map Pick.e) (c.graph.nodes.map Node.e) c.graph.workers c.graph.cap (c.workers.map Worker.e) (c.links.map Link.e) (c.tokens.map Token.e) (c.news.map News.e) (((ps.map Pick.e).length:Int)-1) []) (.exit 0)
   (laws_FnTwoWays_X0 (g.nodes.map Node.e) g.workers g.cap (ps.map Pick.e) (c.graph.nodes.map Node.e) c.graph.workers c.graph.cap (c.workers.map Worker.e) (c.links.map Link.e) (c.tokens.map Token.e) (c.news.map News.e) (ps.reverse.map Pick.e)):=by
 have l:=qao (P:=prog) (c:=(qaa f6 0)) (qaf 0) ps.length (fun i:Nat=>laws_FnTwoWays_L0 (g.nodes.map Node.e) g.workers g.cap (ps.map Pick.e) (c.graph.nodes.map Node.e) c.graph.workers c.graph.cap (c.workers.map Worker.e) (c.links.map Link.e) (c.tokens.map Token.e) (c.news.map News.e) ((ps.length:Int)-1-i) ((ps.reverse.take i).map Pick.e)) (stE:=laws_FnTwoWays_X0 (g.nodes.map Node.e) g.workers g.cap (ps.map Pick.e) (c.graph.nodes.map Node.e) c.graph.workers c.graph.cap (c.workers.map Worker.e) (c.links.map Link.e) (c.tokens.map Token.e) (c.news.map News.e) (ps.reverse.map Pick.e)) (fun i hi=>?_) (by
   rw[zbk (by simp)];exact laws_FnTwoWays_L0_x1 ⟨dF (by omega),trivial⟩)
 ·simpa using l
 ·obtain⟨a,ha⟩:=qal (xs:=ps) (i:=ps.length-1-i) (by omega);have hr:ps.reverse[i]?=some a:=by
   rw[List.getElem?_reverse hi];exact ha
  have hs:ps.reverse.take (i+1)=ps.reverse.take i++[a]:=by
   rw[zbe,hr];rfl
  have ht:((ps.length:Int)-1-i).toNat=ps.length-1-i:=by omega
  have hm:(ps.map Pick.e)[((ps.length:Int)-1-i).toNat]?=some a.e:=by
   rw[ht,zr,ha];rfl
  have e1:(ps.length:Int)-1-((i+1:Nat):Int)=(ps.length:Int)-1-i-1:=by omega
  rw[hs,zU,e1];exact laws_FnTwoWays_L0_s0 ⟨dT (by omega),by omega,by simp;omega,hm,by simp;omega,by simp;omega,qat a.flat,⟨by omega,by omega⟩,trivial⟩
theorem ways_loop(g:Graph)(xs:List Record)(x y:Cluster)(hx:x.sz≤1300000)(hy:y.sz≤1300000){w v:Worker}(h0:x.workers[0]?=some w)(h1:y.workers[0]?=some v)
  (hX:∀e:Int,0≤e∧e≤3→∃f:Done,qd3 w e=(f,true)∧(f.capped=false→outCells x e=resultOf g e xs))
  (hY:∀e:Int,0≤e∧e≤3→∃f:Done,qd3 v e=(f,true)∧(f.capped=false→outCells y e=resultOf g e xs)):
  qam prog (qaa f6 1) (laws_FnTwoWays_L1 0 (y.graph.nodes.map Node.e) y.graph.workers y.graph.cap (y.workers.map Worker.e) (y.links.map Link.e) (y.tokens.map Token.e) (y.news.map News.e) (x.graph.nodes.map Node.e) x.graph.workers x.graph.cap (x.workers.map Worker.e) (x.links.map Link.e) (x.tokens.map Token.e) (x.news.map News.e)) (.exit 2) laws_FnTwoWays_X1v4:=by
 refine qao (P:=prog) (c:=(qaa f6 1)) (qaf 2) 4 (fun e:Nat=>laws_FnTwoWays_L1 e (y.graph.nodes.map Node.e) y.graph.workers y.graph.cap (y.workers.map Worker.e) (y.links.map Link.e) (y.tokens.map Token.e) (y.news.map News.e) (x.graph.nodes.map Node.e) x.graph.workers x.graph.cap (x.workers.map Worker.e) (x.links.map Link.e) (x.tokens.map Token.e) (x.news.map News.e)) (fun e he=>?_) (laws_FnTwoWays_L1_x6 ⟨dF (by omega),trivial⟩);obtain⟨f,f1,f2⟩:=hX e (by omega);obtain⟨f',f1',f2'⟩:=hY e (by omega);have dn:=quz w e (Cluster.worker_sz (by omega) (qag h0));have dn':=quz v e (Cluster.worker_sz (by omega) (qag h1));rw[f1]at dn;rw[f1']at dn';have oc:=spec_OutCells_ret x e (by omega);have oc':=spec_OutCells_ret y e (by omega);have z1:(0:Int)<((x.workers.map Worker.e).length:Nat):=by have:=lt_of h0;simp;omega
 have z2:(0:Int)<((y.workers.map Worker.e).length:Nat):=by have:=lt_of h1;simp;omega
 cases c1:f.capped with
 | true=>exact laws_FnTwoWays_L1_s5 ⟨dT (by omega),by decide,z1,qac Worker.e (i:=0) h0,dn,by decide,z2,qac Worker.e (i:=0) h1,dn',rfl,rfl,by rw[c1];rfl,⟨by omega,by omega⟩,trivial⟩
 | false=>
  cases c2:f'.capped with
  | true=>exact laws_FnTwoWays_L1_s4 ⟨dT (by omega),by decide,z1,qac Worker.e (i:=0) h0,dn,by decide,z2,qac Worker.e (i:=0) h1,dn',rfl,rfl,by rw[c1];rfl,by rw[c2];rfl,⟨by omega,by omega⟩,trivial⟩
  | false=>
   rw[f2 c1]at oc;rw[f2' c2]at oc';have hle:(resultOf g e xs).length≤8388608:=by
    rw[←f2 c1];exact outCells_le (by omega)
   exact laws_FnTwoWays_L1_s3 ⟨dT (by omega),by decide,z1,qac Worker.e (i:=0) h0,dn,by decide,z2,qac Worker.e (i:=0) h1,dn',rfl,rfl,by rw[c1];rfl,by rw[c2];rfl,oc,oc',qQt _ hle,rfl,⟨by omega,by omega⟩,trivial⟩
theorem law_TwoWays(b:List Int)(hb:∀a∈b,(fun n=>0≤n∧n≤255) a):Rt 6 [.one (.sl 1 (b.map eU))] [.one (B true)]:=by
 by_cases hbig:(b.length:Int)>1048576
 ·have:=qkF (b.map eU) trivial;rw[zap (by simpa using hbig)]at this;exact laws_FnTwoWays_p0 ⟨this,rfl,trivial⟩
 have big:=qkF (b.map eU) trivial;rw[zt (by simpa using hbig)]at big;obtain⟨g,xs,ps,hg,⟨x1,x2⟩,⟨p1,p2⟩,draw⟩:=qMS b ⟨by omega,hb⟩;have hn:=qkr hg (by omega) x2;have hs:=hg.size;have hz:=qs4 hn;have nw:=qs3 g xs (by omega);rw[qkk hn]at nw;have got:=qs5 g xs;have l0:=turned_loop g (qaI g xs) ps p1;have p1':ps.reverse.length≤81:=by simpa using p1
 have rp:=qPw (qaI g xs) ps (by omega) got;have rp':=qPw (qaI g xs) ps.reverse (by omega) got;have hz2:=qh0 ps (qaI g xs);have hz2':=qh0 ps.reverse (qaI g xs);have got2:=(qgG ps (qaI g xs)).got got;have got2':=(qgG ps.reverse (qaI g xs)).got got;have fr:=qPB (qah (qaI g xs) ps).1 3000 (by omega) got2;have fr':=qPB (qah (qaI g xs) ps.reverse).1 3000 (by omega) got2';obtain⟨d,j,e1,e2,e3,e4,e5,h⟩:=right_law hg x2 x1 ps p1;obtain⟨d',j',e1',e2',e3',e4',e5',h'⟩:=right_law hg x2 x1 ps.reverse p1';rw[e1]at fr;rw[e1']at fr';have hw:=hg.workers;obtain⟨w,h0⟩:=qal (xs:=d.workers) (i:=0) (by omega);obtain⟨w',h0'⟩:=qal (xs:=d'.workers) (i:=0) (by omega);have l1:=ways_loop g xs d d' e4 e4' h0 h0' (fun e he=>by
  obtain⟨f,f1,f2⟩:=h e he;exact⟨f,f1 w (qag h0),f2⟩) (fun e he=>by
  obtain⟨f,f1,f2⟩:=h' e he;exact⟨f,f1 w' (qag h0'),f2⟩)
 have n1:(((d.workers.map Worker.e).length:Int) != g.workers)=false:=by simp;omega
 have n2:(((d'.workers.map Worker.e).length:Int) != g.workers)=false:=by simp;omega
 exact laws_FnTwoWays_p4 ⟨big,rfl,draw,nw,⟨by simp;omega,by simp;omega⟩,l0,rp,rp',fr,fr',n1,n2,l1,trivial⟩
end Go.Proofs.YtdkobdhckkjmeaaGreat
