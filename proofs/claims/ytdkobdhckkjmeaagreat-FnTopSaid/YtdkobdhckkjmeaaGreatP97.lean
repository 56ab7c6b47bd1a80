/- FnTop: the law's function returns true. -/
import Derived.Test.YtdkobdhckkjmeaaGreatP59
import Derived.Test.YtdkobdhckkjmeaaGreatP79
import Derived.Test.YtdkobdhckkjmeaaGreatP61
import Derived.Test.YtdkobdhckkjmeaaGreatP50
import Derived.Test.YtdkobdhckkjmeaaGreatP31
import Derived.Test.YtdkobdhckkjmeaaGreatGJ
set_option linter.unusedVariables false
set_option linter.unusedSimpArgs false
namespace Go.Proofs.YtdkobdhckkjmeaaGreat
open Go.Sx Go.RowKit Go.Proofs.Tryz
theorem qkv{c:Cluster}(h:qai c=true):Nums c:=by
 obtain⟨hg,_,_,_,_,hl,_⟩:=qaH.1 h;have hn:=qa7 hg;refine⟨⟨by omega,by omega⟩,fun l hm=>?_⟩;obtain⟨i,hi⟩:=List.getElem?_of_mem hm;obtain⟨k,_⟩:=qcz.1 (qfB hl hi);obtain⟨k1,_,_,_,k5,_,k7,_⟩:=qcm.1 k;simp only[inR,zi]at k1 k5;exact⟨⟨by omega,by omega⟩,by omega⟩
theorem qt7{S:Int}{c:Cluster}(h:AllInv S c)(hS:S≤200000)(hc:c.sz≤8388608):Rt 32 [.agg c.e] [.one (B true)]:=by
 have:=qIu c hc (qkv h.ok);rwa[h.safe hS]at this
theorem qPV(xs:List Record)(ps:List Pick)(g:Graph)(c:Cluster)(h:AllInv 0 c)(hp:ps.length≤81)(hc:c.sz≤2000)(hw:GotLe c):
  qam prog (qaa f4 0) (qeF (xs.map Record.e) (ps.map Pick.e) 0 (c.graph.nodes.map Node.e) c.graph.workers c.graph.cap (c.workers.map Worker.e) (c.links.map Link.e) (c.tokens.map Token.e) (c.news.map News.e) (g.nodes.map Node.e) g.workers g.cap) (.exit 0)
   (qkt (xs.map Record.e) (ps.map Pick.e) ((qah c ps).1.graph.nodes.map Node.e) (qah c ps).1.graph.workers (qah c ps).1.graph.cap ((qah c ps).1.workers.map Worker.e) ((qah c ps).1.links.map Link.e) ((qah c ps).1.tokens.map Token.e) ((qah c ps).1.news.map News.e) (g.nodes.map Node.e) g.workers g.cap):=by
 have key:=qao (P:=prog) (c:=(qaa f4 0)) (e:=.exit 0) (qaf 0) ps.length (fun i=>qeF (xs.map Record.e) (ps.map Pick.e) (i:Nat) ((qah c (ps.take i)).1.graph.nodes.map Node.e) (qah c (ps.take i)).1.graph.workers (qah c (ps.take i)).1.graph.cap ((qah c (ps.take i)).1.workers.map Worker.e) ((qah c (ps.take i)).1.links.map Link.e) ((qah c (ps.take i)).1.tokens.map Token.e) ((qah c (ps.take i)).1.news.map News.e) (g.nodes.map Node.e) g.workers g.cap)
  (stE:=qkt (xs.map Record.e) (ps.map Pick.e) ((qah c ps).1.graph.nodes.map Node.e) (qah c ps).1.graph.workers (qah c ps).1.graph.cap ((qah c ps).1.workers.map Worker.e) ((qah c ps).1.links.map Link.e) ((qah c ps).1.tokens.map Token.e) ((qah c ps).1.news.map News.e) (g.nodes.map Node.e) g.workers g.cap) (fun i hi=>?_) (by
   rw[zC];exact qPN ⟨ge1,trivial⟩)
 ·simpa[qI7]using key
 ·obtain⟨p,hp'⟩:=qal hi;have hz:=qj4 c ps i;have hl:=qgD i ps;have inv:=h.run (c:=c) (ps.take i) (by omega);have hgd:=(qgC (ps.take i) c).got hw;rw[qj3 c hp'];generalize (qah c (ps.take i)).1=d at*;have st:=qt0 d p (by omega) hgd;have inv':=inv.step (by omega) p;have hs:=qsc d p;have sf:=qt7 inv' (by omega) (by omega);cases hb:((i:Int).tmod 8==7) with
  | true=>exact qPL ⟨lt1 hi,qt6 _ _ _ _ _ _ _ _ _ _ _ _ _ _ _ _ _ _ _ _ _ _ _ _ ⟨lt0,lt2 hi,qac Pick.e hp',st,trivial⟩,by decide,hb,sf,rfl,up1 hi (by omega),trivial⟩
  | false=>exact qPM ⟨lt1 hi,qt6 _ _ _ _ _ _ _ _ _ _ _ _ _ _ _ _ _ _ _ _ _ _ _ _ ⟨lt0,lt2 hi,qac Pick.e hp',st,trivial⟩,by decide,hb,up1 hi (by omega),trivial⟩
theorem qPW(b:List Int)(hb:∀a∈b,(fun n=>0≤n∧n≤255) a):Rt 4 [.one (.sl 1 (b.map eU))] [.one (B true)]:=by
 by_cases hbig:(b.length:Int)>1048576
 ·have:=qku (b.map eU) trivial;rw[zap (by simpa using hbig)]at this;exact qPK ⟨this,rfl,trivial⟩
 have big:=qku (b.map eU) trivial;rw[zt (by simpa using hbig)]at big;obtain⟨g,xs,ps,hg,⟨x1,x2⟩,⟨p1,p2⟩,draw⟩:=qM6 b ⟨by omega,hb⟩;have hn:=qkl hg (by omega) x2;have hs:=hg.size;have hz:=qsK hn;have nw:=qsJ g xs (by omega);have nw2:=qLB g xs (by omega);rw[qkd hn]at nw nw2;have got:=qsL g xs;have inv:=AllInv.new hn;have l:=qPV xs ps g (qaI g xs) inv p1 (by omega) got;have rp:=qt1 (qaI g xs) ps (by omega) got;have inv2:=inv.run (c:=qaI g xs) ps (by omega);have hz2:=qhS ps (qaI g xs);generalize (qah (qaI g xs) ps)=o at*;have ok:=inv2.ok;have cr:=qqZ o.1 (by omega) (qkv ok);rw[inv2.cred]at cr;have ow:=qq4 o.1 (by omega) (qkv ok);rw[inv2.owns.ok (qa7 (qaH.1 ok).1).1]at ow;exact qPO ⟨big,rfl,draw,nw2,rfl,l,nw,rp,qMq o.1 (by omega),rfl,qt7 inv2 (by omega) (by omega),rfl,cr,rfl,ow,trivial⟩
end Go.Proofs.YtdkobdhckkjmeaaGreat
