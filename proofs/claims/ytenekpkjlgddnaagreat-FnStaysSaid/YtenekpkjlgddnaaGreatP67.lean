/- FnStays: the law's function returns true. -/
import Derived.Test.YtenekpkjlgddnaaGreatP65
import Derived.Test.YtenekpkjlgddnaaGreatP60
import Derived.Test.YtenekpkjlgddnaaGreatP46
import Derived.Test.YtenekpkjlgddnaaGreatGO
set_option linter.unusedVariables false
set_option linter.unusedSimpArgs false
namespace Go.Proofs.YtenekpkjlgddnaaGreat
open Go.Sx Go.RowKit Go.Proofs.Tryz
theorem qzk(ps:List Pick)(i:Int)(g:Graph)(c x:Cluster)(h:qbl c x)(hl:x.workers.length=c.workers.length)(hs:c.workers.length≤8388608):
  qai prog (qab f3 1) (qep (ps.map Pick.e) i (c.graph.nodes.map Node.e) c.graph.workers c.graph.cap (c.workers.map Worker.e) (c.links.map Link.e) (c.tokens.map Token.e) (c.news.map News.e) (g.nodes.map Node.e) g.workers g.cap (x.graph.nodes.map Node.e) x.graph.workers x.graph.cap (x.workers.map Worker.e) (x.links.map Link.e) (x.tokens.map Token.e) (x.news.map News.e) 0) (.exit 2)
   (qix (ps.map Pick.e) i (c.graph.nodes.map Node.e) c.graph.workers c.graph.cap (c.workers.map Worker.e) (c.links.map Link.e) (c.tokens.map Token.e) (c.news.map News.e) (g.nodes.map Node.e) g.workers g.cap (x.graph.nodes.map Node.e) x.graph.workers x.graph.cap (x.workers.map Worker.e) (x.links.map Link.e) (x.tokens.map Token.e) (x.news.map News.e)):=by
 refine qaT (P:=prog) (c:=(qab f3 1)) (qaj 2) c.workers.length (fun w=>qep (ps.map Pick.e) i (c.graph.nodes.map Node.e) c.graph.workers c.graph.cap (c.workers.map Worker.e) (c.links.map Link.e) (c.tokens.map Token.e) (c.news.map News.e) (g.nodes.map Node.e) g.workers g.cap (x.graph.nodes.map Node.e) x.graph.workers x.graph.cap (x.workers.map Worker.e) (x.links.map Link.e) (x.tokens.map Token.e) (x.news.map News.e) (w:Nat)) (fun w hw=>?_) (qzg ⟨ge1,trivial⟩)
 obtain⟨a,ha⟩:=qah hw
 obtain⟨y,hy,g1,g2⟩:=h w a ha
 have hw':=lt_of hy
 exact qzf ⟨lt1 hw,lt0,lt2 hw',qad Worker.e hy,lt0,lt2 hw,qad Worker.e ha,by rw[zf];simp only[zb];omega,lt0,lt2 hw',qad Worker.e hy,lt0,lt2 hw,qad Worker.e ha,by rw[zf];simp only[zb];omega,up1 hw hs,trivial⟩
theorem qzl(ps:List Pick)(g:Graph)(c:Cluster)(hp:ps.length≤81)(hc:c.sz≤2000)(hw:GotLe c):
  qai prog (qab f3 0) (qeo (ps.map Pick.e) 0 (c.graph.nodes.map Node.e) c.graph.workers c.graph.cap (c.workers.map Worker.e) (c.links.map Link.e) (c.tokens.map Token.e) (c.news.map News.e) (g.nodes.map Node.e) g.workers g.cap) (.exit 0)
   (qgf ((qal c ps).1.graph.nodes.map Node.e) (qal c ps).1.graph.workers (qal c ps).1.graph.cap ((qal c ps).1.workers.map Worker.e) ((qal c ps).1.links.map Link.e) ((qal c ps).1.tokens.map Token.e) ((qal c ps).1.news.map News.e) (g.nodes.map Node.e) g.workers g.cap):=by
 have key:=qaT (P:=prog) (c:=(qab f3 0)) (e:=.exit 0) (qaj 0) ps.length (fun i=>qeo (ps.map Pick.e) (i:Nat) ((qal c (ps.take i)).1.graph.nodes.map Node.e) (qal c (ps.take i)).1.graph.workers (qal c (ps.take i)).1.graph.cap ((qal c (ps.take i)).1.workers.map Worker.e) ((qal c (ps.take i)).1.links.map Link.e) ((qal c (ps.take i)).1.tokens.map Token.e) ((qal c (ps.take i)).1.news.map News.e) (g.nodes.map Node.e) g.workers g.cap)
  (stE:=qgf ((qal c ps).1.graph.nodes.map Node.e) (qal c ps).1.graph.workers (qal c ps).1.graph.cap ((qal c ps).1.workers.map Worker.e) ((qal c ps).1.links.map Link.e) ((qal c ps).1.tokens.map Token.e) ((qal c ps).1.news.map News.e) (g.nodes.map Node.e) g.workers g.cap) (fun i hi=>?_) (by
   rw[zC]
   exact qzi ⟨ge1,trivial⟩)
 ·simpa[qwe]using key
 ·obtain⟨p,hp'⟩:=qah hi
  have hz:=qwg c ps i
  rw[qwf c hp']
  generalize hd:(qal c (ps.take i)).1=d at hz
  have hgd:GotLe d:=by rw[←hd];exact (qik (ps.take i) c).got hw
  have st:=qzd d p (by omega) hgd
  have k:=qlA d p
  have hwl:d.workers.length≤8388608:=Cluster.wlen_le (by omega)
  exact qzh ⟨lt1 hi,lt0,lt2 hi,qad Pick.e hp',st,by simp[k.wlen],qzk ps i g d (stepPick d p).1 (qxJ d p) k.wlen hwl,up1 hi (by omega),trivial⟩
theorem qzm(b:List Int)(hb:∀a∈b,(fun n=>0≤n∧n≤255) a):Rt 3 [.one (.sl 1 (b.map eU))] [.one (B true)]:=by
 by_cases hbig:(b.length:Int)>1048576
 ·have:=qmc (b.map eU) trivial
  rw[zap (by simpa using hbig)]at this
  exact qze ⟨this,rfl,trivial⟩
 have big:=qmc (b.map eU) trivial
 rw[zt (by simpa using hbig)]at big
 obtain⟨g,xs,ps,hg,⟨x1,x2⟩,⟨p1,p2⟩,draw⟩:=qtz b ⟨by omega,hb⟩
 have hn:=qxE hg x1 x2
 have hs:=hg.size
 have hz:=qxC hn
 have nw:=qxB g xs (by omega)
 rw[qlQ hn]at nw
 have l:=qzl ps g (qcJ g xs) p1 (by omega) (qxD g xs)
 have:=qzj ⟨big,rfl,draw,nw,l,trivial⟩
 have hw:(qal (qcJ g xs) ps).1.workers.length=g.workers.toNat:=by
  rw[(qik ps _).wlen]
  simp only[qcJ,qin]
 have e:(((↑((qal (qcJ g xs) ps).1.workers.map Worker.e).length:Int))==g.workers)=true:=by
  rw[zb,hw]
  have:=hg.workers
  simp only[zE]
  omega
 rw[e]at this
 exact this
end Go.Proofs.YtenekpkjlgddnaaGreat
