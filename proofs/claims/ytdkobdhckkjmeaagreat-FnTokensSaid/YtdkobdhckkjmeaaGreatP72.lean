import Derived.Test.YtdkobdhckkjmeaaGreatP18
import Derived.Test.YtdkobdhckkjmeaaGreatP47
import Derived.Test.YtdkobdhckkjmeaaGreatGW
import Derived.Test.YtdkobdhckkjmeaaGreatGX
import Derived.Test.YtdkobdhckkjmeaaGreatP43
import Derived.Test.YtdkobdhckkjmeaaGreatP31
set_option linter.unusedVariables false
set_option linter.unusedSimpArgs false
namespace Go.Proofs.YtdkobdhckkjmeaaGreat
open Go.Sx Go.RowKit Go.Proofs.Tryz
end Go.Proofs.YtdkobdhckkjmeaaGreat
namespace Go.Proofs.YtdkobdhckkjmeaaGreat
open Go.Sx Go.RowKit Go.Proofs.Tryz
section
variable {xs : List Record} {r : Record} {t : List Record}
theorem qdE(h:xs=r::t):((xs.map Record.e).drop 1).take ((xs.map Record.e).length-1)=t.map Record.e:=by subst h;exact zbk (by simp)
theorem qcp(h:xs=r::t):(0:Int)<(↑(xs.map Record.e).length:Int):=by subst h;simp only[zb,zq];omega
theorem qcX(h:xs=r::t):(xs.map Record.e)[0]?=some r.e:=by subst h;rfl
theorem len_t(h:xs=r::t):((↑(xs.map Record.e).length:Int)==0)=false:=by
 have:=qcp h;rw[zQ,zcc,zE];omega
theorem len_f(h:xs=[]):((↑(xs.map Record.e).length:Int)==0)=true:=by subst h;rfl
theorem pos_t(h:xs=r::t):decide ((↑(xs.map Record.e).length:Int)>0)=true:=dT (qcp h)
theorem pos_f(h:xs=[]):decide ((↑(xs.map Record.e).length:Int)>0)=false:=by subst h;rfl
theorem cut_a:(0:Int)≤(some (1:Int)).getD 0:=by decide
theorem cut_b(h:xs=r::t):(some (1:Int)).getD 0≤(none:Option Int).getD (↑(xs.map Record.e).length:Int):=by
 have:=qcp h;simp only[zV,Option.getD_none];omega
theorem cut_c{l:List (List D)}:(none:Option Int).getD (↑l.length:Int)≤(↑l.length:Int):=by simp
theorem qgS(h:xs=r::t)(hl:xs.length≤8388608):(([]:List (List D)).length+(((xs.map Record.e).drop 1).take ((xs.map Record.e).length-1)).length)*40≤140737488355328:=by
 rw[qdE h];refine nl _ ?_;subst h;simp only[zb,zq]at *;omega
theorem qgT(h:xs=r::t)(hl:xs.length≤8388608):([]:List (List D)).length+(((xs.map Record.e).drop 1).take ((xs.map Record.e).length-1)).length≤9223372036854775807:=by
 rw[qdE h];refine nl1 _ ?_;subst h;simp only[zb,zq]at *;omega
theorem qgU(h:xs=r::t):Flat (((xs.map Record.e).drop 1).take ((xs.map Record.e).length-1)):=by rw[qdE h];exact qae _ Record.flat _
theorem qib(h:xs=r::t):([]:List (List D))++((xs.map Record.e).drop 1).take ((xs.map Record.e).length-1)=t.map Record.e:=qdE h
end
theorem one_m{xs:List Record}{a:List D}(h:xs.length≤8388608):((xs.map Record.e).length+[a].length)*40≤140737488355328:=by simp;omega
theorem one_x{xs:List Record}{a:List D}(h:xs.length≤8388608):(xs.map Record.e).length+[a].length≤9223372036854775807:=by simp;omega
theorem qtr(a:Int)(q:List Record)(r:Record)(b c d e:Int):Link.e ⟨a,q++[r],b,c,d,e⟩=[I a,.sl 5 (q.map Record.e++[r.e]),I b,I c,I d,I e]:=by
 simp only[Link.e,zU];rfl
theorem qgV{l:Link}(h:qbq l=true):(0≤l.credits∧l.credits≤4)∧(0≤l.back∧l.back≤4)∧(0≤l.sent∧l.sent≤1000000000)∧(0≤l.got∧l.got≤1000000000)∧l.queue.length≤4:=by
 obtain⟨k1,k2,k3,k4,k5,k6,k7,k8⟩:=qcm.1 h;simp only[inR,zi]at k1 k2 k3 k5;omega
theorem qOm(l:Link)(r:Record)(hl:l.sz≤8388608):Rt 287 [.agg l.e,.agg r.e] [.agg (qay l r).1.e,.one (B (qay l r).2)]:=by
 have cp:=qj9 l hl;have k:=qjW l hl;have kr:=qdQ r;have hq:l.queue.length≤8388608:=hl;cases h1:qbq l with
 | false=>
  rw[h1]at k;rw[show qay l r=(l,false) by unfold qay;simp[h1]];exact qND ⟨cp,k,rfl,trivial⟩
 | true=>
 rw[h1]at k;cases h2:qaB r with
 | false=>
  rw[h2]at kr;rw[show qay l r=(l,false) by unfold qay;simp[h2]];exact qNE ⟨cp,k,rfl,kr,rfl,trivial⟩
 | true=>
 rw[h2]at kr;by_cases h3:l.credits=0
 ·rw[show qay l r=(l,false) by unfold qay;simp[h3]];exact qNF ⟨cp,k,rfl,kr,rfl,by rw[zE];exact h3,trivial⟩
 have h3':(l.credits==0)=false:=by rw[zQ,zcc,zE];exact h3
 obtain⟨n1,n2,n3,n4,n5⟩:=qgV h1;by_cases h4:l.sent<1000000000
 ·rw[show qay l r=(⟨l.cap,l.queue++[r],l.credits-1,l.back,l.sent+1,l.got⟩,true) by unfold qay;simp[h1,h2,h3,h4]];dsimp only;rw[qtr];exact qNH ⟨cp,k,rfl,kr,rfl,h3',dF (by omega),one_m hq,one_x hq,qat (Record.flat r),⟨by omega,by omega⟩,⟨by omega,by omega⟩,trivial⟩
 ·rw[show qay l r=(l,false) by unfold qay;simp[h4]];dsimp only;exact qNG ⟨cp,k,rfl,kr,rfl,h3',dT (by omega),trivial⟩
theorem qOn(l:Link)(hl:l.sz≤8388608):Rt 289 [.agg l.e] [.agg (qaq l).1.e,.agg (qaq l).2.1.e,.one (B (qaq l).2.2)]:=by
 have cp:=qj9 l hl;have k:=qjW l hl;have hq:l.queue.length≤8388608:=hl;cases h1:qbq l with
 | false=>
  rw[h1]at k;rw[show qaq l=(l,rec0,false) by unfold qaq;simp[h1]];exact qNI ⟨cp,k,rfl,trivial⟩
 | true=>
 rw[h1]at k;cases h2:l.queue with
 | nil=>
  rw[show qaq l=(l,rec0,false) by unfold qaq;rw[zp h1];simp only[h2]];exact qNJ ⟨cp,k,rfl,len_f h2,trivial⟩
 | cons r q=>
  obtain⟨n1,n2,n3,n4,n5⟩:=qgV h1;rw[show qaq l=(⟨l.cap,q,l.credits,l.back+1,l.sent,l.got+1⟩,r,true) by unfold qaq;rw[zp h1];simp only[h2]];have e:Link.e ⟨l.cap,q,l.credits,l.back+1,l.sent,l.got+1⟩=[I l.cap,.sl 5 (((l.queue.map Record.e).drop 1).take ((l.queue.map Record.e).length-1)),I l.credits,I (l.back+1),I l.sent,I (l.got+1)]:=by rw[qdE h2];rfl
  dsimp only;rw[e];exact qNK ⟨cp,k,rfl,len_t h2,by omega,qcp h2,qcX h2,cut_a,cut_b h2,cut_c,qgS h2 hq,qgT h2 hq,qgU h2,⟨by omega,by omega⟩,⟨by omega,by omega⟩,trivial⟩
theorem qOo(l:Link)(hl:l.sz≤8388608):Rt 290 [.agg l.e] [.agg (qaQ l).1.e,.one (B (qaQ l).2)]:=by
 have cp:=qj9 l hl;have k:=qjW l hl;cases h1:qbq l with
 | false=>
  rw[h1]at k;rw[show qaQ l=(l,false) by unfold qaQ;simp[h1]];exact qNs ⟨cp,k,rfl,trivial⟩
 | true=>
 rw[h1]at k;by_cases h3:l.back=0
 ·rw[show qaQ l=(l,false) by unfold qaQ;simp[h3]];exact qNt ⟨cp,k,rfl,by rw[zE];exact h3,trivial⟩
 ·obtain⟨n1,n2,n3,n4,n5⟩:=qgV h1;rw[show qaQ l=(⟨l.cap,l.queue,l.credits+1,l.back-1,l.sent,l.got⟩,true) by unfold qaQ;simp[h1,h3]];exact qNu ⟨cp,k,rfl,by rw[zQ,zcc,zE];exact h3,⟨by omega,by omega⟩,⟨by omega,by omega⟩,trivial⟩
theorem qts{n a b:Int}(hn:1≤n∧n≤4)(ha:inR a 0 (n-1)=true)(hb:inR b 0 (n-1)=true):inInt .i64 (a*n)∧inInt .i64 (a*n+b):=by
 simp only[inR,zi]at ha hb;have hn4:n=1∨n=2∨n=3∨n=4:=by omega
 rcases hn4 with rfl | rfl | rfl | rfl<;>exact⟨⟨by omega,by omega⟩,⟨by omega,by omega⟩⟩
theorem qnB{n:Int}(h:inInt .i64 n):IntKind.i64.wrap n=n:=by
 obtain⟨h1,h2⟩:=h;simp only[IntKind.wrap_i64];omega
theorem qtt(g:Graph)(a b:Int):∃v,Rt 62 [.agg g.e,.one (I a),.one (I b)] [.one (I v)]:=by
 cases ha:inR a 0 (IntKind.i64.wrap (g.workers-1)) with
 | false=>exact⟨_,qtj ⟨qaK _ _ _ _ ha,rfl,trivial⟩⟩
 | true=>
 cases hb:inR b 0 (IntKind.i64.wrap (g.workers-1)) with
 | false=>exact⟨_,qtk ⟨qaK _ _ _ _ ha,rfl,qaK _ _ _ _ hb,rfl,trivial⟩⟩
 | true=>
 by_cases hn:g.workers<1
 ·exact⟨_,qNz ⟨qaK _ _ _ _ ha,rfl,qaK _ _ _ _ hb,rfl,dT hn,trivial⟩⟩
 ·exact⟨_,qtl ⟨qaK _ _ _ _ ha,rfl,qaK _ _ _ _ hb,rfl,dF hn,trivial⟩⟩
theorem qnC(g:Graph)(a b:Int)(hn:1≤g.workers∧g.workers≤4):Rt 62 [.agg g.e,.one (I a),.one (I b)] [.one (I (qav g a b))]:=by
 have i1:IntKind.i64.wrap (g.workers-1)=g.workers-1:=qnB ⟨by omega,by omega⟩;have in1:∀(x:Int) (r:Bool),inR x 0 (g.workers-1)=r→Rt 167 [.one (I x),.one (I 0),.one (I (IntKind.i64.wrap (g.workers-1)))] [.one (B r)]:=fun x r h=>by
  rw[i1];exact qaK _ _ _ _ h
 cases ha:inR a 0 (g.workers-1) with
 | false=>
  rw[qdW (by rw[ha];rfl)];exact qtj ⟨in1 _ _ ha,rfl,trivial⟩
 | true=>
 cases hb:inR b 0 (g.workers-1) with
 | false=>
  rw[qdW (by rw[ha,hb];rfl)];exact qtk ⟨in1 _ _ ha,rfl,in1 _ _ hb,rfl,trivial⟩
 | true=>
  obtain⟨j1,j2⟩:=qts hn ha hb;have key:Rt 62 [.agg g.e,.one (I a),.one (I b)] [.one (I (IntKind.i64.wrap (IntKind.i64.wrap (a*g.workers)+b)))]:=qtl ⟨in1 a true ha,rfl,in1 b true hb,rfl,dF (by omega),trivial⟩;rw[qnB j1,qnB j2]at key;rw[(qex hn ha hb).1];exact key
theorem qnD(w:Worker)(r:Record):(kept w r).e=[.sl 5 (w.queue.map Record.e++[r.e]),.sl 5 (w.staged.map Record.e),.sl 5 (w.inputs.map Record.e),.sl 4 (w.cells.map Cell.e),.sl 1 (w.sums.map eI),.sl 1 (w.black.map eB),.sl 1 (w.caps.map eB),.sl 2 (w.dones.map Done.e)]:=by
 simp only[kept,Worker.e,zU];rfl
theorem qOs(w:Worker)(r:Record):(received w r).e=[.sl 5 (w.queue.map Record.e++[r.e]),.sl 5 (w.staged.map Record.e),.sl 5 (w.inputs.map Record.e),.sl 4 (w.cells.map Cell.e),.sl 1 ((w.sums.map eI).set r.stamp.epoch.toNat [I (w.sums.getD r.stamp.epoch.toNat 0-1)]),.sl 1 ((w.black.map eB).set r.stamp.epoch.toNat [B true]),.sl 1 (w.caps.map eB),.sl 2 (w.dones.map Done.e)]:=by
 simp only[received,incAt,Worker.e,zU,zau];rfl
theorem qtv(w:Worker)(e:Int):(qbZ w e).e=[.sl 5 (w.queue.map Record.e),.sl 5 (w.staged.map Record.e),.sl 5 (w.inputs.map Record.e),.sl 4 (w.cells.map Cell.e),.sl 1 ((w.sums.map eI).set e.toNat [I (w.sums.getD e.toNat 0+1)]),.sl 1 (w.black.map eB),.sl 1 (w.caps.map eB),.sl 2 (w.dones.map Done.e)]:=by
 simp only[qbZ,incAt,Worker.e,zau];rfl
end Go.Proofs.YtdkobdhckkjmeaaGreat
namespace Go.Proofs.YtdkobdhckkjmeaaGreat
open Go.Sx Go.RowKit Go.Proofs.Tryz
theorem qtz{c:Cluster}{w:Int}(h:wAt c w=none):inR w 0 ((↑(c.workers.map Worker.e).length:Int)-1)=false:=by
 unfold wAt at h;simp only[inR,zb,zf];split at h
 ·rw[List.getElem?_eq_none_iff]at h;omega
 ·omega
theorem qkl{c:Cluster}{w:Int}{x:Worker}(h:wAt c w=some x):inR w 0 ((↑(c.workers.map Worker.e).length:Int)-1)=true:=by
 obtain⟨h1,h2,_⟩:=qaC h;simp only[inR,zb,zi];omega
theorem qgX{c:Cluster}{i:Int}{x:Link}(h:lAt c i=some x):0≤i∧i<(↑(c.links.map Link.e).length:Int)∧(c.links.map Link.e)[i.toNat]?=some x.e:=by
 obtain⟨h1,h2,h3⟩:=qbl h;exact⟨h1,by rw[zb];omega,qad Link.e h3⟩
theorem qgY{c:Cluster}{i:Int}{x:Link}(h:lAt c i=some x)(hc:c.sz≤8388608):x.sz≤8388608:=Cluster.link_sz1 hc (qag (qbl h).2.2)
theorem wlen1{c:Cluster}(hc:c.sz≤8388608):inInt .i64 ((↑(c.workers.map Worker.e).length:Int)-1):=by
 have:=Cluster.wlen_le hc;exact⟨by rw[zb];omega,by rw[zb];omega⟩
theorem qih(c:Cluster)(w:Int)(y:Worker)(b:Bool):runD (setW c w y) b=[.sl 4 (c.graph.nodes.map Node.e),I c.graph.workers,I c.graph.cap,.sl 8 ((c.workers.map Worker.e).set w.toNat y.e),.sl 6 (c.links.map Link.e),.sl 5 (c.tokens.map Token.e),.sl 3 (c.news.map News.e),B b]:=by simp only[setW,runD,zau]
theorem qtB(c:Cluster)(i:Int)(y:Link)(b:Bool):runD (setL c i y) b=[.sl 4 (c.graph.nodes.map Node.e),I c.graph.workers,I c.graph.cap,.sl 8 (c.workers.map Worker.e),.sl 6 ((c.links.map Link.e).set i.toNat y.e),.sl 5 (c.tokens.map Token.e),.sl 3 (c.news.map News.e),B b]:=by simp only[setL,runD,zau]
theorem qnI(c:Cluster)(w i:Int)(y:Worker)(z:Link)(b:Bool):runD (setW (setL c i z) w y) b=[.sl 4 (c.graph.nodes.map Node.e),I c.graph.workers,I c.graph.cap,.sl 8 ((c.workers.map Worker.e).set w.toNat y.e),.sl 6 ((c.links.map Link.e).set i.toNat z.e),.sl 5 (c.tokens.map Token.e),.sl 3 (c.news.map News.e),B b]:=by simp only[setW,setL,runD,zau]
theorem qkm{c:Cluster}{w:Int}{x:Worker}(ok:qai c=true)(hx:wAt c w=some x):x.sums.length=4∧x.black.length=4∧x.caps.length=4∧(∀e:Int,0≤e∧e≤3→-1000000≤x.sums.getD e.toNat 0∧x.sums.getD e.toNat 0≤1000000):=by
 obtain⟨_,_,_,_,k5,k6,k7,_,k9,_⟩:=qbd.1 (qbu ok hx);refine⟨k5,k6,k7,fun e he=>?_⟩;have hl:e.toNat<x.sums.length:=by omega
 rw[zP]at k9;have:=k9 _ (zax hl);rw[zN,zu hl,zV];simpa only[qcy,zS,zX,inR,zi,zbt,Bool.not_not,Bool.not_eq_eq_eq_not,zZ,zf,Classical.not_not]using this
theorem qtD{c:Cluster}{w:Int}{x:Worker}{r:Record}{t:List Record}(ok:qai c=true)(hx:wAt c w=some x)(hs:x.staged=r::t):qbk c w=qc9 c w x r t (qax r.key c.graph.workers):=by
 unfold qbk;rw[zp ok,hx];dsimp only;rw[hs]
theorem qtE{c:Cluster}{w:Int}{x:Worker}{r:Record}{t:List Record}{o:Int}(h:o=w):qc9 c w x r t o=(setW c w (kept (qbf x t) r),true):=zp h
theorem qtF{c:Cluster}{w:Int}{x:Worker}{r:Record}{t:List Record}{o:Int}{l:Link}(h:o≠w)(hl:lAt c (qav c.graph w o)=some l):qc9 c w x r t o=if (qay l r).2 then (setW (setL c (qav c.graph w o) (qay l r).1) w (qbZ (qbf x t) r.stamp.epoch),true) else (c,false):=by
 unfold qc9;rw[zo h,hl]
theorem qkn{c:Cluster}{a b:Int}(h:(inR a 0 (c.graph.workers-1)&&inR b 0 (c.graph.workers-1))=false):lAt c (qav c.graph a b)=none:=by
 rw[qdW h];rfl
theorem qtG{c:Cluster}{a b:Int}{l:Link}{x:Worker}(ok:qai c=true)(hab:a≠b)(hl:lAt c (qav c.graph a b)=some l)(hx:wAt c b=some x):qbw c a b=if (qaq l).2.2 then (setW (setL c (qav c.graph a b) (qaq l).1) b (received x (qaq l).2.1),true) else (c,false):=by
 unfold qbw;rw[zp (by simp[ok,hab]),hl,hx]
theorem qtH{c:Cluster}{a b:Int}{l:Link}(ok:qai c=true)(hab:a≠b)(hl:lAt c (qav c.graph a b)=some l):qbt c a b=(setL c (qav c.graph a b) (qaQ l).1,(qaQ l).2):=by
 unfold qbt;rw[zp (by simp[ok,hab]),hl]
theorem qnK(c:Cluster)(w:Int)(hc:c.sz≤8388608):RetR prog 286 [.ref (runE c) (runE c),.ro (.one (I w))] (.vals [.one (B (qai c&&(wAt c w).isSome))]):=by
 unfold runE;cases ok:qai c with
 | false=>exact qNT ⟨rfl,trivial⟩
 | true=>
  cases hx:wAt c w with
  | none=>exact qtn ⟨rfl,wlen1 hc,qaK _ _ _ _ (qtz hx),trivial⟩
  | some x=>exact qtn ⟨rfl,wlen1 hc,qaK _ _ _ _ (qkl hx),trivial⟩
def sumW(x:Worker)(e d:Int):Worker:=⟨x.queue,x.staged,x.inputs,x.cells,incAt x.sums e d,x.black,x.caps,x.dones⟩
theorem qtI(w:Worker)(e d:Int):(sumW w e d).e=[.sl 5 (w.queue.map Record.e),.sl 5 (w.staged.map Record.e),.sl 5 (w.inputs.map Record.e),.sl 4 (w.cells.map Cell.e),.sl 1 ((w.sums.map eI).set e.toNat [I (w.sums.getD e.toNat 0+d)]),.sl 1 (w.black.map eB),.sl 1 (w.caps.map eB),.sl 2 (w.dones.map Done.e)]:=by
 simp only[sumW,incAt,Worker.e,zau];rfl
theorem qtJ(c:Cluster)(w e d:Int)(x:Worker)(hx:wAt c w=some x)(h4:x.sums.length=4)(he:0≤e∧e≤3)(hd:-1≤d∧d≤1)(hs:-1000000≤x.sums.getD e.toNat 0∧x.sums.getD e.toNat 0≤1000000):
  RetR prog 288 [.ref (runD c true) (runD (setW c w (sumW x e d)) (inR (x.sums.getD e.toNat 0+d) (-1000000) 1000000)),.ro (.one (I w)),.ro (.one (I e)),.ro (.one (I d))] (.vals []):=by
 obtain⟨wE0,wE1,wE2⟩:=qb1 hx;obtain⟨s1,s2⟩:=int4 h4 he;rw[qih,qtI];exact qNY ⟨wE0,wE1,wE2,wE0,wE1,wE2,he.1,s1,s2,⟨by omega,by omega⟩,he.1,s1,s2,wE2,rfl,rfl,rfl,rfl,rfl,wE0,by rw[zn];exact wE1,gs1 wE0 wE1,he.1,by rw[zn];exact s1,gs1 he.1 s1,qbo _ _ _,trivial⟩
theorem qON(c:Cluster)(w:Int)(hc:c.sz≤8388608):RetR prog 204 [.ref (runE c) (runE (qbr c w).1),.ro (.one (I w))] (.vals [.one (B (qbr c w).2)]):=by
 have post:=fun h=>qse (c:=c) (w:=w) h
 have is:=qnK c w hc;cases ok:qai c with
 | false=>
  rw[ok]at is;rw[show qbr c w=(c,false) by unfold qbr;simp[ok]];exact qtp ⟨is,rfl,trivial⟩
 | true=>
 replace post:=post ok;cases hx:wAt c w with
 | none=>
  rw[ok,hx]at is;rw[show qbr c w=(c,false) by unfold qbr;simp[hx]];exact qtp ⟨is,rfl,trivial⟩
 | some x=>
 rw[ok,hx]at is;obtain⟨wE0,wE1,wE2⟩:=qb1 hx;have hsz:=qcc hx hc;have gok:=(qaH.1 ok).1;have wok:=qbu ok hx;have hu:qaY c.graph x=match x.staged,x.queue with
  | [],r::q=>(⟨q,(qau c.graph x.cells r).2.1,x.inputs,(qau c.graph x.cells r).1,x.sums,x.black,(if capped c.graph r then x.caps.set r.stamp.epoch.toNat true else x.caps),x.dones⟩,true)
  | _,_=>(x,false):=by unfold qaY;rw[gok,wok];rfl
 have pe:qbr c w=(setW c w (qaY c.graph x).1,(qaY c.graph x).2):=by unfold qbr;simp[ok,hx]
 cases h3:x.staged with
 | cons r q=>
  rw[pe,show qaY c.graph x=(x,false) by rw[hu,h3]];dsimp only;rw[qdV hx];exact qN4 ⟨is,rfl,wE0,wE1,wE2,pos_t h3,trivial⟩
 | nil=>
 cases h4:x.queue with
 | nil=>
  rw[pe,show qaY c.graph x=(x,false) by rw[hu,h3,h4]];dsimp only;rw[qdV hx];exact qN5 ⟨is,rfl,wE0,wE1,wE2,pos_f h3,len_f h4,trivial⟩
 | cons r q=>
  have hcl:x.cells.length≤8388608:=by simp only[Worker.sz]at hsz;omega
  have hql:x.queue.length≤8388608:=by simp only[Worker.sz]at hsz;omega
  have hg:=Cluster.graph_sz1 hc;have st:=qIJ c.graph x.cells r hg hcl;have ca:=qIM c.graph r hg;obtain⟨k1,_,_,_,_,_,k7,_⟩:=qbd.1 wok;rw[h4,qdb]at k1;have he:=qdC k1.1;obtain⟨c1,c2⟩:=bool4 k7 he;unfold runE at is ⊢;rw[post];rw[ok]at is ⊢;cases h5:capped c.graph r with
  | true=>
   rw[h5]at ca;rw[pe,show qaY c.graph x=(⟨q,(qau c.graph x.cells r).2.1,x.inputs,(qau c.graph x.cells r).1,x.sums,x.black,x.caps.set r.stamp.epoch.toNat true,x.dones⟩,true) by rw[hu,h3,h4];simp only[h5,zbb]];have e:Worker.e ⟨q,(qau c.graph x.cells r).2.1,x.inputs,(qau c.graph x.cells r).1,x.sums,x.black,x.caps.set r.stamp.epoch.toNat true,x.dones⟩=[.sl 5 ([]++((x.queue.map Record.e).drop 1).take ((x.queue.map Record.e).length-1)),.sl 5 ((qau c.graph x.cells r).2.1.map Record.e),.sl 5 (x.inputs.map Record.e),.sl 4 ((qau c.graph x.cells r).1.map Cell.e),.sl 1 (x.sums.map eI),.sl 1 (x.black.map eB),.sl 1 ((x.caps.map eB).set r.stamp.epoch.toNat [B true]),.sl 2 (x.dones.map Done.e)]:=by
    rw[qib h4];simp only[Worker.e,zau];rfl
   dsimp only;rw[qih,e];have key:=qN6 ⟨is,rfl,wE0,wE1,wE2,pos_f h3,len_t h4,by omega,qcp h4,qcX h4,st,cut_a,cut_b h4,cut_c,qgS h4 hql,qgT h4 hql,qgU h4,ca,rfl,he.1,c1,c2,wE2,rfl,rfl,rfl,rfl,wE0,by rw[zn];exact wE1,gs1 wE0 wE1,rfl,rfl,rfl,rfl,rfl,trivial⟩;simp only[zam]at key;exact key
  | false=>
   rw[h5]at ca;rw[pe,show qaY c.graph x=(⟨q,(qau c.graph x.cells r).2.1,x.inputs,(qau c.graph x.cells r).1,x.sums,x.black,x.caps,x.dones⟩,true) by rw[hu,h3,h4];simp only[h5];rfl];have e:Worker.e ⟨q,(qau c.graph x.cells r).2.1,x.inputs,(qau c.graph x.cells r).1,x.sums,x.black,x.caps,x.dones⟩=[.sl 5 ([]++((x.queue.map Record.e).drop 1).take ((x.queue.map Record.e).length-1)),.sl 5 ((qau c.graph x.cells r).2.1.map Record.e),.sl 5 (x.inputs.map Record.e),.sl 4 ((qau c.graph x.cells r).1.map Cell.e),.sl 1 (x.sums.map eI),.sl 1 (x.black.map eB),.sl 1 (x.caps.map eB),.sl 2 (x.dones.map Done.e)]:=by
    rw[qib h4];rfl
   dsimp only;rw[qih,e];exact qN7 ⟨is,rfl,wE0,wE1,wE2,pos_f h3,len_t h4,by omega,qcp h4,qcX h4,st,cut_a,cut_b h4,cut_c,qgS h4 hql,qgT h4 hql,qgU h4,ca,rfl,wE0,wE1,wE2,rfl,rfl,rfl,rfl,rfl,trivial⟩
theorem qOO(c:Cluster)(w:Int)(hc:c.sz≤8388608):RetR prog 205 [.ref (runE c) (runE (qbs c w).1),.ro (.one (I w))] (.vals [.one (B (qbs c w).2)]):=by
 have post:=fun h=>qsf (c:=c) (w:=w) h
 have is:=qnK c w hc;cases ok:qai c with
 | false=>
  rw[ok]at is;rw[show qbs c w=(c,false) by unfold qbs;simp[ok]];exact qtm ⟨is,rfl,trivial⟩
 | true=>
 replace post:=post ok;cases hx:wAt c w with
 | none=>
  rw[ok,hx]at is;rw[show qbs c w=(c,false) by unfold qbs;simp[hx]];exact qtm ⟨is,rfl,trivial⟩
 | some x=>
 rw[ok,hx]at is;obtain⟨wE0,wE1,wE2⟩:=qb1 hx;have hsz:=qcc hx hc;have gok:=(qaH.1 ok).1;have wok:=qbu ok hx;have hil:x.inputs.length≤8388608:=by simp only[Worker.sz]at hsz;omega
 have hu:qaZ c.graph x=match x.staged,x.queue,x.inputs with
  | [],[],r::t=>(⟨[r],[],t,x.cells,x.sums,x.black,x.caps,x.dones⟩,true)
  | _,_,_=>(x,false):=by unfold qaZ;rw[gok,wok];rfl
 have pe:qbs c w=(setW c w (qaZ c.graph x).1,(qaZ c.graph x).2):=by unfold qbs;simp[ok,hx]
 cases h3:x.staged with
 | cons r q=>
  rw[pe,show qaZ c.graph x=(x,false) by rw[hu,h3]];dsimp only;rw[qdV hx];exact qNP ⟨is,rfl,wE0,wE1,wE2,pos_t h3,trivial⟩
 | nil=>
 cases h4:x.queue with
 | cons r q=>
  rw[pe,show qaZ c.graph x=(x,false) by rw[hu,h3,h4]];dsimp only;rw[qdV hx];exact qNQ ⟨is,rfl,wE0,wE1,wE2,pos_f h3,pos_t h4,trivial⟩
 | nil=>
 cases h5:x.inputs with
 | nil=>
  rw[pe,show qaZ c.graph x=(x,false) by rw[hu,h3,h4,h5]];dsimp only;rw[qdV hx];exact qNR ⟨is,rfl,wE0,wE1,wE2,pos_f h3,pos_f h4,len_f h5,trivial⟩
 | cons r t=>
  unfold runE at is ⊢;rw[post];rw[ok]at is ⊢;rw[pe,show qaZ c.graph x=(⟨[r],[],t,x.cells,x.sums,x.black,x.caps,x.dones⟩,true) by rw[hu,h3,h4,h5]];have e:Worker.e ⟨[r],[],t,x.cells,x.sums,x.black,x.caps,x.dones⟩=[.sl 5 ([r.e]),.sl 5 (x.staged.map Record.e),.sl 5 ([]++((x.inputs.map Record.e).drop 1).take ((x.inputs.map Record.e).length-1)),.sl 4 (x.cells.map Cell.e),.sl 1 (x.sums.map eI),.sl 1 (x.black.map eB),.sl 1 (x.caps.map eB),.sl 2 (x.dones.map Done.e)]:=by
   rw[qib h5,h3];rfl
  dsimp only;rw[qih,e];exact qNS ⟨is,rfl,wE0,wE1,wE2,pos_f h3,pos_f h4,len_t h5,by omega,qcp h5,qcX h5,cut_a,cut_b h5,cut_c,qgS h5 hil,qgT h5 hil,qgU h5,wE0,wE1,wE2,rfl,rfl,rfl,rfl,rfl,rfl,trivial⟩
theorem qOP(c:Cluster)(w:Int)(hc:c.sz≤8388608):RetR prog 192 [.ref (runE c) (runE (qbk c w).1),.ro (.one (I w))] (.vals [.one (B (qbk c w).2)]):=by
 have is:=qnK c w hc;cases ok:qai c with
 | false=>
  rw[ok]at is;rw[show qbk c w=(c,false) by unfold qbk;simp[ok]];exact qto ⟨is,rfl,trivial⟩
 | true=>
 cases hx:wAt c w with
 | none=>
  rw[ok,hx]at is;rw[show qbk c w=(c,false) by unfold qbk;simp[hx]];exact qto ⟨is,rfl,trivial⟩
 | some x=>
 rw[ok,hx]at is;obtain⟨wE0,wE1,wE2⟩:=qb1 hx;have hsz:=qcc hx hc;have hn:=qa7 (qaH.1 ok).1;cases hs:x.staged with
 | nil=>
  rw[show qbk c w=(c,false) by unfold qbk;rw[zp ok,hx];dsimp only;rw[hs]];exact qNU ⟨is,rfl,wE0,wE1,wE2,len_f hs,trivial⟩
 | cons r t=>
  have ow:=qrB r.key c.graph.workers (by omega);have hr:=(qj1 (qbu ok hx) hs).2;have he:=qdC hr;have hql:x.queue.length≤8388608:=by simp only[Worker.sz]at hsz;omega
  have hsl:x.staged.length≤8388608:=by simp only[Worker.sz]at hsz;omega
  obtain⟨f4,_,_,fs⟩:=qkm ok hx;rw[qtD ok hx hs];have oin:=qhQ r.key hn.1;generalize qax r.key c.graph.workers=o at ow oin;by_cases how:o=w
  ·have hbo:(o != w)=false:=by simp[how]
   rw[qtE how];unfold runE at is ⊢;dsimp only;rw[qsc ok hx hs];rw[ok]at is ⊢;have e:(kept (qbf x t) r).e=[.sl 5 (x.queue.map Record.e++[r.e]),.sl 5 ([]++((x.staged.map Record.e).drop 1).take ((x.staged.map Record.e).length-1)),.sl 5 (x.inputs.map Record.e),.sl 4 (x.cells.map Cell.e),.sl 1 (x.sums.map eI),.sl 1 (x.black.map eB),.sl 1 (x.caps.map eB),.sl 2 (x.dones.map Done.e)]:=by
    rw[qib hs,qnD];rfl
   rw[qih,e];have key:=qNX ⟨is,rfl,wE0,wE1,wE2,len_t hs,wE0,wE1,wE2,by omega,qcp hs,qcX hs,ow,hbo,wE0,wE1,wE2,one_m hql,one_x hql,wE2,rfl,qat (Record.flat r),rfl,rfl,rfl,rfl,rfl,rfl,rfl,rfl,rfl,rfl,rfl,rfl,rfl,wE0,wE1,wE2,rfl,wE0,by rw[zn];exact wE1,gs1 wE0 wE1,cut_a,cut_b hs,cut_c,qgS hs hsl,qgT hs hsl,qgU hs,wE0,by rw[zn];exact wE1,gs1 wE0 wE1,trivial⟩;simp only[zam]at key;exact key
  ·have hbo:(o != w)=true:=by simp[how]
   have win:inR w 0 (c.graph.workers-1)=true:=by
    have:=qkl hx;rwa[zb,(qaH.1 ok).2.1]at this
   obtain⟨l,hl⟩:=qfD ok win oin;obtain⟨lE0,lE1,lE2⟩:=qgX hl;have lp:=qnC c.graph w o hn;have so:=qOm l r (qgY hl hc);have om:=fun h=>qsb ok hx hs oin how hl h
   rw[qtF how hl];cases h6:(qay l r).2 with
   | false=>
    rw[h6]at so;exact qNV ⟨is,rfl,wE0,wE1,wE2,len_t hs,wE0,wE1,wE2,by omega,qcp hs,qcX hs,ow,hbo,lp,lE0,lE1,lE2,so,rfl,trivial⟩
   | true=>
    rw[h6]at so;rw[zp rfl];unfold runE at is ⊢;dsimp only;rw[om h6];rw[ok]at is ⊢;have su:=qtJ (setL c (qav c.graph w o) (qay l r).1) w r.stamp.epoch 1 x (qhS.trans hx) f4 he (by omega) (fs _ he);rw[qtB,qnI,qtI]at su;have e:(qbZ (qbf x t) r.stamp.epoch).e=[.sl 5 (x.queue.map Record.e),.sl 5 ([]++((x.staged.map Record.e).drop 1).take ((x.staged.map Record.e).length-1)),.sl 5 (x.inputs.map Record.e),.sl 4 (x.cells.map Cell.e),.sl 1 ((x.sums.map eI).set r.stamp.epoch.toNat [I (x.sums.getD r.stamp.epoch.toNat 0+1)]),.sl 1 (x.black.map eB),.sl 1 (x.caps.map eB),.sl 2 (x.dones.map Done.e)]:=by
     rw[qib hs,qtv];rfl
    rw[qnI,e];have key:=qNW ⟨is,rfl,wE0,wE1,wE2,len_t hs,wE0,wE1,wE2,by omega,qcp hs,qcX hs,ow,hbo,lp,lE0,lE1,lE2,so,rfl,lE0,lE1,lE2,su,wE0,by rw[zn];exact wE1,gs1 wE0 wE1,cut_a,cut_b hs,cut_c,qgS hs hsl,qgT hs hsl,qgU hs,wE0,by rw[zn];exact wE1,gs1 wE0 wE1,trivial⟩;simp only[zam]at key;exact key
theorem qOQ(c:Cluster)(a b:Int)(hc:c.sz≤8388608):RetR prog 197 [.ref (runE c) (runE (qbw c a b).1),.ro (.one (I a)),.ro (.one (I b))] (.vals [.one (B (qbw c a b).2)]):=by
 cases ok:qai c with
 | false=>
  rw[show qbw c a b=(c,false) by unfold qbw;simp[ok]];obtain⟨v,lp⟩:=qtt c.graph a b;unfold runE;rw[ok];exact qNZ ⟨lp,rfl,trivial⟩
 | true=>
 have hn:=qa7 (qaH.1 ok).1;have lp:=qnC c.graph a b hn;cases hh:(inR a 0 (c.graph.workers-1)&&inR b 0 (c.graph.workers-1)) with
 | false=>
  rw[qdW hh]at lp;rw[show qbw c a b=(c,false) by unfold qbw;rw[qkn hh];split<;>rfl];unfold runE;rw[ok];exact qN0 ⟨lp,rfl,dT (by decide),trivial⟩
 | true=>
 rw[zj]at hh;obtain⟨l,hl⟩:=qfD ok hh.1 hh.2;obtain⟨lE0,lE1,lE2⟩:=qgX hl;by_cases hab:a=b
 ·rw[show qbw c a b=(c,false) by unfold qbw;simp[hab]];unfold runE;rw[ok];exact qN1 ⟨lp,rfl,dF (by omega),by simp[hab],trivial⟩
 have hbo:(a==b)=false:=by simp[hab]
 obtain⟨x,hx⟩:∃x,wAt c b=some x:=by
  have hb:=hh.2;have:=(qaH.1 ok).2.1;simp only[inR,zi]at hb;exact qcA (by omega) (by omega)
 obtain⟨wE0,wE1,wE2⟩:=qb1 hx;have hsz:=qcc hx hc;have tf:=qOn l (qgY hl hc);have ot:=fun h=>qsd ok hl hx h
 rw[qtG ok hab hl hx];unfold runE;cases h6:(qaq l).2.2 with
 | false=>
  rw[h6]at tf;rw[zo (by decide)];dsimp only;rw[ok];exact qN2 ⟨lp,rfl,dF (by omega),hbo,lE0,lE1,lE2,tf,rfl,trivial⟩
 | true=>
  rw[h6]at tf;rw[zp rfl];dsimp only;rw[ot h6,ok];have hr:=(qj2 (qda ok hl) h6).2;have he:=qdC hr;generalize (qaq l).2.1=r at tf hr he ⊢;obtain⟨f4,fb,_,fs⟩:=qkm ok hx;have hql:x.queue.length≤8388608:=by simp only[Worker.sz]at hsz;omega
  obtain⟨b1,b2⟩:=bool4 fb he;have hx2:wAt (setW (setL c (qav c.graph a b) (qaq l).1) b ⟨x.queue++[r],x.staged,x.inputs,x.cells,x.sums,x.black.set r.stamp.epoch.toNat true,x.caps,x.dones⟩) b=some ⟨x.queue++[r],x.staged,x.inputs,x.cells,x.sums,x.black.set r.stamp.epoch.toNat true,x.caps,x.dones⟩:=by
   obtain⟨q1,q2,_⟩:=qaC hx;unfold wAt setW setL;rw[zp q1];exact List.getElem?_set_self q2
  have su:=qtJ _ b r.stamp.epoch (-1) _ hx2 f4 he (by omega) (fs _ he);rw[qnI]at su;have e2:Worker.e ⟨x.queue++[r],x.staged,x.inputs,x.cells,x.sums,x.black.set r.stamp.epoch.toNat true,x.caps,x.dones⟩=[.sl 5 (x.queue.map Record.e++[r.e]),.sl 5 (x.staged.map Record.e),.sl 5 (x.inputs.map Record.e),.sl 4 (x.cells.map Cell.e),.sl 1 (x.sums.map eI),.sl 1 ((x.black.map eB).set r.stamp.epoch.toNat [B true]),.sl 1 (x.caps.map eB),.sl 2 (x.dones.map Done.e)]:=by
   simp only[Worker.e,zU,zau];rfl
  rw[e2,←zam]at su;rw[show setW (setW (setL c (qav c.graph a b) (qaq l).1) b ⟨x.queue++[r],x.staged,x.inputs,x.cells,x.sums,x.black.set r.stamp.epoch.toNat true,x.caps,x.dones⟩) b (sumW ⟨x.queue++[r],x.staged,x.inputs,x.cells,x.sums,x.black.set r.stamp.epoch.toNat true,x.caps,x.dones⟩ r.stamp.epoch (-1))=setW (setL c (qav c.graph a b) (qaq l).1) b (received x r) by unfold setW setL;simp only[zam];rfl]at su;exact qN3 ⟨lp,rfl,dF (by omega),hbo,lE0,lE1,lE2,tf,rfl,lE0,lE1,lE2,wE0,wE1,wE2,one_m hql,one_x hql,wE2,rfl,qat (Record.flat r),rfl,rfl,rfl,rfl,rfl,rfl,rfl,wE0,wE1,wE2,rfl,wE0,by rw[zn];exact wE1,gs1 wE0 wE1,he.1,b1,b2,gs1 wE0 wE1,rfl,rfl,su,trivial⟩
theorem qOR(c:Cluster)(a b:Int)(hc:c.sz≤8388608):RetR prog 199 [.ref (runE c) (runE (qbt c a b).1),.ro (.one (I a)),.ro (.one (I b))] (.vals [.one (B (qbt c a b).2)]):=by
 have post:=fun h=>qsg (c:=c) (a:=a) (b:=b) h
 cases ok:qai c with
 | false=>
  rw[show qbt c a b=(c,false) by unfold qbt;simp[ok]];obtain⟨v,lp⟩:=qtt c.graph a b;unfold runE;rw[ok];exact qNL ⟨lp,rfl,trivial⟩
 | true=>
 replace post:=post ok;have hn:=qa7 (qaH.1 ok).1;have lp:=qnC c.graph a b hn;unfold runE;rw[post,ok];cases hh:(inR a 0 (c.graph.workers-1)&&inR b 0 (c.graph.workers-1)) with
 | false=>
  rw[qdW hh]at lp;rw[show qbt c a b=(c,false) by unfold qbt;rw[qkn hh];split<;>rfl];exact qNM ⟨lp,rfl,dT (by decide),trivial⟩
 | true=>
 rw[zj]at hh;obtain⟨l,hl⟩:=qfD ok hh.1 hh.2;obtain⟨lE0,lE1,lE2⟩:=qgX hl;by_cases hab:a=b
 ·rw[show qbt c a b=(c,false) by unfold qbt;simp[hab]];exact qNN ⟨lp,rfl,dF (by omega),by simp[hab],trivial⟩
 rw[qtH ok hab hl];dsimp only;rw[qtB];exact qNO ⟨lp,rfl,dF (by omega),by simp[hab],lE0,lE1,lE2,qOo l (qgY hl hc),lE0,lE1,lE2,trivial⟩
theorem qtK(c:Cluster)(p:Pick)(hc:c.sz≤8388608):RetR prog 128 [.ref (runE c) (runE (stepPick c p).1),.ro (.agg p.e)] (.vals [.one (B (stepPick c p).2)]):=by
 by_cases h1:p.kind=1
 ·rw[show stepPick c p=qbr c p.a by unfold stepPick;simp[h1]];exact qN8 ⟨by rw[zE];exact h1,qON c p.a hc,trivial⟩
 have n1:(p.kind==1)=false:=by rw[zQ,zcc,zE];exact h1
 by_cases h2:p.kind=2
 ·rw[show stepPick c p=qbs c p.a by unfold stepPick;simp[h2]];exact qN9 ⟨n1,by rw[zE];exact h2,qOO c p.a hc,trivial⟩
 have n2:(p.kind==2)=false:=by rw[zQ,zcc,zE];exact h2
 by_cases h3:p.kind=3
 ·rw[show stepPick c p=qbk c p.a by unfold stepPick;simp[h3]];exact qOa ⟨n1,n2,by rw[zE];exact h3,qOP c p.a hc,trivial⟩
 have n3:(p.kind==3)=false:=by rw[zQ,zcc,zE];exact h3
 by_cases h4:p.kind=4
 ·rw[show stepPick c p=qbw c p.a p.b by unfold stepPick;simp[h4]];exact qOb ⟨n1,n2,n3,by rw[zE];exact h4,qOQ c p.a p.b hc,trivial⟩
 have n4:(p.kind==4)=false:=by rw[zQ,zcc,zE];exact h4
 by_cases h5:p.kind=5
 ·rw[show stepPick c p=qbt c p.a p.b by unfold stepPick;simp[h5]];exact qOc ⟨n1,n2,n3,n4,by rw[zE];exact h5,qOR c p.a p.b hc,trivial⟩
 have n5:(p.kind==5)=false:=by rw[zQ,zcc,zE];exact h5
 by_cases h6:p.kind=6
 ·rw[show stepPick c p=qbc c p.a by unfold stepPick;simp[h6]];exact qOd ⟨n1,n2,n3,n4,n5,by rw[zE];exact h6,qMo c p.a hc,trivial⟩
 have n6:(p.kind==6)=false:=by rw[zQ,zcc,zE];exact h6
 by_cases h7:p.kind=7
 ·rw[show stepPick c p=qbx c p.a by unfold stepPick;simp[h7]];exact qOe ⟨n1,n2,n3,n4,n5,n6,by rw[zE];exact h7,qMe c p.a hc,trivial⟩
 have n7:(p.kind==7)=false:=by rw[zQ,zcc,zE];exact h7
 rw[show stepPick c p=(c,false) by unfold stepPick;simp[h1,h2,h3,h4,h5,h6,h7]];exact qOf ⟨n1,n2,n3,n4,n5,n6,n7,trivial⟩
end Go.Proofs.YtdkobdhckkjmeaaGreat
namespace Go.Proofs.YtdkobdhckkjmeaaGreat
open Go.Sx Go.RowKit Go.Proofs.Tryz
theorem qJJ(l:Link)(r:Record)(h:l.got≤9223372036854775807):(qay l r).1.got≤9223372036854775807:=by
 unfold qay;split<;>exact h
theorem qJK(l:Link)(h:l.got≤9223372036854775807):(qaQ l).1.got≤9223372036854775807:=by
 unfold qaQ;split<;>exact h
theorem qJL(l:Link)(h:l.got≤9223372036854775807):(qaq l).1.got≤9223372036854775807:=by
 unfold qaq;split
 ·rename_i hk;obtain⟨_,_,_,_,k5,_,k7,_⟩:=qcm.1 hk;simp only[inR,zi]at k5;split
  ·exact h
  ·dsimp only;omega
 ·exact h
theorem GotLe.setL{c:Cluster}{i:Int}{l:Link}(h:GotLe c)(hl:l.got≤9223372036854775807):GotLe (setL c i l):=by
 intro x hx;rcases zbf hx with h1 | rfl
 ·exact h x h1
 ·exact hl
theorem GotLe.at{c:Cluster}{i:Int}{x:Link}(h:lAt c i=some x)(hw:GotLe c):x.got≤9223372036854775807:=hw _ (qag (qbl h).2.2)
structure Kept' (c d:Cluster):Prop where
 graph:d.graph=c.graph
 got:GotLe c→GotLe d
 wlen:d.workers.length=c.workers.length
theorem Kept'.rfl{c:Cluster}:Kept' c c:=⟨Eq.refl _,id,Eq.refl _⟩
theorem Kept'.links{c d:Cluster}(h1:d.graph=c.graph)(h2:d.links=c.links)(h3:d.workers.length=c.workers.length:=by simp[setW,setN,setT,setL,told,qaA]):Kept' c d:=⟨h1,fun h x hx=>h x (h2▸hx),h3⟩
theorem qJM(c:Cluster)(e:Int)(t:Token)(x:Worker):Kept' c (tokenAt c e t x).1:=by
 unfold tokenAt;split
 ·split
  ·exact .links rfl rfl
  ·split
   ·split
    ·exact .links rfl rfl
    ·exact .rfl
   ·split
    ·exact .links rfl rfl
    ·exact .links rfl rfl
 ·exact .rfl
theorem qm9(c:Cluster)(p:Pick):Kept' c (stepPick c p).1:=by
 unfold stepPick;split
 ·unfold qbr;split
  ·split
   ·exact .links rfl rfl
   ·exact .rfl
  ·exact .rfl
 split
 ·unfold qbs;split
  ·split
   ·exact .links rfl rfl
   ·exact .rfl
  ·exact .rfl
 split
 ·unfold qbk;split
  ·split
   ·split
    ·unfold qc9;split
     ·exact .links rfl rfl
     ·split
      ·rename_i l hl;split
       ·exact⟨rfl,fun h=>GotLe.setL h (qJJ l _ (GotLe.at hl h)),by simp[setW,setL]⟩
       ·exact .rfl
      ·exact .rfl
    ·exact .rfl
   ·exact .rfl
  ·exact .rfl
 split
 ·unfold qbw;split
  ·split
   ·rename_i l x hl hx;split
    ·exact⟨rfl,fun h=>GotLe.setL h (qJL l (GotLe.at hl h)),by simp[setW,setL]⟩
    ·exact .rfl
   ·exact .rfl
  ·exact .rfl
 split
 ·unfold qbt;split
  ·split
   ·rename_i l hl;exact⟨rfl,fun h=>GotLe.setL h (qJK l (GotLe.at hl h)),by simp[setW,setL]⟩
   ·exact .rfl
  ·exact .rfl
 split
 ·unfold qbc;split
  ·split
   ·split
    ·exact .rfl
    ·split
     ·exact qJM c _ _ _
     ·exact .rfl
   ·exact .rfl
  ·exact .rfl
 split
 ·unfold qbx;split
  ·split
   ·split
    ·exact .links rfl rfl
    ·exact .rfl
   ·exact .rfl
  ·exact .rfl
 ·exact .rfl
theorem qgC{α:Type}{f:α→List D}{xs:List α}{a:α}:(xs++[a]).map f=xs.map f++[f a]:=by simp
def qah:Cluster→List Pick→Cluster×List Bool
 | c,[]=>(c,[])
 | c,p::l=>((qah (stepPick c p).1 l).1,(stepPick c p).2::(qah (stepPick c p).1 l).2)
theorem qsp(p:Pick):∀(l:List Pick) (c:Cluster),qah c (l++[p])=((stepPick (qah c l).1 p).1,(qah c l).2++[(stepPick (qah c l).1 p).2])
 | [],c=>rfl
 | q::l,c=>by
  have ih:=qsp p l (stepPick c q).1;simp only[List.cons_append,qah,ih]
theorem qj5{l:List Pick}{i:Nat}{p:Pick}(c:Cluster)(h:l[i]?=some p):qah c (l.take (i+1))=((stepPick (qah c (l.take i)).1 p).1,(qah c (l.take i)).2++[(stepPick (qah c (l.take i)).1 p).2]):=by
 rw[zbe,h,zcp,qsp]
theorem qhU:∀(l:List Pick) (c:Cluster),(qah c l).2.length=l.length
 | [],_=>rfl
 | q::l,c=>by simp only[qah,zq,qhU l]
theorem qhV:∀(l:List Pick) (c:Cluster),(qah c l).1.sz≤c.sz+4*l.length
 | [],c=>zO _
 | q::l,c=>by
  have:=qhV l (stepPick c q).1;have:=qso c q;simp only[qah,zq];omega
theorem Kept'.trans{c d e:Cluster}(h:Kept' c d)(k:Kept' d e):Kept' c e:=⟨k.graph.trans h.graph,fun x=>k.got (h.got x),k.wlen.trans h.wlen⟩
theorem qgD:∀(l:List Pick) (c:Cluster),Kept' c (qah c l).1
 | [],_=>.rfl
 | q::l,c=>(qm9 c q).trans (qgD l _)
theorem qgE{α:Type}(i:Nat)(l:List α):(l.take i).length≤l.length:=by rw[zay];omega
theorem qj6(c:Cluster)(l:List Pick)(i:Nat):(qah c (l.take i)).1.sz≤c.sz+4*l.length:=by
 have:=qhV (l.take i) c;have:=qgE i l;omega
def didOf(l:List Bool):Nat:=(l.filter id).length
theorem qsq(l:List Bool):didOf l≤l.length:=zat _ _
theorem qsr(l:List Bool)(b:Bool):didOf (l++[b])=didOf l+(if b then 1 else 0):=by
 cases b<;>simp[didOf]
