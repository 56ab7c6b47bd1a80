/- The picks and StepPick: what program and reference compute (printed by mkp50.py). -/
import Derived.Test.YtdkobdhckkjmeaaGreatP72
import Derived.Test.YtdkobdhckkjmeaaGreatP42
import Derived.Test.YtdkobdhckkjmeaaGreatP43
import Derived.Test.YtdkobdhckkjmeaaGreatGX
import Derived.Test.YtdkobdhckkjmeaaGreatGW
set_option linter.unusedVariables false
set_option linter.unusedSimpArgs false
namespace Go.Proofs.YtdkobdhckkjmeaaGreat
open Go.Sx Go.RowKit Go.Proofs.Tryz
theorem qtO{c:Cluster}{w:Int}(h:wAt c w=none):inR w 0 ((↑(c.workers.map Worker.e).length:Int)-1)=false:=by
 unfold wAt at h;simp only[inR,zb,zf];split at h
 ·rw[List.getElem?_eq_none_iff]at h;omega
 ·omega
theorem qkp{c:Cluster}{w:Int}{x:Worker}(h:wAt c w=some x):inR w 0 ((↑(c.workers.map Worker.e).length:Int)-1)=true:=by
 obtain⟨h1,h2,_⟩:=qaC h;simp only[inR,zb,zi];omega
theorem qgX{c:Cluster}{i:Int}{x:Link}(h:lAt c i=some x):0≤i∧i<(↑(c.links.map Link.e).length:Int)∧(c.links.map Link.e)[i.toNat]?=some x.e:=by
 obtain⟨h1,h2,h3⟩:=qbl h;exact⟨h1,by rw[zb];omega,qad Link.e h3⟩
theorem qgY{c:Cluster}{i:Int}{x:Link}(h:lAt c i=some x)(hc:c.sz≤8388608):x.sz≤8388608:=Cluster.link_sz1 hc (qag (qbl h).2.2)
theorem qnE{c:Cluster}{i:Int}{x:Link}(h:lAt c i=some x)(hw:GotLe c):x.got≤9223372036854775807:=hw _ (qag (qbl h).2.2)
theorem wlen1{c:Cluster}(hc:c.sz≤8388608):inInt .i64 ((↑(c.workers.map Worker.e).length:Int)-1):=by
 have:=Cluster.wlen_le hc;exact⟨by rw[zb];omega,by rw[zb];omega⟩
theorem qnF(c:Cluster)(w:Int)(y:Worker):(setW c w y).e=[.sl 4 (c.graph.nodes.map Node.e),I c.graph.workers,I c.graph.cap,.sl 8 ((c.workers.map Worker.e).set w.toNat y.e),.sl 6 (c.links.map Link.e),.sl 5 (c.tokens.map Token.e),.sl 3 (c.news.map News.e)]:=by simp only[setW,Cluster.e,zau]
theorem qPs(c:Cluster)(i:Int)(y:Link):(setL c i y).e=[.sl 4 (c.graph.nodes.map Node.e),I c.graph.workers,I c.graph.cap,.sl 8 (c.workers.map Worker.e),.sl 6 ((c.links.map Link.e).set i.toNat y.e),.sl 5 (c.tokens.map Token.e),.sl 3 (c.news.map News.e)]:=by simp only[setL,Cluster.e,zau]
theorem qtP(c:Cluster)(w i:Int)(y:Worker)(z:Link):(setW (setL c i z) w y).e=[.sl 4 (c.graph.nodes.map Node.e),I c.graph.workers,I c.graph.cap,.sl 8 ((c.workers.map Worker.e).set w.toNat y.e),.sl 6 ((c.links.map Link.e).set i.toNat z.e),.sl 5 (c.tokens.map Token.e),.sl 3 (c.news.map News.e)]:=by simp only[setW,setL,Cluster.e,zau]
theorem qiq(c:Cluster)(w:Int)(y:Worker)(b:Bool):runD (setW c w y) b=[.sl 4 (c.graph.nodes.map Node.e),I c.graph.workers,I c.graph.cap,.sl 8 ((c.workers.map Worker.e).set w.toNat y.e),.sl 6 (c.links.map Link.e),.sl 5 (c.tokens.map Token.e),.sl 3 (c.news.map News.e),B b]:=by simp only[setW,runD,zau]
theorem qtQ(c:Cluster)(i:Int)(y:Link)(b:Bool):runD (setL c i y) b=[.sl 4 (c.graph.nodes.map Node.e),I c.graph.workers,I c.graph.cap,.sl 8 (c.workers.map Worker.e),.sl 6 ((c.links.map Link.e).set i.toNat y.e),.sl 5 (c.tokens.map Token.e),.sl 3 (c.news.map News.e),B b]:=by simp only[setL,runD,zau]
theorem qnG(c:Cluster)(w i:Int)(y:Worker)(z:Link)(b:Bool):runD (setW (setL c i z) w y) b=[.sl 4 (c.graph.nodes.map Node.e),I c.graph.workers,I c.graph.cap,.sl 8 ((c.workers.map Worker.e).set w.toNat y.e),.sl 6 ((c.links.map Link.e).set i.toNat z.e),.sl 5 (c.tokens.map Token.e),.sl 3 (c.news.map News.e),B b]:=by simp only[setW,setL,runD,zau]
theorem qnH(c:Cluster)(w:Int)(hc:c.sz≤8388608)(hw:GotLe c):Rt 187 [.agg c.e,.one (I w)] [.one (B (qai c&&(wAt c w).isSome))]:=by
 have k:=qhL c hc hw;cases ok:qai c with
 | false=>rw[ok]at k;exact qOi ⟨k,rfl,trivial⟩
 | true=>
  rw[ok]at k;cases hx:wAt c w with
  | none=>exact qty ⟨k,rfl,wlen1 hc,qaO _ _ _ _ (qtO hx),trivial⟩
  | some x=>exact qty ⟨k,rfl,wlen1 hc,qaO _ _ _ _ (qkp hx),trivial⟩
theorem qtR(c:Cluster)(a b:Int)(hc:c.sz≤8388608)(hw:GotLe c):Rt 194 [.agg c.e,.one (I a),.one (I b)] [.one (I (if qai c&&a != b then qav c.graph a b else -1))]:=by
 have k:=qhL c hc hw;cases ok:qai c with
 | false=>rw[ok]at k;exact qOj ⟨k,rfl,trivial⟩
 | true=>
  rw[ok]at k;by_cases hab:a=b
  ·rw[show (true&&a != b)=false by simp[hab]];exact qOk ⟨k,rfl,by simp[hab],trivial⟩
  ·rw[show (true&&a != b)=true by simp[hab],zp rfl];exact qOl ⟨k,rfl,by simp[hab],qtL c.graph a b (qa7 (qaH.1 ok).1),trivial⟩
theorem qPt(c:Cluster)(w:Int)(hc:c.sz≤8388608)(hw:GotLe c):Rt 76 [.agg c.e,.one (I w)] [.agg (qbr c w).1.e,.one (B (qbr c w).2)]:=by
 have cp:=qde c hc;have k:=qnH c w hc hw;cases ok:qai c with
 | false=>
  rw[ok]at k;rw[show qbr c w=(c,false) by unfold qbr;simp[ok]];exact qtw ⟨cp,k,rfl,trivial⟩
 | true=>
 cases hx:wAt c w with
 | none=>
  rw[ok,hx]at k;rw[show qbr c w=(c,false) by unfold qbr;simp[hx]];exact qtw ⟨cp,k,rfl,trivial⟩
 | some x=>
  rw[ok,hx]at k;obtain⟨wE0,wE1,wE2⟩:=qb1 hx;rw[show qbr c w=(setW c w (qaY c.graph x).1,(qaY c.graph x).2) by unfold qbr;simp[ok,hx]];dsimp only;rw[qnF];exact qNJ ⟨cp,k,rfl,wE0,wE1,wE2,qPq c.graph x (Cluster.graph_sz1 hc) (qcc hx hc),wE0,wE1,wE2,trivial⟩
theorem qPu(c:Cluster)(w:Int)(hc:c.sz≤8388608)(hw:GotLe c):Rt 71 [.agg c.e,.one (I w)] [.agg (qbs c w).1.e,.one (B (qbs c w).2)]:=by
 have cp:=qde c hc;have k:=qnH c w hc hw;cases ok:qai c with
 | false=>
  rw[ok]at k;rw[show qbs c w=(c,false) by unfold qbs;simp[ok]];exact qtt ⟨cp,k,rfl,trivial⟩
 | true=>
 cases hx:wAt c w with
 | none=>
  rw[ok,hx]at k;rw[show qbs c w=(c,false) by unfold qbs;simp[hx]];exact qtt ⟨cp,k,rfl,trivial⟩
 | some x=>
  rw[ok,hx]at k;obtain⟨wE0,wE1,wE2⟩:=qb1 hx;rw[show qbs c w=(setW c w (qaZ c.graph x).1,(qaZ c.graph x).2) by unfold qbs;simp[ok,hx]];dsimp only;rw[qnF];exact qNC _ _ _ _ _ _ _ _ _ _ _ _ _ _ _ _ _ _ _ _ _ _ _ _ _ _ _ _ _ _ _ _ _ _ _ _ _ _ _ _ _ ⟨cp,k,rfl,wE0,wE1,wE2,qPr c.graph x (Cluster.graph_sz1 hc) (qcc hx hc),wE0,wE1,wE2,trivial⟩
theorem qkq{c:Cluster}{w:Int}{x:Worker}(ok:qai c=true)(hx:wAt c w=some x):x.sums.length=4∧x.black.length=4∧x.caps.length=4∧(∀e:Int,0≤e∧e≤3→-1000000≤x.sums.getD e.toNat 0∧x.sums.getD e.toNat 0≤1000000):=by
 obtain⟨_,_,_,_,k5,k6,k7,_,k9,_⟩:=qbd.1 (qbu ok hx);refine⟨k5,k6,k7,fun e he=>?_⟩;have hl:e.toNat<x.sums.length:=by omega
 rw[zP]at k9;have:=k9 _ (zax hl);rw[zN,zu hl,zV];simpa only[qcy,zS,zX,inR,zi,zbt,Bool.not_not,Bool.not_eq_eq_eq_not,zZ,zf,Classical.not_not]using this
theorem qtS{c:Cluster}{w:Int}{x:Worker}{r:Record}{t:List Record}(ok:qai c=true)(hx:wAt c w=some x)(hs:x.staged=r::t):qbk c w=qc9 c w x r t (qaw r.key c.graph.workers):=by
 unfold qbk;rw[zp ok,hx];dsimp only;rw[hs]
theorem qtT{c:Cluster}{w:Int}{x:Worker}{r:Record}{t:List Record}{o:Int}(h:o=w):qc9 c w x r t o=(setW c w (kept (qbf x t) r),true):=zp h
theorem qtU{c:Cluster}{w:Int}{x:Worker}{r:Record}{t:List Record}{o:Int}{l:Link}(h:o≠w)(hl:lAt c (qav c.graph w o)=some l):qc9 c w x r t o=if (qay l r).2 then (setW (setL c (qav c.graph w o) (qay l r).1) w (qbY (qbf x t) r.stamp.epoch),true) else (c,false):=by
 unfold qc9;rw[zo h,hl]
theorem qPv(c:Cluster)(w:Int)(hc:c.sz≤8388608)(hw:GotLe c):Rt 64 [.agg c.e,.one (I w)] [.agg (qbk c w).1.e,.one (B (qbk c w).2)]:=by
 have cp:=qde c hc;have k:=qnH c w hc hw;cases ok:qai c with
 | false=>
  rw[ok]at k;rw[show qbk c w=(c,false) by unfold qbk;simp[ok]];exact qtu ⟨cp,k,rfl,trivial⟩
 | true=>
 cases hx:wAt c w with
 | none=>
  rw[ok,hx]at k;rw[show qbk c w=(c,false) by unfold qbk;simp[hx]];exact qtu ⟨cp,k,rfl,trivial⟩
 | some x=>
 rw[ok,hx]at k;obtain⟨wE0,wE1,wE2⟩:=qb1 hx;have hn:=qa7 (qaH.1 ok).1;cases hs:x.staged with
 | nil=>
  rw[show qbk c w=(c,false) by unfold qbk;rw[zp ok,hx];dsimp only;rw[hs]];exact qND ⟨cp,k,rfl,wE0,wE1,wE2,len_f hs,trivial⟩
 | cons r t=>
  have hsz:=qcc hx hc;have hun:(qbf x t).sz≤8388608:=by have:=qr9 hs;omega
  have un:=qPp x r t hsz hs;have ow:=qmI r.key c.graph.workers (by omega);have hr:=(qjZ (qbu ok hx) hs).2;have he:=qdB hr;obtain⟨f4,_,_,fs⟩:=qkq ok hx;rw[qtS ok hx hs];have oin:=qhN r.key hn.1;generalize qaw r.key c.graph.workers=o at ow oin;by_cases how:o=w
  ·rw[qtT how];dsimp only;rw[qnF];exact qNE ⟨cp,k,rfl,wE0,wE1,wE2,len_t hs,wE0,wE1,wE2,un,ow,by rw[zE];exact how,qtN (qbf x t) r hun,wE0,wE1,wE2,trivial⟩
  ·have hbo:(o==w)=false:=by rw[zQ,zcc,zE];exact how
   have win:inR w 0 (c.graph.workers-1)=true:=by
    have:=qkp hx;rwa[zb,(qaH.1 ok).2.1]at this
   obtain⟨l,hl⟩:=qfD ok win oin;obtain⟨lE0,lE1,lE2⟩:=qgX hl;have lp:=qtL c.graph w o hn;have so:=qPj l r (qgY hl hc) (qnE hl hw);rw[qtU how hl];cases h6:(qay l r).2 with
   | false=>
    rw[h6]at so;exact qNF ⟨cp,k,rfl,wE0,wE1,wE2,len_t hs,wE0,wE1,wE2,un,ow,hbo,lp,lE0,lE1,lE2,so,rfl,trivial⟩
   | true=>
    rw[h6]at so;rw[zp rfl];dsimp only;rw[qtP];exact qNG ⟨cp,k,rfl,wE0,wE1,wE2,len_t hs,wE0,wE1,wE2,un,ow,hbo,lp,lE0,lE1,lE2,so,rfl,lE0,lE1,lE2,qPo (qbf x t) r.stamp.epoch hun f4 he (fs _ he),wE0,wE1,wE2,trivial⟩
theorem qkr{c:Cluster}{a b:Int}(h:(inR a 0 (c.graph.workers-1)&&inR b 0 (c.graph.workers-1))=false):lAt c (qav c.graph a b)=none:=by
 rw[qdW h];rfl
theorem qtV{c:Cluster}{a b:Int}{l:Link}{x:Worker}(ok:qai c=true)(hab:a≠b)(hl:lAt c (qav c.graph a b)=some l)(hx:wAt c b=some x):qbw c a b=if (qaq l).2.2 then (setW (setL c (qav c.graph a b) (qaq l).1) b (received x (qaq l).2.1),true) else (c,false):=by
 unfold qbw;rw[zp (by simp[ok,hab]),hl,hx]
theorem qtW{c:Cluster}{a b:Int}{l:Link}(ok:qai c=true)(hab:a≠b)(hl:lAt c (qav c.graph a b)=some l):qbt c a b=(setL c (qav c.graph a b) (qaQ l).1,(qaQ l).2):=by
 unfold qbt;rw[zp (by simp[ok,hab]),hl]
theorem qPw(c:Cluster)(a b:Int)(hc:c.sz≤8388608)(hw:GotLe c):Rt 67 [.agg c.e,.one (I a),.one (I b)] [.agg (qbw c a b).1.e,.one (B (qbw c a b).2)]:=by
 have cp:=qde c hc;have k:=qtR c a b hc hw;cases h1:(qai c&&a != b) with
 | false=>
  rw[h1,zo (by decide)]at k;rw[show qbw c a b=(c,false) by unfold qbw;rw[h1];rfl];exact qtv ⟨cp,k,dT (by decide),trivial⟩
 | true=>
 rw[h1,zp rfl]at k;rw[zj]at h1;obtain⟨ok,hab⟩:=h1;have hab:a≠b:=by simpa using hab
 have hn:=qa7 (qaH.1 ok).1;cases hh:(inR a 0 (c.graph.workers-1)&&inR b 0 (c.graph.workers-1)) with
 | false=>
  rw[qdW hh]at k;rw[show qbw c a b=(c,false) by unfold qbw;rw[qkr hh];split<;>rfl];exact qtv ⟨cp,k,dT (by decide),trivial⟩
 | true=>
 rw[zj]at hh;obtain⟨l,hl⟩:=qfD ok hh.1 hh.2;obtain⟨x,hx⟩:∃x,wAt c b=some x:=by
  have hb:=hh.2;have:=(qaH.1 ok).2.1;simp only[inR,zi]at hb;exact qcA (by omega) (by omega)
 obtain⟨lE0,lE1,lE2⟩:=qgX hl;obtain⟨wE0,wE1,wE2⟩:=qb1 hx;have tf:=qPk l (qgY hl hc) (qnE hl hw);rw[qtV ok hab hl hx];cases h6:(qaq l).2.2 with
 | false=>
  rw[h6]at tf;exact qNH ⟨cp,k,dF (by omega),lE0,lE1,lE2,tf,rfl,trivial⟩
 | true=>
  rw[h6]at tf;have he:=qdB (qj0 (qda ok hl) h6).2;obtain⟨f4,fb,_,fs⟩:=qkq ok hx;rw[zp rfl];dsimp only;rw[qtP];exact qNI ⟨cp,k,dF (by omega),lE0,lE1,lE2,tf,rfl,lE0,lE1,lE2,wE0,wE1,wE2,qPn x _ (qcc hx hc) f4 fb he (fs _ he),wE0,wE1,wE2,trivial⟩
theorem qPx(c:Cluster)(a b:Int)(hc:c.sz≤8388608)(hw:GotLe c):Rt 69 [.agg c.e,.one (I a),.one (I b)] [.agg (qbt c a b).1.e,.one (B (qbt c a b).2)]:=by
 have cp:=qde c hc;have k:=qtR c a b hc hw;cases h1:(qai c&&a != b) with
 | false=>
  rw[h1,zo (by decide)]at k;rw[show qbt c a b=(c,false) by unfold qbt;rw[h1];rfl];exact qts ⟨cp,k,dT (by decide),trivial⟩
 | true=>
 rw[h1,zp rfl]at k;rw[zj]at h1;obtain⟨ok,hab⟩:=h1;have hab:a≠b:=by simpa using hab
 cases hh:(inR a 0 (c.graph.workers-1)&&inR b 0 (c.graph.workers-1)) with
 | false=>
  rw[qdW hh]at k;rw[show qbt c a b=(c,false) by unfold qbt;rw[qkr hh];split<;>rfl];exact qts ⟨cp,k,dT (by decide),trivial⟩
 | true=>
 rw[zj]at hh;obtain⟨l,hl⟩:=qfD ok hh.1 hh.2;obtain⟨lE0,lE1,lE2⟩:=qgX hl;rw[qtW ok hab hl];dsimp only;rw[qPs];exact qNB _ _ _ _ _ _ _ _ _ _ _ _ _ _ _ _ _ _ _ _ _ _ _ _ _ _ _ _ _ _ _ _ _ _ _ _ ⟨cp,k,dF (by omega),lE0,lE1,lE2,qPl l (qgY hl hc) (qnE hl hw),lE0,lE1,lE2,trivial⟩
theorem qnI(c:Cluster)(w:Int)(hc:c.sz≤8388608):RetR prog 286 [.ref (runE c) (runE c),.ro (.one (I w))] (.vals [.one (B (qai c&&(wAt c w).isSome))]):=by
 unfold runE;cases ok:qai c with
 | false=>exact qON ⟨rfl,trivial⟩
 | true=>
  cases hx:wAt c w with
  | none=>exact qtE ⟨rfl,wlen1 hc,qaK _ _ _ _ (qtO hx),trivial⟩
  | some x=>exact qtE ⟨rfl,wlen1 hc,qaK _ _ _ _ (qkp hx),trivial⟩
def sumW(x:Worker)(e d:Int):Worker:=⟨x.queue,x.staged,x.inputs,x.cells,incAt x.sums e d,x.black,x.caps,x.dones⟩
theorem qtX(w:Worker)(e d:Int):(sumW w e d).e=[.sl 5 (w.queue.map Record.e),.sl 5 (w.staged.map Record.e),.sl 5 (w.inputs.map Record.e),.sl 4 (w.cells.map Cell.e),.sl 1 ((w.sums.map eI).set e.toNat [I (w.sums.getD e.toNat 0+d)]),.sl 1 (w.black.map eB),.sl 1 (w.caps.map eB),.sl 2 (w.dones.map Done.e)]:=by
 simp only[sumW,incAt,Worker.e,zau];rfl
theorem qtY(c:Cluster)(w e d:Int)(x:Worker)(hx:wAt c w=some x)(h4:x.sums.length=4)(he:0≤e∧e≤3)(hd:-1≤d∧d≤1)(hs:-1000000≤x.sums.getD e.toNat 0∧x.sums.getD e.toNat 0≤1000000):
  RetR prog 288 [.ref (runD c true) (runD (setW c w (sumW x e d)) (inR (x.sums.getD e.toNat 0+d) (-1000000) 1000000)),.ro (.one (I w)),.ro (.one (I e)),.ro (.one (I d))] (.vals []):=by
 obtain⟨wE0,wE1,wE2⟩:=qb1 hx;obtain⟨s1,s2⟩:=int4 h4 he;rw[qiq,qtX];exact qOS ⟨wE0,wE1,wE2,wE0,wE1,wE2,he.1,s1,s2,⟨by omega,by omega⟩,he.1,s1,s2,wE2,rfl,rfl,rfl,rfl,rfl,wE0,by rw[zn];exact wE1,gs1 wE0 wE1,he.1,by rw[zn];exact s1,gs1 he.1 s1,qbo _ _ _,trivial⟩
theorem qPy(c:Cluster)(w:Int)(hc:c.sz≤8388608):RetR prog 204 [.ref (runE c) (runE (qbr c w).1),.ro (.one (I w))] (.vals [.one (B (qbr c w).2)]):=by
 have post:=fun h=>qr2 (c:=c) (w:=w) h
 have is:=qnI c w hc;cases ok:qai c with
 | false=>
  rw[ok]at is;rw[show qbr c w=(c,false) by unfold qbr;simp[ok]];exact qtG ⟨is,rfl,trivial⟩
 | true=>
 replace post:=post ok;cases hx:wAt c w with
 | none=>
  rw[ok,hx]at is;rw[show qbr c w=(c,false) by unfold qbr;simp[hx]];exact qtG ⟨is,rfl,trivial⟩
 | some x=>
 rw[ok,hx]at is;obtain⟨wE0,wE1,wE2⟩:=qb1 hx;have hsz:=qcc hx hc;have gok:=(qaH.1 ok).1;have wok:=qbu ok hx;have hu:qaY c.graph x=match x.staged,x.queue with
  | [],r::q=>(⟨q,(qau c.graph x.cells r).2.1,x.inputs,(qau c.graph x.cells r).1,x.sums,x.black,(if capped c.graph r then x.caps.set r.stamp.epoch.toNat true else x.caps),x.dones⟩,true)
  | _,_=>(x,false):=by unfold qaY;rw[gok,wok];rfl
 have pe:qbr c w=(setW c w (qaY c.graph x).1,(qaY c.graph x).2):=by unfold qbr;simp[ok,hx]
 cases h3:x.staged with
 | cons r q=>
  rw[pe,show qaY c.graph x=(x,false) by rw[hu,h3]];dsimp only;rw[qdV hx];exact qOY ⟨is,rfl,wE0,wE1,wE2,pos_t h3,trivial⟩
 | nil=>
 cases h4:x.queue with
 | nil=>
  rw[pe,show qaY c.graph x=(x,false) by rw[hu,h3,h4]];dsimp only;rw[qdV hx];exact qOZ ⟨is,rfl,wE0,wE1,wE2,pos_f h3,len_f h4,trivial⟩
 | cons r q=>
  have hcl:x.cells.length≤8388608:=by simp only[Worker.sz]at hsz;omega
  have hql:x.queue.length≤8388608:=by simp only[Worker.sz]at hsz;omega
  have hg:=Cluster.graph_sz1 hc;have st:=qH3 c.graph x.cells r hg hcl;have ca:=qH6 c.graph r hg;obtain⟨k1,_,_,_,_,_,k7,_⟩:=qbd.1 wok;rw[h4,qdb]at k1;have he:=qdB k1.1;obtain⟨c1,c2⟩:=bool4 k7 he;unfold runE at is ⊢;rw[post];rw[ok]at is ⊢;cases h5:capped c.graph r with
  | true=>
   rw[h5]at ca;rw[pe,show qaY c.graph x=(⟨q,(qau c.graph x.cells r).2.1,x.inputs,(qau c.graph x.cells r).1,x.sums,x.black,x.caps.set r.stamp.epoch.toNat true,x.dones⟩,true) by rw[hu,h3,h4];simp only[h5,zbb]];have e:Worker.e ⟨q,(qau c.graph x.cells r).2.1,x.inputs,(qau c.graph x.cells r).1,x.sums,x.black,x.caps.set r.stamp.epoch.toNat true,x.dones⟩=[.sl 5 ([]++((x.queue.map Record.e).drop 1).take ((x.queue.map Record.e).length-1)),.sl 5 ((qau c.graph x.cells r).2.1.map Record.e),.sl 5 (x.inputs.map Record.e),.sl 4 ((qau c.graph x.cells r).1.map Cell.e),.sl 1 (x.sums.map eI),.sl 1 (x.black.map eB),.sl 1 ((x.caps.map eB).set r.stamp.epoch.toNat [B true]),.sl 2 (x.dones.map Done.e)]:=by
    rw[qip h4];simp only[Worker.e,zau];rfl
   dsimp only;rw[qiq,e];have key:=qO0 ⟨is,rfl,wE0,wE1,wE2,pos_f h3,len_t h4,by omega,qcq h4,qcY h4,st,cut_a,cut_b h4,cut_c,qgT h4 hql,qgU h4 hql,qgV h4,ca,rfl,he.1,c1,c2,wE2,rfl,rfl,rfl,rfl,wE0,by rw[zn];exact wE1,gs1 wE0 wE1,rfl,rfl,rfl,rfl,rfl,trivial⟩;simp only[zam]at key;exact key
  | false=>
   rw[h5]at ca;rw[pe,show qaY c.graph x=(⟨q,(qau c.graph x.cells r).2.1,x.inputs,(qau c.graph x.cells r).1,x.sums,x.black,x.caps,x.dones⟩,true) by rw[hu,h3,h4];simp only[h5];rfl];have e:Worker.e ⟨q,(qau c.graph x.cells r).2.1,x.inputs,(qau c.graph x.cells r).1,x.sums,x.black,x.caps,x.dones⟩=[.sl 5 ([]++((x.queue.map Record.e).drop 1).take ((x.queue.map Record.e).length-1)),.sl 5 ((qau c.graph x.cells r).2.1.map Record.e),.sl 5 (x.inputs.map Record.e),.sl 4 ((qau c.graph x.cells r).1.map Cell.e),.sl 1 (x.sums.map eI),.sl 1 (x.black.map eB),.sl 1 (x.caps.map eB),.sl 2 (x.dones.map Done.e)]:=by
    rw[qip h4];rfl
   dsimp only;rw[qiq,e];exact qO1 ⟨is,rfl,wE0,wE1,wE2,pos_f h3,len_t h4,by omega,qcq h4,qcY h4,st,cut_a,cut_b h4,cut_c,qgT h4 hql,qgU h4 hql,qgV h4,ca,rfl,wE0,wE1,wE2,rfl,rfl,rfl,rfl,rfl,trivial⟩
theorem qPz(c:Cluster)(w:Int)(hc:c.sz≤8388608):RetR prog 205 [.ref (runE c) (runE (qbs c w).1),.ro (.one (I w))] (.vals [.one (B (qbs c w).2)]):=by
 have post:=fun h=>qr3 (c:=c) (w:=w) h
 have is:=qnI c w hc;cases ok:qai c with
 | false=>
  rw[ok]at is;rw[show qbs c w=(c,false) by unfold qbs;simp[ok]];exact qtD ⟨is,rfl,trivial⟩
 | true=>
 replace post:=post ok;cases hx:wAt c w with
 | none=>
  rw[ok,hx]at is;rw[show qbs c w=(c,false) by unfold qbs;simp[hx]];exact qtD ⟨is,rfl,trivial⟩
 | some x=>
 rw[ok,hx]at is;obtain⟨wE0,wE1,wE2⟩:=qb1 hx;have hsz:=qcc hx hc;have gok:=(qaH.1 ok).1;have wok:=qbu ok hx;have hil:x.inputs.length≤8388608:=by simp only[Worker.sz]at hsz;omega
 have hu:qaZ c.graph x=match x.staged,x.queue,x.inputs with
  | [],[],r::t=>(⟨[r],[],t,x.cells,x.sums,x.black,x.caps,x.dones⟩,true)
  | _,_,_=>(x,false):=by unfold qaZ;rw[gok,wok];rfl
 have pe:qbs c w=(setW c w (qaZ c.graph x).1,(qaZ c.graph x).2):=by unfold qbs;simp[ok,hx]
 cases h3:x.staged with
 | cons r q=>
  rw[pe,show qaZ c.graph x=(x,false) by rw[hu,h3]];dsimp only;rw[qdV hx];exact qOJ ⟨is,rfl,wE0,wE1,wE2,pos_t h3,trivial⟩
 | nil=>
 cases h4:x.queue with
 | cons r q=>
  rw[pe,show qaZ c.graph x=(x,false) by rw[hu,h3,h4]];dsimp only;rw[qdV hx];exact qOK ⟨is,rfl,wE0,wE1,wE2,pos_f h3,pos_t h4,trivial⟩
 | nil=>
 cases h5:x.inputs with
 | nil=>
  rw[pe,show qaZ c.graph x=(x,false) by rw[hu,h3,h4,h5]];dsimp only;rw[qdV hx];exact qOL ⟨is,rfl,wE0,wE1,wE2,pos_f h3,pos_f h4,len_f h5,trivial⟩
 | cons r t=>
  unfold runE at is ⊢;rw[post];rw[ok]at is ⊢;rw[pe,show qaZ c.graph x=(⟨[r],[],t,x.cells,x.sums,x.black,x.caps,x.dones⟩,true) by rw[hu,h3,h4,h5]];have e:Worker.e ⟨[r],[],t,x.cells,x.sums,x.black,x.caps,x.dones⟩=[.sl 5 ([r.e]),.sl 5 (x.staged.map Record.e),.sl 5 ([]++((x.inputs.map Record.e).drop 1).take ((x.inputs.map Record.e).length-1)),.sl 4 (x.cells.map Cell.e),.sl 1 (x.sums.map eI),.sl 1 (x.black.map eB),.sl 1 (x.caps.map eB),.sl 2 (x.dones.map Done.e)]:=by
   rw[qip h5,h3];rfl
  dsimp only;rw[qiq,e];exact qOM ⟨is,rfl,wE0,wE1,wE2,pos_f h3,pos_f h4,len_t h5,by omega,qcq h5,qcY h5,cut_a,cut_b h5,cut_c,qgT h5 hil,qgU h5 hil,qgV h5,wE0,wE1,wE2,rfl,rfl,rfl,rfl,rfl,rfl,trivial⟩
theorem qPA(c:Cluster)(w:Int)(hc:c.sz≤8388608):RetR prog 192 [.ref (runE c) (runE (qbk c w).1),.ro (.one (I w))] (.vals [.one (B (qbk c w).2)]):=by
 have is:=qnI c w hc;cases ok:qai c with
 | false=>
  rw[ok]at is;rw[show qbk c w=(c,false) by unfold qbk;simp[ok]];exact qtF ⟨is,rfl,trivial⟩
 | true=>
 cases hx:wAt c w with
 | none=>
  rw[ok,hx]at is;rw[show qbk c w=(c,false) by unfold qbk;simp[hx]];exact qtF ⟨is,rfl,trivial⟩
 | some x=>
 rw[ok,hx]at is;obtain⟨wE0,wE1,wE2⟩:=qb1 hx;have hsz:=qcc hx hc;have hn:=qa7 (qaH.1 ok).1;cases hs:x.staged with
 | nil=>
  rw[show qbk c w=(c,false) by unfold qbk;rw[zp ok,hx];dsimp only;rw[hs]];exact qOO ⟨is,rfl,wE0,wE1,wE2,len_f hs,trivial⟩
 | cons r t=>
  have ow:=qq3 r.key c.graph.workers (by omega);have hr:=(qjZ (qbu ok hx) hs).2;have he:=qdB hr;have hql:x.queue.length≤8388608:=by simp only[Worker.sz]at hsz;omega
  have hsl:x.staged.length≤8388608:=by simp only[Worker.sz]at hsz;omega
  obtain⟨f4,_,_,fs⟩:=qkq ok hx;rw[qtS ok hx hs];have oin:=qhN r.key hn.1;generalize qaw r.key c.graph.workers=o at ow oin;by_cases how:o=w
  ·have hbo:(o != w)=false:=by simp[how]
   rw[qtT how];unfold runE at is ⊢;dsimp only;rw[qr0 ok hx hs];rw[ok]at is ⊢;have e:(kept (qbf x t) r).e=[.sl 5 (x.queue.map Record.e++[r.e]),.sl 5 ([]++((x.staged.map Record.e).drop 1).take ((x.staged.map Record.e).length-1)),.sl 5 (x.inputs.map Record.e),.sl 4 (x.cells.map Cell.e),.sl 1 (x.sums.map eI),.sl 1 (x.black.map eB),.sl 1 (x.caps.map eB),.sl 2 (x.dones.map Done.e)]:=by
    rw[qip hs,qnD];rfl
   rw[qiq,e];have key:=qOR ⟨is,rfl,wE0,wE1,wE2,len_t hs,wE0,wE1,wE2,by omega,qcq hs,qcY hs,ow,hbo,wE0,wE1,wE2,one_m hql,one_x hql,wE2,rfl,qat (Record.flat r),rfl,rfl,rfl,rfl,rfl,rfl,rfl,rfl,rfl,rfl,rfl,rfl,rfl,wE0,wE1,wE2,rfl,wE0,by rw[zn];exact wE1,gs1 wE0 wE1,cut_a,cut_b hs,cut_c,qgT hs hsl,qgU hs hsl,qgV hs,wE0,by rw[zn];exact wE1,gs1 wE0 wE1,trivial⟩;simp only[zam]at key;exact key
  ·have hbo:(o != w)=true:=by simp[how]
   have win:inR w 0 (c.graph.workers-1)=true:=by
    have:=qkp hx;rwa[zb,(qaH.1 ok).2.1]at this
   obtain⟨l,hl⟩:=qfD ok win oin;obtain⟨lE0,lE1,lE2⟩:=qgX hl;have lp:=qnC c.graph w o hn;have so:=qPg l r (qgY hl hc);have om:=fun h=>qrZ ok hx hs oin how hl h
   rw[qtU how hl];cases h6:(qay l r).2 with
   | false=>
    rw[h6]at so;exact qOP ⟨is,rfl,wE0,wE1,wE2,len_t hs,wE0,wE1,wE2,by omega,qcq hs,qcY hs,ow,hbo,lp,lE0,lE1,lE2,so,rfl,trivial⟩
   | true=>
    rw[h6]at so;rw[zp rfl];unfold runE at is ⊢;dsimp only;rw[om h6];rw[ok]at is ⊢;have su:=qtY (setL c (qav c.graph w o) (qay l r).1) w r.stamp.epoch 1 x (qhP.trans hx) f4 he (by omega) (fs _ he);rw[qtQ,qnG,qtX]at su;have e:(qbY (qbf x t) r.stamp.epoch).e=[.sl 5 (x.queue.map Record.e),.sl 5 ([]++((x.staged.map Record.e).drop 1).take ((x.staged.map Record.e).length-1)),.sl 5 (x.inputs.map Record.e),.sl 4 (x.cells.map Cell.e),.sl 1 ((x.sums.map eI).set r.stamp.epoch.toNat [I (x.sums.getD r.stamp.epoch.toNat 0+1)]),.sl 1 (x.black.map eB),.sl 1 (x.caps.map eB),.sl 2 (x.dones.map Done.e)]:=by
     rw[qip hs,qtM];rfl
    rw[qnG,e];have key:=qOQ ⟨is,rfl,wE0,wE1,wE2,len_t hs,wE0,wE1,wE2,by omega,qcq hs,qcY hs,ow,hbo,lp,lE0,lE1,lE2,so,rfl,lE0,lE1,lE2,su,wE0,by rw[zn];exact wE1,gs1 wE0 wE1,cut_a,cut_b hs,cut_c,qgT hs hsl,qgU hs hsl,qgV hs,wE0,by rw[zn];exact wE1,gs1 wE0 wE1,trivial⟩;simp only[zam]at key;exact key
theorem qPB(c:Cluster)(a b:Int)(hc:c.sz≤8388608):RetR prog 197 [.ref (runE c) (runE (qbw c a b).1),.ro (.one (I a)),.ro (.one (I b))] (.vals [.one (B (qbw c a b).2)]):=by
 cases ok:qai c with
 | false=>
  rw[show qbw c a b=(c,false) by unfold qbw;simp[ok]];obtain⟨v,lp⟩:=qtK c.graph a b;unfold runE;rw[ok];exact qOT ⟨lp,rfl,trivial⟩
 | true=>
 have hn:=qa7 (qaH.1 ok).1;have lp:=qnC c.graph a b hn;cases hh:(inR a 0 (c.graph.workers-1)&&inR b 0 (c.graph.workers-1)) with
 | false=>
  rw[qdW hh]at lp;rw[show qbw c a b=(c,false) by unfold qbw;rw[qkr hh];split<;>rfl];unfold runE;rw[ok];exact qOU ⟨lp,rfl,dT (by decide),trivial⟩
 | true=>
 rw[zj]at hh;obtain⟨l,hl⟩:=qfD ok hh.1 hh.2;obtain⟨lE0,lE1,lE2⟩:=qgX hl;by_cases hab:a=b
 ·rw[show qbw c a b=(c,false) by unfold qbw;simp[hab]];unfold runE;rw[ok];exact qOV ⟨lp,rfl,dF (by omega),by simp[hab],trivial⟩
 have hbo:(a==b)=false:=by simp[hab]
 obtain⟨x,hx⟩:∃x,wAt c b=some x:=by
  have hb:=hh.2;have:=(qaH.1 ok).2.1;simp only[inR,zi]at hb;exact qcA (by omega) (by omega)
 obtain⟨wE0,wE1,wE2⟩:=qb1 hx;have hsz:=qcc hx hc;have tf:=qPh l (qgY hl hc);have ot:=fun h=>qr1 ok hl hx h
 rw[qtV ok hab hl hx];unfold runE;cases h6:(qaq l).2.2 with
 | false=>
  rw[h6]at tf;rw[zo (by decide)];dsimp only;rw[ok];exact qOW ⟨lp,rfl,dF (by omega),hbo,lE0,lE1,lE2,tf,rfl,trivial⟩
 | true=>
  rw[h6]at tf;rw[zp rfl];dsimp only;rw[ot h6,ok];have hr:=(qj0 (qda ok hl) h6).2;have he:=qdB hr;generalize (qaq l).2.1=r at tf hr he ⊢;obtain⟨f4,fb,_,fs⟩:=qkq ok hx;have hql:x.queue.length≤8388608:=by simp only[Worker.sz]at hsz;omega
  obtain⟨b1,b2⟩:=bool4 fb he;have hx2:wAt (setW (setL c (qav c.graph a b) (qaq l).1) b ⟨x.queue++[r],x.staged,x.inputs,x.cells,x.sums,x.black.set r.stamp.epoch.toNat true,x.caps,x.dones⟩) b=some ⟨x.queue++[r],x.staged,x.inputs,x.cells,x.sums,x.black.set r.stamp.epoch.toNat true,x.caps,x.dones⟩:=by
   obtain⟨q1,q2,_⟩:=qaC hx;unfold wAt setW setL;rw[zp q1];exact List.getElem?_set_self q2
  have su:=qtY _ b r.stamp.epoch (-1) _ hx2 f4 he (by omega) (fs _ he);rw[qnG]at su;have e2:Worker.e ⟨x.queue++[r],x.staged,x.inputs,x.cells,x.sums,x.black.set r.stamp.epoch.toNat true,x.caps,x.dones⟩=[.sl 5 (x.queue.map Record.e++[r.e]),.sl 5 (x.staged.map Record.e),.sl 5 (x.inputs.map Record.e),.sl 4 (x.cells.map Cell.e),.sl 1 (x.sums.map eI),.sl 1 ((x.black.map eB).set r.stamp.epoch.toNat [B true]),.sl 1 (x.caps.map eB),.sl 2 (x.dones.map Done.e)]:=by
   simp only[Worker.e,zU,zau];rfl
  rw[e2,←zam]at su;rw[show setW (setW (setL c (qav c.graph a b) (qaq l).1) b ⟨x.queue++[r],x.staged,x.inputs,x.cells,x.sums,x.black.set r.stamp.epoch.toNat true,x.caps,x.dones⟩) b (sumW ⟨x.queue++[r],x.staged,x.inputs,x.cells,x.sums,x.black.set r.stamp.epoch.toNat true,x.caps,x.dones⟩ r.stamp.epoch (-1))=setW (setL c (qav c.graph a b) (qaq l).1) b (received x r) by unfold setW setL;simp only[zam];rfl]at su;exact qOX ⟨lp,rfl,dF (by omega),hbo,lE0,lE1,lE2,tf,rfl,lE0,lE1,lE2,wE0,wE1,wE2,one_m hql,one_x hql,wE2,rfl,qat (Record.flat r),rfl,rfl,rfl,rfl,rfl,rfl,rfl,wE0,wE1,wE2,rfl,wE0,by rw[zn];exact wE1,gs1 wE0 wE1,he.1,b1,b2,gs1 wE0 wE1,rfl,rfl,su,trivial⟩
theorem qPC(c:Cluster)(a b:Int)(hc:c.sz≤8388608):RetR prog 199 [.ref (runE c) (runE (qbt c a b).1),.ro (.one (I a)),.ro (.one (I b))] (.vals [.one (B (qbt c a b).2)]):=by
 have post:=fun h=>qr4 (c:=c) (a:=a) (b:=b) h
 cases ok:qai c with
 | false=>
  rw[show qbt c a b=(c,false) by unfold qbt;simp[ok]];obtain⟨v,lp⟩:=qtK c.graph a b;unfold runE;rw[ok];exact qOF ⟨lp,rfl,trivial⟩
 | true=>
 replace post:=post ok;have hn:=qa7 (qaH.1 ok).1;have lp:=qnC c.graph a b hn;unfold runE;rw[post,ok];cases hh:(inR a 0 (c.graph.workers-1)&&inR b 0 (c.graph.workers-1)) with
 | false=>
  rw[qdW hh]at lp;rw[show qbt c a b=(c,false) by unfold qbt;rw[qkr hh];split<;>rfl];exact qOG ⟨lp,rfl,dT (by decide),trivial⟩
 | true=>
 rw[zj]at hh;obtain⟨l,hl⟩:=qfD ok hh.1 hh.2;obtain⟨lE0,lE1,lE2⟩:=qgX hl;by_cases hab:a=b
 ·rw[show qbt c a b=(c,false) by unfold qbt;simp[hab]];exact qOH ⟨lp,rfl,dF (by omega),by simp[hab],trivial⟩
 rw[qtW ok hab hl];dsimp only;rw[qtQ];exact qOI ⟨lp,rfl,dF (by omega),by simp[hab],lE0,lE1,lE2,qPi l (qgY hl hc),lE0,lE1,lE2,trivial⟩
theorem qtZ(c:Cluster)(p:Pick)(hc:c.sz≤8388608):RetR prog 128 [.ref (runE c) (runE (stepPick c p).1),.ro (.agg p.e)] (.vals [.one (B (stepPick c p).2)]):=by
 by_cases h1:p.kind=1
 ·rw[show stepPick c p=qbr c p.a by unfold stepPick;simp[h1]];exact qO2 ⟨by rw[zE];exact h1,qPy c p.a hc,trivial⟩
 have n1:(p.kind==1)=false:=by rw[zQ,zcc,zE];exact h1
 by_cases h2:p.kind=2
 ·rw[show stepPick c p=qbs c p.a by unfold stepPick;simp[h2]];exact qO3 ⟨n1,by rw[zE];exact h2,qPz c p.a hc,trivial⟩
 have n2:(p.kind==2)=false:=by rw[zQ,zcc,zE];exact h2
 by_cases h3:p.kind=3
 ·rw[show stepPick c p=qbk c p.a by unfold stepPick;simp[h3]];exact qO4 ⟨n1,n2,by rw[zE];exact h3,qPA c p.a hc,trivial⟩
 have n3:(p.kind==3)=false:=by rw[zQ,zcc,zE];exact h3
 by_cases h4:p.kind=4
 ·rw[show stepPick c p=qbw c p.a p.b by unfold stepPick;simp[h4]];exact qO5 ⟨n1,n2,n3,by rw[zE];exact h4,qPB c p.a p.b hc,trivial⟩
 have n4:(p.kind==4)=false:=by rw[zQ,zcc,zE];exact h4
 by_cases h5:p.kind=5
 ·rw[show stepPick c p=qbt c p.a p.b by unfold stepPick;simp[h5]];exact qO6 ⟨n1,n2,n3,n4,by rw[zE];exact h5,qPC c p.a p.b hc,trivial⟩
 have n5:(p.kind==5)=false:=by rw[zQ,zcc,zE];exact h5
 by_cases h6:p.kind=6
 ·rw[show stepPick c p=qbc c p.a by unfold stepPick;simp[h6]];exact qO7 ⟨n1,n2,n3,n4,n5,by rw[zE];exact h6,qNi c p.a hc,trivial⟩
 have n6:(p.kind==6)=false:=by rw[zQ,zcc,zE];exact h6
 by_cases h7:p.kind=7
 ·rw[show stepPick c p=qbx c p.a by unfold stepPick;simp[h7]];exact qO8 ⟨n1,n2,n3,n4,n5,n6,by rw[zE];exact h7,qM8 c p.a hc,trivial⟩
 have n7:(p.kind==7)=false:=by rw[zQ,zcc,zE];exact h7
 rw[show stepPick c p=(c,false) by unfold stepPick;simp[h1,h2,h3,h4,h5,h6,h7]];exact qO9 ⟨n1,n2,n3,n4,n5,n6,n7,trivial⟩
theorem qt0(c:Cluster)(p:Pick)(hc:c.sz≤8388608)(hw:GotLe c):Rt 31 [.agg c.e,.agg p.e] [.agg (stepPick c p).1.e,.one (B (stepPick c p).2)]:=by
 by_cases h1:p.kind=1
 ·rw[show stepPick c p=qbr c p.a by unfold stepPick;simp[h1]];exact qNU ⟨by rw[zE];exact h1,qPt c p.a hc hw,trivial⟩
 have n1:(p.kind==1)=false:=by rw[zQ,zcc,zE];exact h1
 by_cases h2:p.kind=2
 ·rw[show stepPick c p=qbs c p.a by unfold stepPick;simp[h2]];exact qNV ⟨n1,by rw[zE];exact h2,qPu c p.a hc hw,trivial⟩
 have n2:(p.kind==2)=false:=by rw[zQ,zcc,zE];exact h2
 by_cases h3:p.kind=3
 ·rw[show stepPick c p=qbk c p.a by unfold stepPick;simp[h3]];exact qNW ⟨n1,n2,by rw[zE];exact h3,qPv c p.a hc hw,trivial⟩
 have n3:(p.kind==3)=false:=by rw[zQ,zcc,zE];exact h3
 by_cases h4:p.kind=4
 ·rw[show stepPick c p=qbw c p.a p.b by unfold stepPick;simp[h4]];exact qNX ⟨n1,n2,n3,by rw[zE];exact h4,qPw c p.a p.b hc hw,trivial⟩
 have n4:(p.kind==4)=false:=by rw[zQ,zcc,zE];exact h4
 by_cases h5:p.kind=5
 ·rw[show stepPick c p=qbt c p.a p.b by unfold stepPick;simp[h5]];exact qNY ⟨n1,n2,n3,n4,by rw[zE];exact h5,qPx c p.a p.b hc hw,trivial⟩
 have n5:(p.kind==5)=false:=by rw[zQ,zcc,zE];exact h5
 by_cases h6:p.kind=6
 ·rw[show stepPick c p=qbc c p.a by unfold stepPick;simp[h6]];exact qNZ ⟨n1,n2,n3,n4,n5,by rw[zE];exact h6,qNl c p.a hc hw,trivial⟩
 have n6:(p.kind==6)=false:=by rw[zQ,zcc,zE];exact h6
 by_cases h7:p.kind=7
 ·rw[show stepPick c p=qbx c p.a by unfold stepPick;simp[h7]];exact qN0 ⟨n1,n2,n3,n4,n5,n6,by rw[zE];exact h7,qM9 c p.a hc hw,trivial⟩
 have n7:(p.kind==7)=false:=by rw[zQ,zcc,zE];exact h7
 rw[show stepPick c p=(c,false) by unfold stepPick;simp[h1,h2,h3,h4,h5,h6,h7]];exact qN1 ⟨n1,n2,n3,n4,n5,n6,n7,qde c hc,trivial⟩
end Go.Proofs.YtdkobdhckkjmeaaGreat
namespace Go.Proofs.YtdkobdhckkjmeaaGreat
open Go.Sx Go.RowKit Go.Proofs.Tryz
theorem qPD(c:Cluster)(l:List Pick)(hc:c.sz+4*l.length≤8388608):
  qam prog (qaa f18 0) (qgS (l.map Pick.e) 0 [] (c.graph.nodes.map Node.e) c.graph.workers c.graph.cap (c.workers.map Worker.e) (c.links.map Link.e) (c.tokens.map Token.e) (c.news.map News.e) (qai c) 0 0) (.exit 0)
   (qnA ((qah c l).2.map eB) ((qah c l).1.graph.nodes.map Node.e) (qah c l).1.graph.workers (qah c l).1.graph.cap ((qah c l).1.workers.map Worker.e) ((qah c l).1.links.map Link.e) ((qah c l).1.tokens.map Token.e) ((qah c l).1.news.map News.e) (qai (qah c l).1) 0 0):=by
 have hl:l.length≤8388608:=by omega
 have k:=qao (P:=prog) (c:=(qaa f18 0)) (qaf 0) l.length (fun i:Nat=>qgS (l.map Pick.e) i ((qah c (l.take i)).2.map eB) ((qah c (l.take i)).1.graph.nodes.map Node.e) (qah c (l.take i)).1.graph.workers (qah c (l.take i)).1.graph.cap ((qah c (l.take i)).1.workers.map Worker.e) ((qah c (l.take i)).1.links.map Link.e) ((qah c (l.take i)).1.tokens.map Token.e) ((qah c (l.take i)).1.news.map News.e) (qai (qah c (l.take i)).1) 0 0) (fun i hi=>by
  obtain⟨p,hp⟩:=qal hi;have hn:=qhR (l.take i) c;have hs:=qj4 c l i;rw[qj3 c hp];dsimp only;rw[qgB];generalize qah c (l.take i)=o at*;exact qOu ⟨lt1 hi,lt0,lt2 hi,qac Pick.e hp,qtZ o.1 p (by omega),by simp[hn];omega,by simp[hn];omega,flatB [(stepPick o.1 p).2],up1 hi hl,trivial⟩) (qOv ⟨ge1,trivial⟩)
 rw[zC]at k;exact k
theorem qt1(c:Cluster)(l:List Pick)(hc:c.sz+4*l.length≤8388608)(hw:GotLe c):Rt 18 [.agg c.e,.one (.sl 3 (l.map Pick.e))] [.agg (qah c l).1.e,.one (.sl 1 ((qah c l).2.map eB))]:=
 qOw ⟨qnq c (by omega) hw,qPD c l hc,trivial⟩
def qa4(c:Cluster):Cluster×Nat:=((qah c (qaN c)).1,didOf (qah c (qaN c)).2)
theorem qir(c:Cluster):Kept' c (qa4 c).1:=qgC _ _
def qaD:Nat→Cluster→Nat→Cluster×Nat
 | 0,c,k=>(c,k)
 | n+1,c,k=>if (qa4 c).2=0 then ((qa4 c).1,k+1) else qaD n (qa4 c).1 (k+1)
def qcd(c:Cluster)(most:Int):Cluster×Nat:=qaD (qaU most 0 3000).toNat c 0
end Go.Proofs.YtdkobdhckkjmeaaGreat
