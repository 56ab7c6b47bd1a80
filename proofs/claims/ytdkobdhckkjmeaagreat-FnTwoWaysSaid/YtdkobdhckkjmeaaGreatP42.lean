/- Every step of a valid cluster: links, places, and how the cluster grows. -/
import Derived.Test.YtdkobdhckkjmeaaGreatP41
import Derived.Test.YtdkobdhckkjmeaaGreatP21
set_option linter.unusedVariables false
set_option linter.unusedSimpArgs false
namespace Go.Proofs.YtdkobdhckkjmeaaGreat
open Go.Sx Go.RowKit
theorem qcn{l:Link}:qbq l=true↔inR l.cap 1 4=true∧inR l.credits 0 l.cap=true∧inR l.back 0 l.cap=true∧l.credits+l.back+l.queue.length=l.cap∧inR l.sent 0 1000000000=true∧0≤l.got∧l.got=l.sent-l.queue.length∧(l.queue.any fun r=>!qaC r)=false:=by
 simp only[qbq,zj,zS,zE,zi,and_assoc]
theorem qcB{g:Graph}{i:Nat}{l:Link}:qbE g i l=false↔qbq l=true∧l.cap=g.cap∧qaW g l.queue=true∧((i:Int).tdiv g.workers=(i:Int).tmod g.workers→l.queue=[]):=by
 simp only[qbE,zy,zX,bne_eq_false_iff_eq,Bool.and_eq_false_imp,zE,zf];refine and_congr_right fun _=>and_congr_right fun _=>and_congr_right fun _=>imp_congr_right fun _=>?_
 cases l.queue with
 | nil=>simp
 | cons a q=>simp
theorem qJh{g:Graph}{i:Nat}{l:Link}{r:Record}(h:qbE g i l=false)(hr:qbB g r=false)(hs:(qaz l r).2=true)(hd:(i:Int).tdiv g.workers≠(i:Int).tmod g.workers):qbE g i (qaz l r).1=false:=by
 obtain⟨h1,h2,h3,h4⟩:=qcB.1 h;unfold qaz at hs ⊢;split
 ·rename_i hc;simp only[zj,bne_iff_ne,zcc,zi]at hc;obtain⟨⟨⟨_,hr2⟩,hcr⟩,hse⟩:=hc;obtain⟨k1,k2,k3,k4,k5,k6,k7,k8⟩:=qcn.1 h1;refine qcB.2 ⟨qcn.2 ⟨k1,?_,k3,?_,?_,k6,?_,?_⟩,h2,qm6.2 ⟨h3,hr⟩,fun e=>(hd e).elim⟩
  ·simp only[inR,zi]at k2 ⊢;omega
  ·simp only[zab,zq,zh];omega
  ·simp only[inR,zi]at k5 ⊢;omega
  ·simp only[zab,zq,zh];omega
  ·simp only[List.any_append,k8,zcg,List.any_nil,hr2,zZ,Bool.or_false]
 ·rename_i hc;rw[zo hc]at hs;cases hs
theorem qj7{g:Graph}{i:Nat}{l:Link}(h:qbE g i l=false)(hs:(qaq l).2.2=true):qbE g i (qaq l).1=false∧qbB g (qaq l).2.1=false:=by
 obtain⟨h1,h2,h3,h4⟩:=qcB.1 h;obtain⟨k1,k2,k3,k4,k5,k6,k7,k8⟩:=qcn.1 h1;unfold qaq at hs ⊢;rw[zp h1]at hs ⊢;split
 ·rename_i hq;rw[hq]at hs;cases hs
 ·rename_i r q hq;rw[hq]at h3 k8 k4 k7 h4;rw[qdc]at h3;rw[zcg,zy]at k8;simp only[zq]at k4 k7;refine⟨qcB.2 ⟨qcn.2 ⟨k1,k2,?_,?_,k5,?_,?_,k8.2⟩,h2,h3.2,fun e=>absurd (h4 e) (by simp)⟩,h3.1⟩
  ·simp only[inR,zi]at k2 k3 ⊢;omega
  ·dsimp only;omega
  ·dsimp only;omega
  ·dsimp only;omega
theorem qJi{g:Graph}{i:Nat}{l:Link}(h:qbE g i l=false):qbE g i (qaQ l).1=false:=by
 obtain⟨h1,h2,h3,h4⟩:=qcB.1 h;obtain⟨k1,k2,k3,k4,k5,k6,k7,k8⟩:=qcn.1 h1;unfold qaQ;split
 ·rename_i hc;simp only[zj,bne_iff_ne,zcc]at hc;refine qcB.2 ⟨qcn.2 ⟨k1,?_,?_,?_,k5,k6,k7,k8⟩,h2,h3,h4⟩
  ·simp only[inR,zi]at k2 k3 ⊢;omega
  ·simp only[inR,zi]at k2 k3 ⊢;omega
  ·dsimp only;omega
 ·exact h
theorem qeB{g:Graph}{a b:Int}(hn:1≤g.workers∧g.workers≤4)(ha:inR a 0 (g.workers-1)=true)(hb:inR b 0 (g.workers-1)=true):
  qaw g a b=a*g.workers+b∧0≤a*g.workers+b∧a*g.workers+b<g.workers*g.workers∧(a*g.workers+b).tdiv g.workers=a∧(a*g.workers+b).tmod g.workers=b:=by
 have e:qaw g a b=a*g.workers+b:=by unfold qaw;rw[ha,hb];rfl
 simp only[inR,zi]at ha hb;generalize g.workers=n at*;have h0:0≤a*n+b:=by have:=Int.mul_nonneg ha.1 (show 0≤n by omega);omega
 rw[Int.tdiv_eq_ediv_of_nonneg h0,Int.tmod_eq_emod_of_nonneg h0];have hn4:n=1∨n=2∨n=3∨n=4:=by omega
 refine⟨e,h0,?_⟩;rcases hn4 with rfl | rfl | rfl | rfl<;>omega
theorem qd0{g:Graph}{a b:Int}(h:(inR a 0 (g.workers-1)&&inR b 0 (g.workers-1))=false):qaw g a b=-1:=by
 unfold qaw;rw[h];rfl
theorem qhV(key:Int){n:Int}(hn:1≤n):inR (qay key n) 0 (n-1)=true:=by
 have h1:=qm2 key n (by omega);have h2:=Int.tmod_lt_of_pos key (show 0<n by omega);unfold qay;rw[zo (by omega)];simp only[inR,zi];split<;>omega
theorem qfJ{c:Cluster}(h:qai c=true){a b:Int}(ha:inR a 0 (c.graph.workers-1)=true)(hb:inR b 0 (c.graph.workers-1)=true):∃l,lAt c (qaw c.graph a b)=some l:=by
 obtain⟨h1,h2,h3,_⟩:=qaH.1 h;obtain⟨e,h0,hlt,_⟩:=qeB (qa8 h1) ha hb;rw[e];unfold lAt;rw[zp h0];exact qal (by omega)
theorem qhW{c:Cluster}{i:Int}{l:Link}(h:lAt c i=some l):((i.toNat:Nat):Int)=i:=by have:=(qbl h).1;omega
theorem qcC{c:Cluster}{i:Int}(h0:0≤i)(h1:i<c.workers.length):∃x,wAt c i=some x:=by
 unfold wAt;rw[zp h0];exact qal (by omega)
theorem qsg{c:Cluster}(h:qai c=true){e:Int}(he:inR e 0 3=true):∃t,tAt c e=some t:=by
 have h4:=(qaH.1 h).2.2.2.1;simp only[inR,zi]at he;unfold tAt;rw[zp he.1];exact qal (by omega)
theorem qdF{n:Int}{t:Token}:qbP n t=false↔(0≤t.place∧t.place≤n-1)∧(t.going=false→t.place=0)∧(-1000000≤t.sum∧t.sum≤1000000):=by
 simp only[qbP,inR,zy,zX,zi,Bool.and_eq_false_imp,zS,bne_eq_false_iff_eq]
theorem qhX{c:Cluster}{i j:Int}{l:Link}:wAt (setL c i l) j=wAt c j:=rfl
theorem qhY{c:Cluster}{i j:Int}{t:Token}:wAt (setT c i t) j=wAt c j:=rfl
theorem qsh{c:Cluster}{i:Int}{l:Link}:(setL c i l).graph=c.graph:=rfl
theorem qsi{c:Cluster}{i:Int}{t:Token}:(setT c i t).graph=c.graph:=rfl
theorem qJj{c:Cluster}{i:Int}{x:Worker}:(setW c i x).graph=c.graph:=rfl
theorem qsj{c:Cluster}{w o:Int}{x:Worker}{r:Record}{t:List Record}{l:Link}(h:qai c=true)(hx:wAt c w=some x)(hs:x.staged=r::t)
  (ho:inR o 0 (c.graph.workers-1)=true) (hne:o≠w) (hl:lAt c (qaw c.graph w o)=some l) (hsend:(qaz l r).2=true):
  qai (setW (setL c (qaw c.graph w o) (qaz l r).1) w (qbZ (qbf x t) r.stamp.epoch))=inR (x.sums.getD r.stamp.epoch.toNat 0+1) (-1000000) 1000000:=by
 obtain⟨h1,h2,_⟩:=qaH.1 h;obtain⟨w0,w1,_⟩:=qaD hx;obtain⟨ok,hr⟩:=qj6 (qbu h hx) hs;obtain⟨e,p0,p1,p2,p3⟩:=qeB (qa8 h1) (a:=w) (b:=o) (by simp only[inR,zi];omega) ho;have hL:qai (setL c (qaw c.graph w o) (qaz l r).1)=true:=by
  rw[qm5 h hl,qJh (qdb h hl) hr hsend]
  ·rfl
  ·rw[qhW hl,e,p2,p3];exact fun q=>hne q.symm
 rw[qez hL (qhX.trans hx),qsh,qI0 ok (qdE hr)];rfl
theorem qsk{c:Cluster}{w:Int}{x:Worker}{r:Record}{t:List Record}(h:qai c=true)(hx:wAt c w=some x)(hs:x.staged=r::t):qai (setW c w (kept (qbf x t) r))=true:=by
 obtain⟨ok,hr⟩:=qj6 (qbu h hx) hs;rw[qez h hx,qIX ok hr]
theorem qsl{c:Cluster}{k b:Int}{x:Worker}{l:Link}(h:qai c=true)(hl:lAt c k=some l)(hx:wAt c b=some x)(ht:(qaq l).2.2=true):
  qai (setW (setL c k (qaq l).1) b (received x (qaq l).2.1))=inR (x.sums.getD (qaq l).2.1.stamp.epoch.toNat 0+-1) (-1000000) 1000000:=by
 obtain⟨k1,k2⟩:=qj7 (qdb h hl) ht;have hL:qai (setL c k (qaq l).1)=true:=by rw[qm5 h hl,k1];rfl
 rw[qez hL (qhX.trans hx),qsh,qI1 (qbu h hx) k2]
theorem qsm{c:Cluster}{w:Int}(h:qai c=true):qai (qbr c w).1=true:=by
 unfold qbr;rw[zp h];split
 ·rename_i x hx;rw[qez h hx,qJa (qbu h hx)]
 ·exact h
theorem qsn{c:Cluster}{w:Int}(h:qai c=true):qai (qbs c w).1=true:=by
 unfold qbs;rw[zp h];split
 ·rename_i x hx;rw[qez h hx,qI2 (qbu h hx)]
 ·exact h
theorem qso{c:Cluster}{a b:Int}(h:qai c=true):qai (qbt c a b).1=true:=by
 unfold qbt;split
 ·split
  ·rename_i l hl;rw[qm5 h hl,qJi (qdb h hl)];rfl
  ·exact h
 ·exact h
theorem qsp{n e:Int}{b:Bool}{m:Nat}(hm:(m:Int)=n-1)(he:inR e 0 3=true):(qaR m e b).any (qbQ n)=false:=by
 rw[zP];intro x hx;simp only[qaR,zbm,List.mem_range]at hx;obtain⟨k,hk,rfl⟩:=hx;have h1:inR ((k:Int)+1) 0 (n-1)=true:=by simp only[inR,zi];omega
 simp only[qbQ,h1,he,zZ,Bool.or_false,zao,not_false_eq_true]
theorem qJk{c:Cluster}{e:Int}{t:Token}{x x0:Worker}(h:qai c=true)(he:inR e 0 3=true)(ht:tAt c e=some t)(hx:wAt c t.place=some x)(h0:wAt c 0=some x0)(hd:qaA x0 e=false):qai (tokenAt c e t x).1=true:=by
 obtain⟨h1,h2,h3,h4,h5,h6,h7,h8⟩:=qaH.1 h;have hn:=qa8 h1;obtain⟨t1,t2,t3⟩:=qdF.1 (qgE h ht);have ok:=qbu h hx;have setT_ok:∀t':Token,qbP c.graph.workers t'=false→qai (setT c e t')=true:=fun t' k=>by rw[qIT h ht,k];rfl
 have both:∀t':Token,qbP c.graph.workers t'=false→qai (setW (setT c e t') t.place (qaB x e))=true:=fun t' k=>by
  rw[qez (setT_ok t' k) (qhY.trans hx),qsi,qIY ok]
 unfold tokenAt;split
 ·split
  ·exact both _ (qdF.2 ⟨by dsimp only;omega,by simp,by simp⟩)
  ·rename_i hg;split
   ·split
    ·rename_i hp hr;simp only[inR,zi]at hr;exact both _ (qdF.2 ⟨by dsimp only;omega,by simp,hr⟩)
    ·exact h
   ·rename_i hp;have e0:t.place=0:=by omega
    have kt:=setT_ok ⟨false,t.place,t.sum,t.black,t.capped⟩ (qdF.2 ⟨t1,fun _=>e0,t3⟩);split
    ·rw[e0]at hx;have hxx:x0=x:=by rw[h0]at hx;exact zx hx
     have kw:qai (setW (setT c e ⟨false,t.place,t.sum,t.black,t.capped⟩) 0 (told x e (t.capped||x.caps.getD e.toNat false)))=true:=by
      rw[qez kt (qhY.trans hx),qsi];exact qr7 ok he (hxx▸hd)
     rw[qr6 kw,List.any_append];have e1:(setW (setT c e ⟨false,t.place,t.sum,t.black,t.capped⟩) 0 (told x e (t.capped||x.caps.getD e.toNat false))).graph=c.graph:=rfl;rw[e1,h8,qsp (by omega) he];rfl
    ·exact kt
 ·exact h
theorem qsq{c:Cluster}{e:Int}(h:qai c=true):qai (qbc c e).1=true:=by
 unfold qbc;split
 ·rename_i hc;rw[zj]at hc;split
  ·rename_i x0 t h0 ht;split
   ·exact h
   ·rename_i hd;split
    ·rename_i x hx;exact qJk h hc.2 ht hx h0 (by simpa using hd)
    ·exact h
  ·exact h
 ·exact h
theorem qm8{c:Cluster}{k:Nat}{n:News}(h:qai c=true)(hn:c.news[k]?=some n):qbQ c.graph.workers n=false:=by
 have h8:=(qaH.1 h).2.2.2.2.2.2.2;rw[zP]at h8;simpa using h8 n (qag hn)
theorem qJl{α:Type}{p:α→Bool}{xs:List α}{k:Nat}(h:xs.any p=false):(cutAt xs k).any p=false:=by
 rw[zP]at h ⊢;intro a ha;rcases zaz.1 ha with ha | ha
 ·exact h a (zbh ha)
 ·exact h a (zbn ha)
theorem qsr{c:Cluster}{w:Int}(h:qai c=true):qai (qby c w).1=true:=by
 unfold qby;split
 ·rw[zp h];split
  ·rename_i n x hn hx;have hb:=qm8 h hn;simp only[qbQ,zy,zX]at hb;have kw:qai (setW c w (hears x n))=true:=by rw[qez h hx,qIZ (qbu h hx) hb.2]
   rw[qr6 kw,qJj,qJl (qaH.1 h).2.2.2.2.2.2.2];rfl
  ·exact h
 ·exact h
theorem qj8{α:Type}{sz:α→Nat}{y:α}(x:α):∀{xs:List α} {i:Nat},xs[i]?=some y→szS sz (xs.set i x)+sz y=szS sz xs+sz x
 | [],i,h=>by simp at h
 | a::xs,0,h=>by
  obtain rfl:a=y:=by simpa using h
  simp only[szS,List.set_cons_zero,zq,zav,zcw];omega
 | a::xs,i+1,h=>by
  have:=qj8 (sz:=sz) x (xs:=xs) (i:=i) (by simpa using h);simp only[szS,List.set_cons_succ,zq,zav,zcw]at this ⊢;omega
theorem qeC{c:Cluster}{i:Int}{x y:Worker}(h:wAt c i=some y):(setW c i x).sz+y.sz=c.sz+x.sz:=by
 have:=qj8 (sz:=Worker.sz) x (qaD h).2.2;simp only[setW,Cluster.sz];omega
theorem qm9{c:Cluster}{i:Int}{x y:Link}(h:lAt c i=some y):(setL c i x).sz+y.sz=c.sz+x.sz:=by
 have:=qj8 (sz:=Link.sz) x (qbl h).2.2;simp only[setL,Cluster.sz];omega
theorem qj9{c:Cluster}{i:Int}{x:Token}:(setT c i x).sz=c.sz:=by
 simp only[setT,Cluster.sz,zn]
theorem qss{c:Cluster}{x:List News}:(setN c x).sz+c.news.length=c.sz+x.length:=by
 simp only[setN,Cluster.sz];omega
theorem qJm(g:Graph)(w:Worker):(qaZ g w).1.sz≤w.sz+2:=by
 unfold qaZ;split
 ·rename_i hc;rw[zj]at hc;split
  ·rename_i r q h1 h2;have:=qEp hc.1 w.cells r;simp only[Worker.sz,h1,h2,zq,zh];split<;>(try simp only[zn])<;>omega
  ·exact Nat.le_add_right _ _
 ·exact Nat.le_add_right _ _
theorem qJn(g:Graph)(w:Worker):(qa0 g w).1.sz≤w.sz:=by
 unfold qa0;split
 ·split
  ·rename_i r t h1 h2 h3;simp only[Worker.sz,h1,h2,h3,zq,zh];omega
  ·exact zO _
 ·exact zO _
theorem qst{w:Worker}{r:Record}{t:List Record}(h:w.staged=r::t):(qbf w t).sz+1=w.sz:=by
 simp only[qbf,Worker.sz,h,zq];omega
theorem qJo(w:Worker)(r:Record):(kept w r).sz=w.sz+1:=by
 simp only[kept,Worker.sz,zab,zq,zh];omega
theorem qJp(w:Worker)(e:Int):(qbZ w e).sz=w.sz:=by
 simp only[qbZ,incAt,Worker.sz,zn]
theorem qJq(w:Worker)(r:Record):(received w r).sz=w.sz+1:=by
 simp only[received,incAt,Worker.sz,zn,zab,zq,zh];omega
theorem qJr(w:Worker)(e:Int):(qaB w e).sz=w.sz:=by
 simp only[qaB,Worker.sz,zn]
theorem qsu(w:Worker)(e:Int)(b:Bool):(told w e b).sz=w.sz+1:=by
 simp only[told,Worker.sz,zab,zq,zh];omega
theorem qJs(w:Worker)(n:News):(hears w n).sz≤w.sz+1:=by
 unfold hears;split
 ·omega
 ·rw[qsu];omega
theorem qJt(l:Link)(r:Record):(qaz l r).1.sz≤l.sz+1:=by
 unfold qaz;split<;>simp[Link.sz]
theorem qJu(l:Link):(qaq l).1.sz≤l.sz:=by
 unfold qaq;split
 ·split
  ·exact zO _
  ·rename_i h;simp[Link.sz,h]
 ·exact zO _
theorem qJv(l:Link):(qaQ l).1.sz=l.sz:=by
 unfold qaQ;split<;>rfl
theorem qsv{α:Type}(xs:List α)(k:Nat):(cutAt xs k).length≤xs.length:=by
 simp only[cutAt,zab,zay,List.length_drop];omega
theorem qJw{c:Cluster}{e:Int}{t:Token}{x:Worker}(hw:c.workers.length≤4)(hx:wAt c t.place=some x)(h0:0≤t.place):(tokenAt c e t x).1.sz≤c.sz+4:=by
 unfold tokenAt;have w1:∀t',(setW (setT c e t') t.place (qaB x e)).sz+x.sz=c.sz+x.sz:=fun t'=>by
  have:=qeC (c:=setT c e t') (x:=qaB x e) (qhY.trans hx);rwa[qj9,qJr]at this
 split
 ·split
  ·have:=w1 ⟨true,(c.workers.length:Int)-1,0,false,x.caps.getD e.toNat false⟩;dsimp only;omega
  ·split
   ·split
    ·have:=w1 ⟨true,t.place-1,t.sum+x.sums.getD e.toNat 0,t.black||x.black.getD e.toNat false,t.capped||x.caps.getD e.toNat false⟩;dsimp only;omega
    ·dsimp only;omega
   ·rename_i hp;have e0:t.place=0:=by omega
    split
    ·rw[e0]at hx;have a:=qeC (c:=setT c e ⟨false,t.place,t.sum,t.black,t.capped⟩) (x:=told x e (t.capped||x.caps.getD e.toNat false)) (qhY.trans hx);rw[qj9,qsu]at a;have b:=qss (c:=setW (setT c e ⟨false,t.place,t.sum,t.black,t.capped⟩) 0 (told x e (t.capped||x.caps.getD e.toNat false))) (x:=c.news++qaR (c.workers.length-1) e (t.capped||x.caps.getD e.toNat false));have d:(setW (setT c e ⟨false,t.place,t.sum,t.black,t.capped⟩) 0 (told x e (t.capped||x.caps.getD e.toNat false))).news=c.news:=rfl;rw[d]at b;simp only[zab,qaR,zb,zct]at b;dsimp only;simp only[qaR];omega
    ·dsimp only;rw[qj9];omega
 ·dsimp only;omega
theorem qna{c:Cluster}(h:qai c=true):c.workers.length≤4:=by
 obtain⟨h1,h2,_⟩:=qaH.1 h;have:=qa8 h1;omega
theorem qsw(c:Cluster)(p:Pick):(stepPick c p).1.sz≤c.sz+4:=by
 have k0:c.sz≤c.sz+4:=by omega
 unfold stepPick;split
 ·unfold qbr;split
  ·split
   ·rename_i x hx;have:=qeC (x:=(qaZ c.graph x).1) hx;have:=qJm c.graph x;dsimp only;omega
   ·exact k0
  ·exact k0
 split
 ·unfold qbs;split
  ·split
   ·rename_i x hx;have:=qeC (x:=(qa0 c.graph x).1) hx;have:=qJn c.graph x;dsimp only;omega
   ·exact k0
  ·exact k0
 split
 ·unfold qbk;split
  ·split
   ·rename_i x hx;split
    ·rename_i r t hs;have hu:=qst hs;unfold qda;split
     ·have:=qeC (x:=kept (qbf x t) r) hx;rw[qJo]at this;dsimp only;omega
     ·split
      ·rename_i l hl;split
       ·have a:=qm9 (x:=(qaz l r).1) hl;have b:=qeC (c:=setL c (qaw c.graph p.a (qay r.key c.graph.workers)) (qaz l r).1) (x:=qbZ (qbf x t) r.stamp.epoch) (qhX.trans hx);rw[qJp]at b;have:=qJt l r;dsimp only;omega
       ·exact k0
      ·exact k0
    ·exact k0
   ·exact k0
  ·exact k0
 split
 ·unfold qbx;split
  ·split
   ·rename_i l x hl hx;split
    ·have a:=qm9 (x:=(qaq l).1) hl;have b:=qeC (c:=setL c (qaw c.graph p.a p.b) (qaq l).1) (x:=received x (qaq l).2.1) (qhX.trans hx);rw[qJq]at b;have:=qJu l;dsimp only;omega
    ·exact k0
   ·exact k0
  ·exact k0
 split
 ·unfold qbt;split
  ·split
   ·rename_i l hl;have a:=qm9 (x:=(qaQ l).1) hl;have:=qJv l;dsimp only;omega
   ·exact k0
  ·exact k0
 split
 ·unfold qbc;split
  ·rename_i hc;rw[zj]at hc;split
   ·rename_i x0 t h0 ht;split
    ·exact k0
    ·split
     ·rename_i x hx;exact qJw (qna hc.1) hx (qaD hx).1
     ·exact k0
   ·exact k0
  ·exact k0
 split
 ·unfold qby;split
  ·rename_i k hk;split
   ·split
    ·rename_i n x hn hx;have a:=qeC (x:=hears x n) hx;have b:=qss (c:=setW c p.a (hears x n)) (x:=cutAt c.news k);have d:(setW c p.a (hears x n)).news=c.news:=rfl;rw[d]at b;have:=qJs x n;have:=qsv c.news k;dsimp only;omega
    ·exact k0
   ·exact k0
  ·exact k0
 ·exact k0
end Go.Proofs.YtdkobdhckkjmeaaGreat
namespace Go.Proofs.YtdkobdhckkjmeaaGreat
open Go.Sx Go.RowKit
theorem qJx(l:Link)(r:Record)(h:l.got≤9223372036854775807):(qaz l r).1.got≤9223372036854775807:=by
 unfold qaz;split<;>exact h
theorem qJy(l:Link)(h:l.got≤9223372036854775807):(qaQ l).1.got≤9223372036854775807:=by
 unfold qaQ;split<;>exact h
theorem qJz(l:Link)(h:l.got≤9223372036854775807):(qaq l).1.got≤9223372036854775807:=by
 unfold qaq;split
 ·rename_i hk;obtain⟨_,_,_,_,k5,_,k7,_⟩:=qcn.1 hk;simp only[inR,zi]at k5;split
  ·exact h
  ·dsimp only;omega
 ·exact h
theorem GotLe.setL{c:Cluster}{i:Int}{l:Link}(h:GotLe c)(hl:l.got≤9223372036854775807):GotLe (setL c i l):=by
 intro x hx;rcases zbf hx with h1 | rfl
 ·exact h x h1
 ·exact hl
theorem GotLe.at{c:Cluster}{i:Int}{x:Link}(h:lAt c i=some x)(hw:GotLe c):x.got≤9223372036854775807:=hw _ (qag (qbl h).2.2)
structure Kept' (c d:Cluster):Prop where
 graph:d.graph=c.graph
 got:GotLe c→GotLe d
 wlen:d.workers.length=c.workers.length
theorem Kept'.rfl{c:Cluster}:Kept' c c:=⟨Eq.refl _,id,Eq.refl _⟩
theorem Kept'.links{c d:Cluster}(h1:d.graph=c.graph)(h2:d.links=c.links)(h3:d.workers.length=c.workers.length:=by simp[setW,setN,setT,setL,told,qaB]):Kept' c d:=⟨h1,fun h x hx=>h x (h2▸hx),h3⟩
theorem qJA(c:Cluster)(e:Int)(t:Token)(x:Worker):Kept' c (tokenAt c e t x).1:=by
 unfold tokenAt;split
 ·split
  ·exact .links rfl rfl
  ·split
   ·split
    ·exact .links rfl rfl
    ·exact .rfl
   ·split
    ·exact .links rfl rfl
    ·exact .links rfl rfl
 ·exact .rfl
theorem qnb(c:Cluster)(p:Pick):Kept' c (stepPick c p).1:=by
 unfold stepPick;split
 ·unfold qbr;split
  ·split
   ·exact .links rfl rfl
   ·exact .rfl
  ·exact .rfl
 split
 ·unfold qbs;split
  ·split
   ·exact .links rfl rfl
   ·exact .rfl
  ·exact .rfl
 split
 ·unfold qbk;split
  ·split
   ·split
    ·unfold qda;split
     ·exact .links rfl rfl
     ·split
      ·rename_i l hl;split
       ·exact⟨rfl,fun h=>GotLe.setL h (qJx l _ (GotLe.at hl h)),by simp[setW,setL]⟩
       ·exact .rfl
      ·exact .rfl
    ·exact .rfl
   ·exact .rfl
  ·exact .rfl
 split
 ·unfold qbx;split
  ·split
   ·rename_i l x hl hx;split
    ·exact⟨rfl,fun h=>GotLe.setL h (qJz l (GotLe.at hl h)),by simp[setW,setL]⟩
    ·exact .rfl
   ·exact .rfl
  ·exact .rfl
 split
 ·unfold qbt;split
  ·split
   ·rename_i l hl;exact⟨rfl,fun h=>GotLe.setL h (qJy l (GotLe.at hl h)),by simp[setW,setL]⟩
   ·exact .rfl
  ·exact .rfl
 split
 ·unfold qbc;split
  ·split
   ·split
    ·exact .rfl
    ·split
     ·exact qJA c _ _ _
     ·exact .rfl
   ·exact .rfl
  ·exact .rfl
 split
 ·unfold qby;split
  ·split
   ·split
    ·exact .links rfl rfl
    ·exact .rfl
   ·exact .rfl
  ·exact .rfl
 ·exact .rfl
theorem qgF{α:Type}{f:α→List D}{xs:List α}{a:α}:(xs++[a]).map f=xs.map f++[f a]:=by simp
def qah:Cluster→List Pick→Cluster×List Bool
 | c,[]=>(c,[])
 | c,p::l=>((qah (stepPick c p).1 l).1,(stepPick c p).2::(qah (stepPick c p).1 l).2)
theorem qsx(p:Pick):∀(l:List Pick) (c:Cluster),qah c (l++[p])=((stepPick (qah c l).1 p).1,(qah c l).2++[(stepPick (qah c l).1 p).2])
 | [],c=>rfl
 | q::l,c=>by
  have ih:=qsx p l (stepPick c q).1;simp only[List.cons_append,qah,ih]
theorem qka{l:List Pick}{i:Nat}{p:Pick}(c:Cluster)(h:l[i]?=some p):qah c (l.take (i+1))=((stepPick (qah c (l.take i)).1 p).1,(qah c (l.take i)).2++[(stepPick (qah c (l.take i)).1 p).2]):=by
 rw[zbe,h,zcp,qsx]
theorem qhZ:∀(l:List Pick) (c:Cluster),(qah c l).2.length=l.length
 | [],_=>rfl
 | q::l,c=>by simp only[qah,zq,qhZ l]
theorem qh0:∀(l:List Pick) (c:Cluster),(qah c l).1.sz≤c.sz+4*l.length
 | [],c=>zO _
 | q::l,c=>by
  have:=qh0 l (stepPick c q).1;have:=qsw c q;simp only[qah,zq];omega
theorem Kept'.trans{c d e:Cluster}(h:Kept' c d)(k:Kept' d e):Kept' c e:=⟨k.graph.trans h.graph,fun x=>k.got (h.got x),k.wlen.trans h.wlen⟩
theorem qgG:∀(l:List Pick) (c:Cluster),Kept' c (qah c l).1
 | [],_=>.rfl
 | q::l,c=>(qnb c q).trans (qgG l _)
theorem qgH{α:Type}(i:Nat)(l:List α):(l.take i).length≤l.length:=by rw[zay];omega
theorem qkb(c:Cluster)(l:List Pick)(i:Nat):(qah c (l.take i)).1.sz≤c.sz+4*l.length:=by
 have:=qh0 (l.take i) c;have:=qgH i l;omega
def didOf(l:List Bool):Nat:=(l.filter id).length
theorem qsy(l:List Bool):didOf l≤l.length:=zat _ _
theorem qsz(l:List Bool)(b:Bool):didOf (l++[b])=didOf l+(if b then 1 else 0):=by
 cases b<;>simp[didOf]
end Go.Proofs.YtdkobdhckkjmeaaGreat
namespace Go.Proofs.YtdkobdhckkjmeaaGreat
open Go.Sx Go.RowKit
inductive Step (c:Cluster) (p:Pick):Cluster→Prop
 | work (x:Worker) (r:Record) (q:List Record) (hk:p.kind=1) (hx:wAt c p.a=some x) (hs:x.staged=[]) (hq:x.queue=r::q):
   Step c p (setW c p.a ⟨q,(qav c.graph x.cells r).2.1,x.inputs,(qav c.graph x.cells r).1,x.sums,x.black,(if capped c.graph r then x.caps.set r.stamp.epoch.toNat true else x.caps),x.dones⟩)
 | input (x:Worker) (r:Record) (t:List Record) (hk:p.kind=2) (hx:wAt c p.a=some x) (hs:x.staged=[]) (hq:x.queue=[]) (hi:x.inputs=r::t):
   Step c p (setW c p.a ⟨[r],[],t,x.cells,x.sums,x.black,x.caps,x.dones⟩)
 | keep (x:Worker) (r:Record) (t:List Record) (hk:p.kind=3) (hx:wAt c p.a=some x) (hs:x.staged=r::t) (ho:qay r.key c.graph.workers=p.a):
   Step c p (setW c p.a (kept (qbf x t) r))
 | send (x:Worker) (r:Record) (t:List Record) (l:Link) (hk:p.kind=3) (hx:wAt c p.a=some x) (hs:x.staged=r::t) (ho:qay r.key c.graph.workers≠p.a)
   (hl:lAt c (qaw c.graph p.a (qay r.key c.graph.workers))=some l) (h:(qaz l r).2=true):
   Step c p (setW (setL c (qaw c.graph p.a (qay r.key c.graph.workers)) (qaz l r).1) p.a (qbZ (qbf x t) r.stamp.epoch))
 | take (l:Link) (x:Worker) (hk:p.kind=4) (hab:p.a≠p.b) (hl:lAt c (qaw c.graph p.a p.b)=some l) (hx:wAt c p.b=some x) (h:(qaq l).2.2=true):
   Step c p (setW (setL c (qaw c.graph p.a p.b) (qaq l).1) p.b (received x (qaq l).2.1))
 | credit (l:Link) (hk:p.kind=5) (hab:p.a≠p.b) (hl:lAt c (qaw c.graph p.a p.b)=some l) (h:(qaQ l).2=true):
   Step c p (setL c (qaw c.graph p.a p.b) (qaQ l).1)
 | token (t:Token) (x x0:Worker) (hk:p.kind=6) (he:inR p.a 0 3=true) (h0:wAt c 0=some x0) (hd:qaA x0 p.a=false) (ht:tAt c p.a=some t) (hx:wAt c t.place=some x) (h:(tokenAt c p.a t x).2=true):
   Step c p (tokenAt c p.a t x).1
 | hear (k:Nat) (n:News) (x:Worker) (hk:p.kind=7) (hn:c.news[k]?=some n) (hd:n.dest=p.a) (hx:wAt c p.a=some x):
   Step c p (setN (setW c p.a (hears x n)) (cutAt c.news k))
theorem qJC(g:Graph)(w:Worker):((qaZ g w).2=false∧(qaZ g w).1=w)∨
  ((qaZ g w).2=true∧∃r q,w.staged=[]∧w.queue=r::q∧(qaZ g w).1=⟨q,(qav g w.cells r).2.1,w.inputs,(qav g w.cells r).1,w.sums,w.black,(if capped g r then w.caps.set r.stamp.epoch.toNat true else w.caps),w.dones⟩):=by
 unfold qaZ;split
 ·split
  ·rename_i r q hs hq;exact .inr ⟨rfl,r,q,hs,hq,rfl⟩
  ·exact .inl ⟨rfl,rfl⟩
 ·exact .inl ⟨rfl,rfl⟩
theorem qJD(g:Graph)(w:Worker):((qa0 g w).2=false∧(qa0 g w).1=w)∨
  ((qa0 g w).2=true∧∃r t,w.staged=[]∧w.queue=[]∧w.inputs=r::t∧(qa0 g w).1=⟨[r],[],t,w.cells,w.sums,w.black,w.caps,w.dones⟩):=by
 unfold qa0;split
 ·split
  ·rename_i r t hs hq hi;exact .inr ⟨rfl,r,t,hs,hq,hi,rfl⟩
  ·exact .inl ⟨rfl,rfl⟩
 ·exact .inl ⟨rfl,rfl⟩
theorem qh1{l:Link}{r:Record}(h:(qaz l r).2=true):qbq l=true∧l.credits≠0∧l.sent<1000000000∧(qaz l r).1=⟨l.cap,l.queue++[r],l.credits-1,l.back,l.sent+1,l.got⟩:=by
 unfold qaz at h ⊢;split
 ·rename_i hc;simp only[zj,bne_iff_ne,zcc,zi]at hc;exact⟨hc.1.1.1,hc.1.2,hc.2,rfl⟩
 ·rename_i hc;rw[zo hc]at h;cases h
theorem qfK{l:Link}(h:(qaq l).2.2=true):qbq l=true∧∃r q,l.queue=r::q∧(qaq l).2.1=r∧(qaq l).1=⟨l.cap,q,l.credits,l.back+1,l.sent,l.got+1⟩:=by
 unfold qaq at h ⊢;split
 ·rename_i hc;rw[zp hc]at h;refine⟨hc,?_⟩;cases hq:l.queue with
  | nil=>rw[hq]at h;cases h
  | cons r q=>exact⟨r,q,rfl,rfl,rfl⟩
 ·rename_i hc;rw[zo hc]at h;cases h
theorem qfL(l:Link):((qaQ l).2=false∧(qaQ l).1=l)∨((qaQ l).2=true∧qbq l=true∧l.back≠0∧(qaQ l).1=⟨l.cap,l.queue,l.credits+1,l.back-1,l.sent,l.got⟩):=by
 unfold qaQ;split
 ·rename_i hc;simp only[zj,bne_iff_ne,zcc]at hc;exact .inr ⟨rfl,hc.1,hc.2,rfl⟩
 ·exact .inl ⟨rfl,rfl⟩
theorem qcX (c : Cluster) (e : Int) (t : Token) (x : Worker) : ((tokenAt c e t x).2 = false ∧ (tokenAt c e t x).1 = c) ∨ ((tokenAt c e t x).2 = true ∧ qbF x e = true ∧
    ((t.going = false ∧ (tokenAt c e t x).1 = setW (setT c e ⟨true, (c.workers.length : Int) - 1, 0, false, x.caps.getD e.toNat false⟩) t.place (qaB x e)) ∨
     (t.going = true ∧ 0 < t.place ∧ (tokenAt c e t x).1 = setW (setT c e ⟨true, t.place - 1, t.sum + x.sums.getD e.toNat 0, t.black || x.black.getD e.toNat false, t.capped || x.caps.getD e.toNat false⟩) t.place (qaB x e)) ∨
     (t.going = true ∧ ¬ 0 < t.place ∧ (t.black = false ∧ x.black.getD e.toNat false = false ∧ t.sum + x.sums.getD e.toNat 0 = 0) ∧
       (tokenAt c e t x).1 = setN (setW (setT c e ⟨false, t.place, t.sum, t.black, t.capped⟩) 0 (told x e (t.capped || x.caps.getD e.toNat false))) (c.news ++ qaR (c.workers.length - 1) e (t.capped || x.caps.getD e.toNat false))) ∨
     (t.going = true ∧ ¬ 0 < t.place ∧ ¬ (t.black = false ∧ x.black.getD e.toNat false = false ∧ t.sum + x.sums.getD e.toNat 0 = 0) ∧ (tokenAt c e t x).1 = setT c e ⟨false, t.place, t.sum, t.black, t.capped⟩))) := by
  unfold tokenAt;split
  case isFalse => exact .inl ⟨rfl, rfl⟩
  rename_i hp;cases hg : t.going with
  | false => exact .inr ⟨rfl, hp, .inl ⟨rfl, rfl⟩⟩
  | true =>
    rw [zo (by simp)];split
    · rename_i h0;split
      · exact .inr ⟨rfl, hp, .inr (.inl ⟨rfl, h0, rfl⟩)⟩
      · exact .inl ⟨rfl, rfl⟩
    · rename_i h0;split
      · rename_i hc;simp only [zj, zS, zE] at hc;exact .inr ⟨rfl, hp, .inr (.inr (.inl ⟨rfl, h0, ⟨hc.1.1, hc.1.2, hc.2⟩, rfl⟩))⟩
      · rename_i hc;refine .inr ⟨rfl, hp, .inr (.inr (.inr ⟨rfl, h0, fun hn => hc ?_, rfl⟩))⟩;simp only [zj, zS, zE];exact ⟨⟨hn.1, hn.2.1⟩, hn.2.2⟩
theorem qfM(c:Cluster)(p:Pick):((stepPick c p).2=false∧(stepPick c p).1=c)∨(qai c=true∧(stepPick c p).2=true∧Step c p (stepPick c p).1):=by
 unfold stepPick;split
 ·rename_i hk;unfold qbr;split
  case isFalse=>exact .inl ⟨rfl,rfl⟩
  rename_i hok;cases hx:wAt c p.a with
  | none=>exact .inl ⟨rfl,rfl⟩
  | some x=>
   rcases qJC c.graph x with⟨h1,h2⟩ | ⟨h1,r,q,hs,hq,h2⟩
   ·exact .inl ⟨h1,by dsimp only;rw[h2];exact qdZ hx⟩
   ·refine .inr ⟨hok,h1,?_⟩;dsimp only;rw[h2];exact .work x r q hk hx hs hq
 split
 ·rename_i hk;unfold qbs;split
  case isFalse=>exact .inl ⟨rfl,rfl⟩
  rename_i hok;cases hx:wAt c p.a with
  | none=>exact .inl ⟨rfl,rfl⟩
  | some x=>
   rcases qJD c.graph x with⟨h1,h2⟩ | ⟨h1,r,t,hs,hq,hi,h2⟩
   ·exact .inl ⟨h1,by dsimp only;rw[h2];exact qdZ hx⟩
   ·refine .inr ⟨hok,h1,?_⟩;dsimp only;rw[h2];exact .input x r t hk hx hs hq hi
 split
 ·rename_i hk;unfold qbk;split
  case isFalse=>exact .inl ⟨rfl,rfl⟩
  rename_i hok;cases hx:wAt c p.a with
  | none=>exact .inl ⟨rfl,rfl⟩
  | some x=>
   dsimp only;cases hs:x.staged with
   | nil=>exact .inl ⟨rfl,rfl⟩
   | cons r t=>
    dsimp only;unfold qda;split
    ·rename_i ho;exact .inr ⟨hok,rfl,.keep x r t hk hx hs ho⟩
    ·rename_i ho;cases hl:lAt c (qaw c.graph p.a (qay r.key c.graph.workers)) with
     | none=>exact .inl ⟨rfl,rfl⟩
     | some l=>
      dsimp only;split
      ·rename_i h;exact .inr ⟨hok,rfl,.send x r t l hk hx hs ho hl h⟩
      ·exact .inl ⟨rfl,rfl⟩
 split
 ·rename_i hk;unfold qbx;split
  case isFalse=>exact .inl ⟨rfl,rfl⟩
  rename_i hc;simp only[zj,bne_iff_ne,zcc]at hc;cases hl:lAt c (qaw c.graph p.a p.b) with
  | none=>exact .inl ⟨rfl,rfl⟩
  | some l=>
   cases hx:wAt c p.b with
   | none=>exact .inl ⟨rfl,rfl⟩
   | some x=>
    dsimp only;split
    ·rename_i h;exact .inr ⟨hc.1,rfl,.take l x hk hc.2 hl hx h⟩
    ·exact .inl ⟨rfl,rfl⟩
 split
 ·rename_i hk;unfold qbt;split
  case isFalse=>exact .inl ⟨rfl,rfl⟩
  rename_i hc;simp only[zj,bne_iff_ne,zcc]at hc;cases hl:lAt c (qaw c.graph p.a p.b) with
  | none=>exact .inl ⟨rfl,rfl⟩
  | some l=>
   rcases qfL l with⟨h1,h2⟩ | ⟨h1,_⟩
   ·exact .inl ⟨h1,by dsimp only;rw[h2];exact qIU hl⟩
   ·exact .inr ⟨hc.1,h1,.credit l hk hc.2 hl h1⟩
 split
 ·rename_i hk;unfold qbc;split
  case isFalse=>exact .inl ⟨rfl,rfl⟩
  rename_i hc;simp only[zj]at hc;cases h0:wAt c 0 with
  | none=>exact .inl ⟨rfl,rfl⟩
  | some x0=>
   cases ht:tAt c p.a with
   | none=>exact .inl ⟨rfl,rfl⟩
   | some t=>
    dsimp only;cases hd:qaA x0 p.a with
    | true=>exact .inl ⟨rfl,rfl⟩
    | false=>
     rw[zo (by simp)];cases hx:wAt c t.place with
     | none=>exact .inl ⟨rfl,rfl⟩
     | some x=>
      dsimp only;rcases qcX c p.a t x with h1 | ⟨h1,_⟩
      ·exact .inl h1
      ·exact .inr ⟨hc.1,h1,.token t x x0 hk hc.2 h0 hd ht hx h1⟩
 split
 ·rename_i hk;unfold qby;cases hf:c.news.findIdx? (fun n=>n.dest==p.a) with
  | none=>exact .inl ⟨rfl,rfl⟩
  | some k=>
   dsimp only;split
   case isFalse=>exact .inl ⟨rfl,rfl⟩
   rename_i hok;cases hn:c.news[k]? with
   | none=>exact .inl ⟨rfl,rfl⟩
   | some n=>
    cases hx:wAt c p.a with
    | none=>exact .inl ⟨rfl,rfl⟩
    | some x=>
     dsimp only;have hd:n.dest=p.a:=by
      have:=zai.1 hf;obtain⟨hl,hp,_⟩:=this;rw[zu hl]at hn;rw[zx hn]at hp;simpa using hp
     exact .inr ⟨hok,rfl,.hear k n x hk hn hd hx⟩
 ·exact .inl ⟨rfl,rfl⟩
theorem qJE{c:Cluster}{p:Pick}(h:(stepPick c p).2=false):(stepPick c p).1=c:=by
 rcases qfM c p with⟨_,h2⟩ | ⟨_,h2,_⟩
 ·exact h2
 ·rw[h]at h2;cases h2
end Go.Proofs.YtdkobdhckkjmeaaGreat
namespace Go.Proofs.YtdkobdhckkjmeaaGreat
open Go.Sx Go.RowKit Go.Sort
def sumS{α:Type}(f:α→Nat)(xs:List α):Nat:=(xs.map f).sum
theorem qkc{α:Type}{f:α→Nat}{y:α}(x:α){xs:List α}{i:Nat}(h:xs[i]?=some y):sumS f (xs.set i x)+f y=sumS f xs+f x:=by
 have:=qj8 (sz:=f) x h;simp only[szS,zn]at this;unfold sumS;omega
end Go.Proofs.YtdkobdhckkjmeaaGreat
