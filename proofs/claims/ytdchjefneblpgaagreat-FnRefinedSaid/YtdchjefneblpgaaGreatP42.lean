import Derived.Test.YtdchjefneblpgaaGreatP31
set_option linter.unusedVariables false
set_option linter.unusedSimpArgs false
namespace Go.Proofs.YtdchjefneblpgaaGreat
open Go.Sx Go.RowKit
variable{l:bw}
theorem vN:jz l=true<->aw l.cap 1 4=true/\aw l.eX 0 l.cap=true/\aw l.back 0 l.cap=true/\l.eX+l.back+l.queue.length=l.cap/\aw l.fq 0 1000000000=true/\0<=l.dy/\l.dy=l.fq-l.queue.length/\(l.queue.any fun r=>!fE r)=false:=by
 simp only[jz,cx,gT,dE,cV,and_assoc]
variable{g:b9}
theorem zB{i:Nat}:kA g i l=false<->jz l=true/\l.cap=g.cap/\gP g l.queue=true/\((i:Int).tdiv g.az=(i:Int).tmod g.az->l.queue=[]):=by
 simp only[kA,hG,ln,bne_eq_false_iff_eq,Bool.and_eq_false_imp,dE,lp];refine and_congr_right fun _=>and_congr_right fun _=>and_congr_right fun _=>imp_congr_right fun _=>?_
 cases l.queue with
 | nil=>simp
 | cons a q=>simp
variable{r:aq}
theorem ak8{i:Nat}(h:kA g i l=false)(aA:mv g r=false)(ao:(ez l r).2=true)(aG:(i:Int).tdiv g.az≠(i:Int).tmod g.az):kA g i (ez l r).1=false:=by
 obtain⟨h1,U,ax,aF⟩:=zB.1 h;unfold ez at ao ⊢;split
 ·rename_i aj;simp only[cx,bne_iff_ne,gy,cV]at aj;obtain⟨⟨⟨_,ml⟩,pW⟩,Ew⟩:=aj;obtain⟨cG,bM,gj,q7,kR,pb,kt,pc⟩:=vN.1 h1;refine zB.2 ⟨vN.2 ⟨cG,?_,gj,?_,?_,pb,?_,?_⟩,U,NP.2 ⟨ax,aA⟩,fun e=>(aG e).elim⟩
  ·simp only[aw,cV]at bM ⊢;omega
  ·simp only[fF,eh,b7];omega
  ·simp only[aw,cV]at kR ⊢;omega
  ·simp only[fF,eh,b7];omega
  simp only[List.any_append,pc,wa,List.any_nil,ml,jC,Bool.or_false]
 rename_i aj;rw[bk aj]at ao;cases ao
theorem Gq{i:Nat}(h:kA g i l=false)(ao:(dY l).2.2=true):kA g i (dY l).1=false/\mv g (dY l).2.1=false:=by
 obtain⟨h1,U,ax,aF⟩:=zB.1 h;obtain⟨cG,bM,gj,q7,kR,pb,kt,pc⟩:=vN.1 h1;unfold dY at ao ⊢;rw[bm h1]at ao ⊢;split
 ·rename_i aK;rw[aK]at ao;cases ao
 rename_i r q aK;rw[aK]at ax pc q7 kt aF;rw[tX]at ax;rw[wa,hG]at pc;simp only[eh]at q7 kt;refine⟨zB.2 ⟨vN.2 ⟨cG,bM,?_,?_,kR,?_,?_,pc.2⟩,U,ax.2,fun e=>absurd (aF e) (by simp)⟩,ax.1⟩
 ·simp only[aw,cV]at bM gj ⊢;omega
 ·dsimp only;omega
 ·dsimp only;omega
 dsimp only;omega
theorem ak9{i:Nat}(h:kA g i l=false):kA g i (fO l).1=false:=by
 obtain⟨h1,U,ax,aF⟩:=zB.1 h;obtain⟨cG,bM,gj,q7,kR,pb,kt,pc⟩:=vN.1 h1;unfold fO;split
 ·rename_i aj;simp only[cx,bne_iff_ne,gy]at aj;refine zB.2 ⟨vN.2 ⟨cG,?_,?_,?_,kR,pb,kt,pc⟩,U,ax,aF⟩
  ·simp only[aw,cV]at bM gj ⊢;omega
  ·simp only[aw,cV]at bM gj ⊢;omega
  dsimp only;omega
 exact h
theorem Gr{a b:Int}(aX:1<=g.az/\g.az<=4)(ak:aw a 0 (g.az-1)=true)(av:aw b 0 (g.az-1)=true):
  fp g a b=a*g.az+b/\0<=a*g.az+b/\a*g.az+b<g.az*g.az/\(a*g.az+b).tdiv g.az=a/\(a*g.az+b).tmod g.az=b:=by
 have e:fp g a b=a*g.az+b:=by unfold fp;rw[ak,av];rfl
 simp only[aw,cV]at ak av;generalize g.az=n at*;have bG:0<=a*n+b:=by have:=Int.mul_nonneg ak.1 (show 0<=n by omega);omega
 rw[Int.tdiv_eq_ediv_of_nonneg bG,Int.tmod_eq_emod_of_nonneg bG];have A':n=1\/n=2\/n=3\/n=4:=by omega
 refine⟨e,bG,?_⟩;rcases A' with rfl | rfl | rfl | rfl<;>omega
variable{b:Int}
theorem vO{a:Int}(h:(aw a 0 (g.az-1)&&aw b 0 (g.az-1))=false):fp g a b=-1:=by
 unfold fp;rw[h];rfl
variable{n:Int}
theorem V1(key:Int)(aX:1<=n):aw (jK key n) 0 (n-1)=true:=by
 have h1:=MC key n (by omega);have U:=Int.tmod_lt_of_pos key (show 0<n by omega);unfold jK;rw[bk (by omega)];simp only[aw,cV];split<;>omega
variable{c:a'}
theorem zC(h:cU c=true){a:Int}(ak:aw a 0 (c.aE.az-1)=true)(av:aw b 0 (c.aE.az-1)=true):∃l,hN c (fp c.aE a b)=some l:=by
 obtain⟨h1,U,ax,_⟩:=ix.1 h;obtain⟨e,bG,bz,_⟩:=Gr (mZ h1) ak av;rw[e];unfold hN;rw[bm bG];exact c9 (by omega)
variable{i:Int}
theorem ala(h:hN c i=some l):((i.toNat:Nat):Int)=i:=by have:=(qk h).1;omega
theorem CD{c:a'}{i:Int}(bG:0<=i)(h1:i<c.az.length):∃x,dh c i=some x:=by
 unfold dh;rw[bm bG];exact c9 (by omega)
variable{e:Int}
theorem alb(h:cU c=true)(he:aw e 0 3=true):∃t,kD c e=some t:=by
 have aF:=(ix.1 h).2.2.2.1;simp only[aw,cV]at he;unfold kD;rw[bm he.1];exact c9 (by omega)
variable{t:b4}
theorem zD:l3 n t=false<->(0<=t.place/\t.place<=n-1)/\(t.going=false->t.place=0)/\(-1000000<=t.sum/\t.sum<=1000000):=by
 simp only[l3,aw,hG,ln,cV,Bool.and_eq_false_imp,gT,bne_eq_false_iff_eq]
theorem CE{j:Int}:dh (ec c i l) j=dh c j:=rfl
theorem CF{j:Int}:dh (eg c i t) j=dh c j:=rfl
theorem V2:(ec c i l).aE=c.aE:=rfl
theorem V3:(eg c i t).aE=c.aE:=rfl
variable{x:aP}
theorem alc:(setW c i x).aE=c.aE:=rfl
theorem ald{w o:Int}{t:List aq}(h:cU c=true)(ah:dh c w=some x)(ao:x.cj=r::t)
  (ba:aw o 0 (c.aE.az-1)=true) (cC:o≠w) (ap:hN c (fp c.aE w o)=some l) (hsend:(ez l r).2=true):
  cU (setW (ec c (fp c.aE w o) (ez l r).1) w (lI (hn x t) r.bq.bd))=aw (x.bL.getD r.bq.bd.toNat 0+1) (-1000000) 1000000:=by
 obtain⟨h1,U,_⟩:=ix.1 h;obtain⟨w0,w1,_⟩:=hS ah;obtain⟨ok,aA⟩:=Gp (m' h ah) ao;obtain⟨e,h2,si,Si,adU⟩:=Gr (mZ h1) (a:=w) (b:=o) (by simp only[aw,cV];omega) ba;have cz:cU (ec c (fp c.aE w o) (ez l r).1)=true:=by
  rw[NN h ap,ak8 (zA h ap) aA hsend]
  ·rfl
  rw[ala ap,e,Si,adU];exact fun q=>cC q.symm
 rw[vL cz (CE.trans ah),V2,alP ok (rj aA)];rfl
theorem ale{w:Int}{t:List aq}(h:cU c=true)(ah:dh c w=some x)(ao:x.cj=r::t):cU (setW c w (kept (hn x t) r))=true:=by
 obtain⟨ok,aA⟩:=Gp (m' h ah) ao;rw[vL h ah,alM ok aA]
theorem alf{k:Int}(h:cU c=true)(ap:hN c k=some l)(ah:dh c b=some x)(bT:(dY l).2.2=true):
  cU (setW (ec c k (dY l).1) b (ig x (dY l).2.1))=aw (x.bL.getD (dY l).2.1.bq.bd.toNat 0+-1) (-1000000) 1000000:=by
 obtain⟨cG,bM⟩:=Gq (zA h ap) bT;have cz:cU (ec c k (dY l).1)=true:=by rw[NN h ap,cG];rfl
 rw[vL cz (CE.trans ah),V2,alQ (m' h ah) bM]
theorem alg{c:a'}{w:Int}(h:cU c=true):cU (jL c w).1=true:=by
 unfold jL;rw[bm h];split
 ·rename_i x ah;rw[vL h ah,alZ (m' h ah)]
 exact h
theorem alh{c:a'}{w:Int}(h:cU c=true):cU (jM c w).1=true:=by
 unfold jM;rw[bm h];split
 ·rename_i x ah;rw[vL h ah,alR (m' h ah)]
 exact h
theorem ali{c:a'}{a b:Int}(h:cU c=true):cU (jO c a b).1=true:=by
 unfold jO;split
 ·split
  ·rename_i l ap;rw[NN h ap,ak9 (zA h ap)];rfl
  exact h
 exact h
theorem V4{b:Bool}{m:Nat}(hm:(m:Int)=n-1)(he:aw e 0 3=true):(hR m e b).any (l4 n)=false:=by
 rw[ik];intro x ah;simp only[hR,lo,List.mem_range]at ah;obtain⟨k,hk,rfl⟩:=ah;have h1:aw ((k:Int)+1) 0 (n-1)=true:=by simp only[aw,cV];omega
 simp only[l4,h1,he,jC,Bool.or_false,nY,not_false_eq_true]
theorem alj{ff:aP}(h:cU c=true)(he:aw e 0 3=true)(bT:kD c e=some t)(ah:dh c t.place=some x)(bG:dh c 0=some ff)(aG:ja ff e=false):cU (eN c e t x).1=true:=by
 obtain⟨h1,U,ax,aF,aZ,bB,bS,dv⟩:=ix.1 h;have aX:=mZ h1;obtain⟨t1,t2,t3⟩:=zD.1 (NO h bT);have ok:=m' h ah;have YR:∀di:b4,l3 c.aE.az di=false->cU (eg c e di)=true:=fun di k=>by rw[alI h bT,k];rfl
 have both:∀di:b4,l3 c.aE.az di=false->cU (setW (eg c e di) t.place (gR x e))=true:=fun di k=>by
  rw[vL (YR di k) (CF.trans ah),V3,alN ok]
 unfold eN;split
 ·split
  ·exact both _ (zD.2 ⟨by dsimp only;omega,by simp,by simp⟩)
  rename_i ay;split
  ·split
   ·rename_i hp aA;simp only[aw,cV]at aA;exact both _ (zD.2 ⟨by dsimp only;omega,by simp,aA⟩)
   exact h
  rename_i hp;have bu:t.place=0:=by omega
  have R6:=YR ⟨false,t.place,t.sum,t.bU,t.du⟩ (zD.2 ⟨t1,fun _=>bu,t3⟩);split
  ·rw[bu]at ah;have ado:ff=x:=by rw[bG]at ah;exact eW ah
   have kw:cU (setW (eg c e ⟨false,t.place,t.sum,t.bU,t.du⟩) 0 (told x e (t.du||x.bx.getD e.toNat false)))=true:=by
    rw[vL R6 (CF.trans ah),V3];exact WK ok he (ado▸aG)
   rw[WJ kw,List.any_append];have e1:(setW (eg c e ⟨false,t.place,t.sum,t.bU,t.du⟩) 0 (told x e (t.du||x.bx.getD e.toNat false))).aE=c.aE:=rfl;rw[e1,dv,V4 (by omega) he];rfl
  exact R6
 exact h
theorem alk{c:a'}{e:Int}(h:cU c=true):cU (je c e).1=true:=by
 unfold je;split
 ·rename_i aj;rw[cx]at aj;split
  ·rename_i ff t bG bT;split
   ·exact h
   rename_i aG;split
   ·rename_i x ah;exact alj h aj.2 bT ah bG (by simpa using aG)
   exact h
  exact h
 exact h
theorem V5{k:Nat}{n:b1}(h:cU c=true)(aX:c.news[k]?=some n):l4 c.aE.az n=false:=by
 have dv:=(ix.1 h).2.2.2.2.2.2.2;rw[ik]at dv;simpa using dv n (eD aX)
theorem alm{α:Type}{p:α->Bool}{xs:List α}{k:Nat}(h:xs.any p=false):(cutAt xs k).any p=false:=by
 rw[ik]at h ⊢;intro a ak;rcases ki.1 ak with ak | ak
 ·exact h a (qx ak)
 exact h a (rP ak)
theorem aln{c:a'}{w:Int}(h:cU c=true):cU (kx c w).1=true:=by
 unfold kx;split
 ·rw[bm h];split
  ·rename_i n x aX ah;have av:=V5 h aX;simp only[l4,hG,ln]at av;have kw:cU (setW c w (gh x n))=true:=by rw[vL h ah,alO (m' h ah) av.2]
   rw[WJ kw,alc,alm (ix.1 h).2.2.2.2.2.2.2];rfl
  exact h
 exact h
theorem xO{α:Type}{sz:α->Nat}{y:α}(x:α):∀{xs:List α} {i:Nat},xs[i]?=some y->fs sz (xs.set i x)+sz y=fs sz xs+sz x
 | [],i,h=>by simp at h
 | a::xs,0,h=>by
  obtain rfl:a=y:=by simpa using h
  simp only[fs,List.set_cons_zero,eh,l',we];omega
 | a::xs,i+1,h=>by
  have:=xO (sz:=sz) x (xs:=xs) (i:=i) (by simpa using h);simp only[fs,List.set_cons_succ,eh,l',we]at this ⊢;omega
theorem vP{c:a'}{x y:aP}(h:dh c i=some y):(setW c i x).sz+y.sz=c.sz+x.sz:=by
 have:=xO (sz:=aP.sz) x (hS h).2.2;simp only[setW,a'.sz];omega
theorem NR{x y:bw}(h:hN c i=some y):(ec c i x).sz+y.sz=c.sz+x.sz:=by
 have:=xO (sz:=bw.sz) x (qk h).2.2;simp only[ec,a'.sz];omega
theorem Gs{x:b4}:(eg c i x).sz=c.sz:=by
 simp only[eg,a'.sz,fR]
theorem V6{c:a'}{x:List b1}:(iL c x).sz+c.news.length=c.sz+x.length:=by
 simp only[iL,a'.sz];omega
theorem V7(g:b9)(w:aP):(e6 g w).1.sz<=w.sz+2:=by
 unfold e6;split
 ·rename_i aj;rw[cx]at aj;split
  ·rename_i r q h1 U;have:=U' aj.1 w.cells r;simp only[aP.sz,h1,U,eh,b7];split<;>(try simp only[fR])<;>omega
  exact Nat.le_add_right _ _
 exact Nat.le_add_right _ _
theorem V8(g:b9)(w:aP):(e5 g w).1.sz<=w.sz:=by
 unfold e5;split
 ·split
  ·rename_i r t h1 U ax;simp only[aP.sz,h1,U,ax,eh,b7];omega
  exact fI _
 exact fI _
theorem NS{w:aP}{t:List aq}(h:w.cj=r::t):(hn w t).sz+1=w.sz:=by
 simp only[hn,aP.sz,h,eh];omega
theorem alo(w:aP)(r:aq):(kept w r).sz=w.sz+1:=by
 simp only[kept,aP.sz,fF,eh,b7];omega
theorem alp(w:aP)(e:Int):(lI w e).sz=w.sz:=by
 simp only[lI,nM,aP.sz,fR]
theorem V9(w:aP)(r:aq):(ig w r).sz=w.sz+1:=by
 simp only[ig,nM,aP.sz,fR,fF,eh,b7];omega
theorem alq(w:aP)(e:Int):(gR w e).sz=w.sz:=by
 simp only[gR,aP.sz,fR]
theorem V'(w:aP)(e:Int)(b:Bool):(told w e b).sz=w.sz+1:=by
 simp only[told,aP.sz,fF,eh,b7];omega
theorem alr(w:aP)(n:b1):(gh w n).sz<=w.sz+1:=by
 unfold gh;split
 ·omega
 rw[V'];omega
theorem Wa(l:bw)(r:aq):(ez l r).1.sz<=l.sz+1:=by
 unfold ez;split<;>simp[bw.sz]
theorem Wb(l:bw):(dY l).1.sz<=l.sz:=by
 unfold dY;split
 ·split
  ·exact fI _
  rename_i h;simp[bw.sz,h]
 exact fI _
theorem Wc(l:bw):(fO l).1.sz=l.sz:=by
 unfold fO;split<;>rfl
theorem als{α:Type}(xs:List α)(k:Nat):(cutAt xs k).length<=xs.length:=by
 simp only[cutAt,fF,ma,List.length_drop];omega
theorem alu(hw:c.az.length<=4)(ah:dh c t.place=some x)(bG:0<=t.place):(eN c e t x).1.sz<=c.sz+4:=by
 unfold eN;have w1:∀di,(setW (eg c e di) t.place (gR x e)).sz+x.sz=c.sz+x.sz:=fun di=>by
  have:=vP (c:=eg c e di) (x:=gR x e) (CF.trans ah);rwa[Gs,alq]at this
 split
 ·split
  ·have:=w1 ⟨true,(c.az.length:Int)-1,0,false,x.bx.getD e.toNat false⟩;dsimp only;omega
  split
  ·split
   ·have:=w1 ⟨true,t.place-1,t.sum+x.bL.getD e.toNat 0,t.bU||x.bU.getD e.toNat false,t.du||x.bx.getD e.toNat false⟩;dsimp only;omega
   dsimp only;omega
  rename_i hp;have bu:t.place=0:=by omega
  split
  ·rw[bu]at ah;have a:=vP (c:=eg c e ⟨false,t.place,t.sum,t.bU,t.du⟩) (x:=told x e (t.du||x.bx.getD e.toNat false)) (CF.trans ah);rw[Gs,V']at a;have b:=V6 (c:=setW (eg c e ⟨false,t.place,t.sum,t.bU,t.du⟩) 0 (told x e (t.du||x.bx.getD e.toNat false))) (x:=c.news++hR (c.az.length-1) e (t.du||x.bx.getD e.toNat false));have d:(setW (eg c e ⟨false,t.place,t.sum,t.bU,t.du⟩) 0 (told x e (t.du||x.bx.getD e.toNat false))).news=c.news:=rfl;rw[d]at b;simp only[fF,hR,bl,An]at b;dsimp only;simp only[hR];omega
  dsimp only;rw[Gs];omega
 dsimp only;omega
theorem alv(h:cU c=true):c.az.length<=4:=by
 obtain⟨h1,U,_⟩:=ix.1 h;have:=mZ h1;omega
theorem NT(c:a')(p:cN):(dK c p).1.sz<=c.sz+4:=by
 have cX:c.sz<=c.sz+4:=by omega
 unfold dK;split
 ·unfold jL;split
  ·split
   ·rename_i x ah;have:=vP (x:=(e6 c.aE x).1) ah;have:=V7 c.aE x;dsimp only;omega
   exact cX
  exact cX
 split
 ·unfold jM;split
  ·split
   ·rename_i x ah;have:=vP (x:=(e5 c.aE x).1) ah;have:=V8 c.aE x;dsimp only;omega
   exact cX
  exact cX
 split
 ·unfold jN;split
  ·split
   ·rename_i x ah;split
    ·rename_i r t ao;have hu:=NS ao;unfold vK;split
     ·have:=vP (x:=kept (hn x t) r) ah;rw[alo]at this;dsimp only;omega
     split
     ·rename_i l ap;split
      ·have a:=NR (x:=(ez l r).1) ap;have b:=vP (c:=ec c (fp c.aE p.a (jK r.key c.aE.az)) (ez l r).1) (x:=lI (hn x t) r.bq.bd) (CE.trans ah);rw[alp]at b;have:=Wa l r;dsimp only;omega
      exact cX
     exact cX
    exact cX
   exact cX
  exact cX
 split
 ·unfold kB;split
  ·split
   ·rename_i l x ap ah;split
    ·have a:=NR (x:=(dY l).1) ap;have b:=vP (c:=ec c (fp c.aE p.a p.b) (dY l).1) (x:=ig x (dY l).2.1) (CE.trans ah);rw[V9]at b;have:=Wb l;dsimp only;omega
    exact cX
   exact cX
  exact cX
 split
 ·unfold jO;split
  ·split
   ·rename_i l ap;have a:=NR (x:=(fO l).1) ap;have:=Wc l;dsimp only;omega
   exact cX
  exact cX
 split
 ·unfold je;split
  ·rename_i aj;rw[cx]at aj;split
   ·rename_i ff t bG bT;split
    ·exact cX
    split
    ·rename_i x ah;exact alu (alv aj.1) ah (hS ah).1
    exact cX
   exact cX
  exact cX
 split
 ·unfold kx;split
  ·rename_i k hk;split
   ·split
    ·rename_i n x aX ah;have a:=vP (x:=gh x n) ah;have b:=V6 (c:=setW c p.a (gh x n)) (x:=cutAt c.news k);have d:(setW c p.a (gh x n)).news=c.news:=rfl;rw[d]at b;have:=alr x n;have:=als c.news k;dsimp only;omega
    exact cX
   exact cX
  exact cX
 exact cX
end Go.Proofs.YtdchjefneblpgaaGreat
namespace Go.Proofs.YtdchjefneblpgaaGreat
open Go.Sx Go.RowKit
theorem Wd(l:bw)(r:aq)(h:l.dy<=9223372036854775807):(ez l r).1.dy<=9223372036854775807:=by
 unfold ez;split<;>exact h
theorem We(l:bw)(h:l.dy<=9223372036854775807):(fO l).1.dy<=9223372036854775807:=by
 unfold fO;split<;>exact h
theorem Wf(l:bw)(h:l.dy<=9223372036854775807):(dY l).1.dy<=9223372036854775807:=by
 unfold dY;split
 ·rename_i hk;obtain⟨_,_,_,_,kR,_,kt,_⟩:=vN.1 hk;simp only[aw,cV]at kR;split
  ·exact h
  dsimp only;omega
 exact h
variable{c:a'}
theorem gl.ec{i:Int}{l:bw}(h:gl c)(ap:l.dy<=9223372036854775807):gl (ec c i l):=by
 intro x ah;rcases pH ah with h1 | rfl
 ·exact h x h1
 exact ap
theorem gl.at{i:Int}{x:bw}(h:hN c i=some x)(hw:gl c):x.dy<=9223372036854775807:=hw _ (eD (qk h).2.2)
structure oQ (c d:a'):Prop where
 aE:d.aE=c.aE
 dy:gl c->gl d
 x4:d.az.length=c.az.length
theorem oQ.rfl:oQ c c:=⟨Eq.refl _,id,Eq.refl _⟩
theorem oQ.bP{d:a'}(h1:d.aE=c.aE)(U:d.bP=c.bP)(ax:d.az.length=c.az.length:=by simp[setW,iL,eg,ec,told,gR]):oQ c d:=⟨h1,fun h x ah=>h x (U▸ah),ax⟩
theorem alw(c:a')(e:Int)(t:b4)(x:aP):oQ c (eN c e t x).1:=by
 unfold eN;split
 ·split
  ·exact .bP rfl rfl
  split
  ·split
   ·exact .bP rfl rfl
   exact .rfl
  split
  ·exact .bP rfl rfl
  exact .bP rfl rfl
 exact .rfl
theorem alx(c:a')(p:cN):oQ c (dK c p).1:=by
 unfold dK;split
 ·unfold jL;split
  ·split
   ·exact .bP rfl rfl
   exact .rfl
  exact .rfl
 split
 ·unfold jM;split
  ·split
   ·exact .bP rfl rfl
   exact .rfl
  exact .rfl
 split
 ·unfold jN;split
  ·split
   ·split
    ·unfold vK;split
     ·exact .bP rfl rfl
     split
     ·rename_i l ap;split
      ·exact⟨rfl,fun h=>gl.ec h (Wd l _ (gl.at ap h)),by simp[setW,ec]⟩
      exact .rfl
     exact .rfl
    exact .rfl
   exact .rfl
  exact .rfl
 split
 ·unfold kB;split
  ·split
   ·rename_i l x ap ah;split
    ·exact⟨rfl,fun h=>gl.ec h (Wf l (gl.at ap h)),by simp[setW,ec]⟩
    exact .rfl
   exact .rfl
  exact .rfl
 split
 ·unfold jO;split
  ·split
   ·rename_i l ap;exact⟨rfl,fun h=>gl.ec h (We l (gl.at ap h)),by simp[setW,ec]⟩
   exact .rfl
  exact .rfl
 split
 ·unfold je;split
  ·split
   ·split
    ·exact .rfl
    split
    ·exact alw c _ _ _
    exact .rfl
   exact .rfl
  exact .rfl
 split
 ·unfold kx;split
  ·split
   ·split
    ·exact .bP rfl rfl
    exact .rfl
   exact .rfl
  exact .rfl
 exact .rfl
theorem NU{α:Type}{f:α->List D}{xs:List α}{a:α}:(xs++[a]).map f=xs.map f++[f a]:=by simp
def eA:a'->List cN->a'×List Bool
 | c,[]=>(c,[])
 | c,p::l=>((eA (dK c p).1 l).1,(dK c p).2::(eA (dK c p).1 l).2)
theorem Wg(p:cN):∀(l:List cN) (c:a'),eA c (l++[p])=((dK (eA c l).1 p).1,(eA c l).2++[(dK (eA c l).1 p).2])
 | [],c=>rfl
 | q::l,c=>by
  have ee:=Wg p l (dK c q).1;simp only[List.cons_append,eA,ee]
theorem Wh{l:List cN}{i:Nat}{p:cN}(c:a')(h:l[i]?=some p):eA c (l.take (i+1))=((dK (eA c (l.take i)).1 p).1,(eA c (l.take i)).2++[(dK (eA c (l.take i)).1 p).2]):=by
 rw[uq,h,HW,Wg]
theorem NV:∀(l:List cN) (c:a'),(eA c l).2.length=l.length
 | [],_=>rfl
 | q::l,c=>by simp only[eA,eh,NV l]
theorem Gt:∀(l:List cN) (c:a'),(eA c l).1.sz<=c.sz+4*l.length
 | [],c=>fI _
 | q::l,c=>by
  have:=Gt l (dK c q).1;have:=NT c q;simp only[eA,eh];omega
theorem oQ.trans{d e:a'}(h:oQ c d)(k:oQ d e):oQ c e:=⟨k.aE.trans h.aE,fun x=>k.dy (h.dy x),k.x4.trans h.x4⟩
theorem NW:∀(l:List cN) (c:a'),oQ c (eA c l).1
 | [],_=>.rfl
 | q::l,c=>(alx c q).trans (NW l _)
theorem NY{α:Type}(i:Nat)(l:List α):(l.take i).length<=l.length:=by rw[ma];omega
theorem Wi(c:a')(l:List cN)(i:Nat):(eA c (l.take i)).1.sz<=c.sz+4*l.length:=by
 have:=Gt (l.take i) c;have:=NY i l;omega
def uD(l:List Bool):Nat:=(l.filter id).length
theorem aly(l:List Bool):uD l<=l.length:=qw _ _
theorem alz(l:List Bool)(b:Bool):uD (l++[b])=uD l+(if b then 1 else 0):=by
 cases b<;>simp[uD]
end Go.Proofs.YtdchjefneblpgaaGreat
namespace Go.Proofs.YtdchjefneblpgaaGreat
open Go.Sx Go.RowKit
inductive Step (c:a') (p:cN):a'->Prop
 | work (x:aP) (r:aq) (q:List aq) (hk:p.kind=1) (ah:dh c p.a=some x) (ao:x.cj=[]) (aK:x.queue=r::q):
   Step c p (setW c p.a ⟨q,(dB c.aE x.cells r).2.1,x.bO,(dB c.aE x.cells r).1,x.bL,x.bU,(if du c.aE r then x.bx.set r.bq.bd.toNat true else x.bx),x.b8⟩)
 | input (x:aP) (r:aq) (t:List aq) (hk:p.kind=2) (ah:dh c p.a=some x) (ao:x.cj=[]) (aK:x.queue=[]) (hi:x.bO=r::t):
   Step c p (setW c p.a ⟨[r],[],t,x.cells,x.bL,x.bU,x.bx,x.b8⟩)
 | fU (x:aP) (r:aq) (t:List aq) (hk:p.kind=3) (ah:dh c p.a=some x) (ao:x.cj=r::t) (ba:jK r.key c.aE.az=p.a):
   Step c p (setW c p.a (kept (hn x t) r))
 | send (x:aP) (r:aq) (t:List aq) (l:bw) (hk:p.kind=3) (ah:dh c p.a=some x) (ao:x.cj=r::t) (ba:jK r.key c.aE.az≠p.a)
   (ap:hN c (fp c.aE p.a (jK r.key c.aE.az))=some l) (h:(ez l r).2=true):
   Step c p (setW (ec c (fp c.aE p.a (jK r.key c.aE.az)) (ez l r).1) p.a (lI (hn x t) r.bq.bd))
 | take (l:bw) (x:aP) (hk:p.kind=4) (fk:p.a≠p.b) (ap:hN c (fp c.aE p.a p.b)=some l) (ah:dh c p.b=some x) (h:(dY l).2.2=true):
   Step c p (setW (ec c (fp c.aE p.a p.b) (dY l).1) p.b (ig x (dY l).2.1))
 | DZ (l:bw) (hk:p.kind=5) (fk:p.a≠p.b) (ap:hN c (fp c.aE p.a p.b)=some l) (h:(fO l).2=true):
   Step c p (ec c (fp c.aE p.a p.b) (fO l).1)
 | token (t:b4) (x ff:aP) (hk:p.kind=6) (he:aw p.a 0 3=true) (bG:dh c 0=some ff) (aG:ja ff p.a=false) (bT:kD c p.a=some t) (ah:dh c t.place=some x) (h:(eN c p.a t x).2=true):
   Step c p (eN c p.a t x).1
 | Eh (k:Nat) (n:b1) (x:aP) (hk:p.kind=7) (aX:c.news[k]?=some n) (aG:n.dest=p.a) (ah:dh c p.a=some x):
   Step c p (iL (setW c p.a (gh x n)) (cutAt c.news k))
theorem Wj(g:b9)(w:aP):((e6 g w).2=false/\(e6 g w).1=w)\/
  ((e6 g w).2=true/\∃r q,w.cj=[]/\w.queue=r::q/\(e6 g w).1=⟨q,(dB g w.cells r).2.1,w.bO,(dB g w.cells r).1,w.bL,w.bU,(if du g r then w.bx.set r.bq.bd.toNat true else w.bx),w.b8⟩):=by
 unfold e6;split
 ·split
  ·rename_i r q ao aK;exact .inr ⟨rfl,r,q,ao,aK,rfl⟩
  exact .inl ⟨rfl,rfl⟩
 exact .inl ⟨rfl,rfl⟩
theorem Wk(g:b9)(w:aP):((e5 g w).2=false/\(e5 g w).1=w)\/
  ((e5 g w).2=true/\∃r t,w.cj=[]/\w.queue=[]/\w.bO=r::t/\(e5 g w).1=⟨[r],[],t,w.cells,w.bL,w.bU,w.bx,w.b8⟩):=by
 unfold e5;split
 ·split
  ·rename_i r t ao aK hi;exact .inr ⟨rfl,r,t,ao,aK,hi,rfl⟩
  exact .inl ⟨rfl,rfl⟩
 exact .inl ⟨rfl,rfl⟩
theorem VM{l:bw}{r:aq}(h:(ez l r).2=true):jz l=true/\l.eX≠0/\l.fq<1000000000/\(ez l r).1=⟨l.cap,l.queue++[r],l.eX-1,l.back,l.fq+1,l.dy⟩:=by
 unfold ez at h ⊢;split
 ·rename_i aj;simp only[cx,bne_iff_ne,gy,cV]at aj;exact⟨aj.1.1.1,aj.1.2,aj.2,rfl⟩
 rename_i aj;rw[bk aj]at h;cases h
theorem VN{l:bw}(h:(dY l).2.2=true):jz l=true/\∃r q,l.queue=r::q/\(dY l).2.1=r/\(dY l).1=⟨l.cap,q,l.eX,l.back+1,l.fq,l.dy+1⟩:=by
 unfold dY at h ⊢;split
 ·rename_i aj;rw[bm aj]at h;refine⟨aj,?_⟩;cases aK:l.queue with
  | nil=>rw[aK]at h;cases h
  | cons r q=>exact⟨r,q,rfl,rfl,rfl⟩
 rename_i aj;rw[bk aj]at h;cases h
theorem NZ(l:bw):((fO l).2=false/\(fO l).1=l)\/((fO l).2=true/\jz l=true/\l.back≠0/\(fO l).1=⟨l.cap,l.queue,l.eX+1,l.back-1,l.fq,l.dy⟩):=by
 unfold fO;split
 ·rename_i aj;simp only[cx,bne_iff_ne,gy]at aj;exact .inr ⟨rfl,aj.1,aj.2,rfl⟩
 exact .inl ⟨rfl,rfl⟩
theorem CG (c : a') (e : Int) (t : b4) (x : aP) : ((eN c e t x).2 = false /\ (eN c e t x).1 = c) \/ ((eN c e t x).2 = true /\ k1 x e = true /\
    ((t.going = false /\ (eN c e t x).1 = setW (eg c e ⟨true, (c.az.length : Int) - 1, 0, false, x.bx.getD e.toNat false⟩) t.place (gR x e)) \/
     (t.going = true /\ 0 < t.place /\ (eN c e t x).1 = setW (eg c e ⟨true, t.place - 1, t.sum + x.bL.getD e.toNat 0, t.bU || x.bU.getD e.toNat false, t.du || x.bx.getD e.toNat false⟩) t.place (gR x e)) \/
     (t.going = true /\ ¬ 0 < t.place /\ (t.bU = false /\ x.bU.getD e.toNat false = false /\ t.sum + x.bL.getD e.toNat 0 = 0) /\
       (eN c e t x).1 = iL (setW (eg c e ⟨false, t.place, t.sum, t.bU, t.du⟩) 0 (told x e (t.du || x.bx.getD e.toNat false))) (c.news ++ hR (c.az.length - 1) e (t.du || x.bx.getD e.toNat false))) \/
     (t.going = true /\ ¬ 0 < t.place /\ ¬ (t.bU = false /\ x.bU.getD e.toNat false = false /\ t.sum + x.bL.getD e.toNat 0 = 0) /\ (eN c e t x).1 = eg c e ⟨false, t.place, t.sum, t.bU, t.du⟩))) := by
  unfold eN;split
  case isFalse => exact .inl ⟨rfl, rfl⟩
  rename_i hp;cases ay : t.going with
  | false => exact .inr ⟨rfl, hp, .inl ⟨rfl, rfl⟩⟩
  | true =>
    rw [bk (by simp)];split
    · rename_i bG;split
      · exact .inr ⟨rfl, hp, .inr (.inl ⟨rfl, bG, rfl⟩)⟩
      exact .inl ⟨rfl, rfl⟩
    rename_i bG;split
    · rename_i aj;simp only [cx, gT, dE] at aj;exact .inr ⟨rfl, hp, .inr (.inr (.inl ⟨rfl, bG, ⟨aj.1.1, aj.1.2, aj.2⟩, rfl⟩))⟩
    rename_i aj;refine .inr ⟨rfl, hp, .inr (.inr (.inr ⟨rfl, bG, fun aX => aj ?_, rfl⟩))⟩;simp only [cx, gT, dE];exact ⟨⟨aX.1, aX.2.1⟩, aX.2.2⟩
theorem VO(c:a')(p:cN):((dK c p).2=false/\(dK c p).1=c)\/(cU c=true/\(dK c p).2=true/\Step c p (dK c p).1):=by
 unfold dK;split
 ·rename_i hk;unfold jL;split
  case isFalse=>exact .inl ⟨rfl,rfl⟩
  rename_i cF;cases ah:dh c p.a with
  | none=>exact .inl ⟨rfl,rfl⟩
  | some x=>
   rcases Wj c.aE x with⟨h1,U⟩ | ⟨h1,r,q,ao,aK,U⟩
   ·exact .inl ⟨h1,by dsimp only;rw[U];exact tW ah⟩
   refine .inr ⟨cF,h1,?_⟩;dsimp only;rw[U];exact .work x r q hk ah ao aK
 split
 ·rename_i hk;unfold jM;split
  case isFalse=>exact .inl ⟨rfl,rfl⟩
  rename_i cF;cases ah:dh c p.a with
  | none=>exact .inl ⟨rfl,rfl⟩
  | some x=>
   rcases Wk c.aE x with⟨h1,U⟩ | ⟨h1,r,t,ao,aK,hi,U⟩
   ·exact .inl ⟨h1,by dsimp only;rw[U];exact tW ah⟩
   refine .inr ⟨cF,h1,?_⟩;dsimp only;rw[U];exact .input x r t hk ah ao aK hi
 split
 ·rename_i hk;unfold jN;split
  case isFalse=>exact .inl ⟨rfl,rfl⟩
  rename_i cF;cases ah:dh c p.a with
  | none=>exact .inl ⟨rfl,rfl⟩
  | some x=>
   dsimp only;cases ao:x.cj with
   | nil=>exact .inl ⟨rfl,rfl⟩
   | cons r t=>
    dsimp only;unfold vK;split
    ·rename_i ba;exact .inr ⟨cF,rfl,.fU x r t hk ah ao ba⟩
    rename_i ba;cases ap:hN c (fp c.aE p.a (jK r.key c.aE.az)) with
    | none=>exact .inl ⟨rfl,rfl⟩
    | some l=>
     dsimp only;split
     ·rename_i h;exact .inr ⟨cF,rfl,.send x r t l hk ah ao ba ap h⟩
     exact .inl ⟨rfl,rfl⟩
 split
 ·rename_i hk;unfold kB;split
  case isFalse=>exact .inl ⟨rfl,rfl⟩
  rename_i aj;simp only[cx,bne_iff_ne,gy]at aj;cases ap:hN c (fp c.aE p.a p.b) with
  | none=>exact .inl ⟨rfl,rfl⟩
  | some l=>
   cases ah:dh c p.b with
   | none=>exact .inl ⟨rfl,rfl⟩
   | some x=>
    dsimp only;split
    ·rename_i h;exact .inr ⟨aj.1,rfl,.take l x hk aj.2 ap ah h⟩
    exact .inl ⟨rfl,rfl⟩
 split
 ·rename_i hk;unfold jO;split
  case isFalse=>exact .inl ⟨rfl,rfl⟩
  rename_i aj;simp only[cx,bne_iff_ne,gy]at aj;cases ap:hN c (fp c.aE p.a p.b) with
  | none=>exact .inl ⟨rfl,rfl⟩
  | some l=>
   rcases NZ l with⟨h1,U⟩ | ⟨h1,_⟩
   ·exact .inl ⟨h1,by dsimp only;rw[U];exact alJ ap⟩
   exact .inr ⟨aj.1,h1,.DZ l hk aj.2 ap h1⟩
 split
 ·rename_i hk;unfold je;split
  case isFalse=>exact .inl ⟨rfl,rfl⟩
  rename_i aj;simp only[cx]at aj;cases bG:dh c 0 with
  | none=>exact .inl ⟨rfl,rfl⟩
  | some ff=>
   cases bT:kD c p.a with
   | none=>exact .inl ⟨rfl,rfl⟩
   | some t=>
    dsimp only;cases aG:ja ff p.a with
    | true=>exact .inl ⟨rfl,rfl⟩
    | false=>
     rw[bk (by simp)];cases ah:dh c t.place with
     | none=>exact .inl ⟨rfl,rfl⟩
     | some x=>
      dsimp only;rcases CG c p.a t x with h1 | ⟨h1,_⟩
      ·exact .inl h1
      exact .inr ⟨aj.1,h1,.token t x ff hk aj.2 bG aG bT ah h1⟩
 split
 ·rename_i hk;unfold kx;cases b2:c.news.findIdx? (fun n=>n.dest==p.a) with
  | none=>exact .inl ⟨rfl,rfl⟩
  | some k=>
   dsimp only;split
   case isFalse=>exact .inl ⟨rfl,rfl⟩
   rename_i cF;cases aX:c.news[k]? with
   | none=>exact .inl ⟨rfl,rfl⟩
   | some n=>
    cases ah:dh c p.a with
    | none=>exact .inl ⟨rfl,rfl⟩
    | some x=>
     dsimp only;have aG:n.dest=p.a:=by
      have:=qs.1 b2;obtain⟨ap,hp,_⟩:=this;rw[fJ ap]at aX;rw[eW aX]at hp;simpa using hp
     exact .inr ⟨cF,rfl,.Eh k n x hk aX aG ah⟩
 exact .inl ⟨rfl,rfl⟩
end Go.Proofs.YtdchjefneblpgaaGreat
namespace Go.Proofs.YtdchjefneblpgaaGreat
open Go.Sx Go.RowKit Go.Sort
theorem VP{xs ys:List aq}(h:xs.Perm ys):jh (ltOf gO) xs=jh (ltOf gO) ys:=by
 obtain⟨h1,U⟩:=zt zZ xs [] List.Pairwise.nil;obtain⟨ax,aF⟩:=zt zZ ys [] List.Pairwise.nil;refine List.Perm.eq_of_pairwise (le:=fun x y=>(!ltOf gO y x)=true) ?_ h1 ax ((show (jh (ltOf gO) xs).Perm xs from U).trans (h.trans (show (jh (ltOf gO) ys).Perm ys from aF).symm));intro a b _ _ aZ bB;simp only[gT]at aZ bB;exact OV a b bB aZ
def mH(a:aq)(w:aP):Nat:=w.queue.count a+w.cj.count a
def wv(a:aq)(l:bw):Nat:=l.queue.count a
def x2{α:Type}(f:α->Nat)(xs:List α):Nat:=(xs.map f).sum
theorem N0{α:Type}{f:α->Nat}{y:α}(x:α){xs:List α}{i:Nat}(h:xs[i]?=some y):x2 f (xs.set i x)+f y=x2 f xs+f x:=by
 have:=xO (sz:=f) x h;simp only[fs,fR]at this;unfold x2;omega
theorem N1{α:Type}(f:α->List aq)(a:aq):∀xs:List α,(xs.flatMap f).count a=x2 (fun x=>(f x).count a) xs
 | []=>rfl
 | x::xs=>by
  rw[List.flatMap_cons,List.count_append,N1 f a xs];rfl
theorem sF(c:a')(a:aq):(hQ c).count a=x2 (mH a) c.az+x2 (wv a) c.bP:=by
 unfold hQ;rw[List.count_append,N1,N1]
 congr 1
 congr 1
 funext w;simp only[iH,List.count_append,mH]
theorem xP{c:a'}{i:Int}{y:aP}(x:aP)(h:dh c i=some y)(a:aq):(hQ (setW c i x)).count a+mH a y=(hQ c).count a+mH a x:=by
 rw[sF,sF];have:=N0 (f:=mH a) x (hS h).2.2;simp only[setW];omega
theorem N2{c:a'}{i:Int}{y:bw}(x:bw)(h:hN c i=some y)(a:aq):(hQ (ec c i x)).count a+wv a y=(hQ c).count a+wv a x:=by
 rw[sF,sF];have:=N0 (f:=wv a) x (qk h).2.2;simp only[ec];omega
theorem zE{c d:a'}(h:∀a,(hQ d).count a=(hQ c).count a):fc d=fc c:=VP (List.perm_iff_count.2 h)
end Go.Proofs.YtdchjefneblpgaaGreat
namespace Go.Proofs.YtdchjefneblpgaaGreat
open Go.Sx Go.RowKit
def hU(e:Int)(x:aP):Int:=x.bL.getD e.toNat 0
def lv(e:Int)(x:aP):Bool:=x.bU.getD e.toNat false
def n5(e:Int)(x:aP):Bool:=x.bx.getD e.toNat false
def kY(e:Int)(c:a')(k:Nat):Int:=((c.az.take k).map (hU e)).sum
def ks(e:Int)(c:a'):Nat:=x2 (rf e) c.bP
def quiet(e:Int)(c:a'):Prop:=(∀x∈c.az,k1 x e=true)/\ks e c=0
def Good(e:Int)(c:a')(t:b4):Prop:=
 ((∀(i:Nat) x,t.place<i->c.az[i]?=some x->k1 x e=true/\(n5 e x=true->t.du=true))/\kY e c (t.place+1).toNat+t.sum=ks e c)\/
 0<kY e c (t.place+1).toNat+t.sum\/(∃(i:Nat) (x:aP),(i:Int)<=t.place/\c.az[i]?=some x/\lv e x=true)\/t.bU=true
structure Inv (e:Int) (c:a'):Prop where
 total:kY e c c.az.length=ks e c
 token:∀t,kD c e=some t->t.going=true->Good e c t
 CZ:(Aa c e||sP c e)=true->quiet e c
theorem CH{α:Type}(f:α->Int){y:α}(x:α):∀{xs:List α} {i k:Nat},xs[i]?=some y->(((xs.set i x).take k).map f).sum=((xs.take k).map f).sum+(if i<k then f x-f y else 0)
 | [],_,_,h=>by simp at h
 | a::xs,0,0,h=>by simp
 | a::xs,0,k+1,h=>by
  obtain rfl:a=y:=by simpa using h
  simp only[List.set_cons_zero,List.take_succ_cons,l',we];rw[bm (by omega)];omega
 | a::xs,i+1,0,h=>by simp
 | a::xs,i+1,k+1,h=>by
  have ee:=CH f x (xs:=xs) (i:=i) (k:=k) (by simpa using h);simp only[List.set_cons_succ,List.take_succ_cons,l',we,ee];by_cases hk:i<k
  ·rw[bm hk,bm (by omega)];omega
  rw[bk hk,bk (by omega)];omega
variable{i j:Nat}
theorem N3{α:Type}{xs:List α}{y z:α}(h:(xs.set i y)[j]?=some z):(j=i/\z=y)\/(j≠i/\xs[j]?=some z):=by
 rw[k6]at h;split at h
 ·rename_i lf;split at h
  ·exact .inl ⟨lf.symm,(eW h).symm⟩
  cases h
 exact .inr ⟨fun q=>‹¬i=j› q.symm,h⟩
theorem Gu{α:Type}{xs:List α}{x y:α}(h:xs[i]?=some x):(xs.set i y)[i]?=some y:=by
 rw[k6,bm rfl,bm (aT h)]
theorem N4{α:Type}{xs:List α}{y z:α}(h:xs[j]?=some z)(a1:j≠i):(xs.set i y)[j]?=some z:=by
 rw[k6,bk (fun q=>a1 q.symm),h]
theorem N5{α:Type}{xs:List α}{x:α}(h:xs[i]?=some x):xs.set i x=xs:=by
 have ap:=aT h;rw[fJ ap]at h;rw[<-eW h];exact List.set_getElem_self ap
variable{e:Int}{c:a'}{x:aP}
theorem Inv.worker{i:Int}{d:a'}{y:aP}(h:Inv e c)(ah:dh c i=some x)(hw:d.az=c.az.set i.toNat y)(bT:kD d e=kD c e)
  (ade:(Aa d e||sP d e)=true->(Aa c e||sP c e)=true)
  (aj:(hU e y=hU e x/\(lv e x=true->lv e y=true)/\ks e d=ks e c/\(k1 x e=true->k1 y e=true/\n5 e y=n5 e x))\/
   (k1 x e=false/\hU e y=hU e x+1/\(lv e x=true->lv e y=true)/\ks e d=ks e c+1)\/
   (ks e c=ks e d+1/\hU e y=hU e x-1/\lv e y=true)):Inv e d:=by
 obtain⟨i0,i1,i2⟩:=hS ah;have hlen:d.az.length=c.az.length:=by rw[hw,fR]
 have yF:∀k,kY e d k=kY e c k+(if i.toNat<k then hU e y-hU e x else 0):=fun k=>by
  unfold kY;rw[hw];exact CH (hU e) y i2
 have o7:x∈c.az:=eD i2;refine⟨?_,fun t jr ay=>?_,fun jr=>?_⟩
 ·rw[yF,hlen,bm i1,h.total];rcases aj with⟨h1,_,ax,_⟩ | ⟨_,U,_,aF⟩ | ⟨h1,U,_⟩<;>omega
 ·have hI:=h.token t (bT▸jr) ay;unfold Good at hI ⊢;rw[yF];have QY:(lv e x=true->lv e y=true)->(∃(j:Nat) (z:aP),(j:Int)<=t.place/\c.az[j]?=some z/\lv e z=true)->∃(j:Nat) (z:aP),(j:Int)<=t.place/\d.az[j]?=some z/\lv e z=true:=by
   rintro av ⟨j,z,g1,g2,g3⟩;by_cases a1:j=i.toNat
   ·subst a1;rw[i2]at g2;cases g2;exact⟨_,y,g1,by rw[hw];exact Gu i2,av g3⟩
   exact⟨j,z,g1,by rw[hw];exact N4 g2 a1,g3⟩
  rcases aj with⟨h1,U,ax,aF⟩ | ⟨h1,U,ax,aF⟩ | ⟨h1,U,ax⟩
  ·rcases hI with⟨eJ,D9⟩ | g | g | g
   ·refine .inl ⟨fun j z a1 bi=>?_,?_⟩
    ·rw[hw]at bi;rcases N3 bi with⟨rfl,rfl⟩ | ⟨_,bi⟩
     ·have:=eJ _ x a1 i2;obtain⟨cG,bM⟩:=aF this.1;exact⟨cG,fun gA=>this.2 (bM▸gA)⟩
     exact eJ j z a1 bi
    ·split<;>omega
   ·exact .inr (.inl (by split<;>omega))
   ·exact .inr (.inr (.inl (QY U g)))
   exact .inr (.inr (.inr g))
  ·rcases hI with⟨eJ,D9⟩ | g | g | g
   ·have hle:¬t.place<i.toNat:=fun bz=>by
     have:=(eJ _ x bz i2).1;rw[h1]at this;cases this
    refine .inl ⟨fun j z a1 bi=>?_,?_⟩
    ·rw[hw]at bi;rcases N3 bi with⟨rfl,rfl⟩ | ⟨_,bi⟩
     ·exact absurd a1 hle
     exact eJ j z a1 bi
    rw[bm (by omega)];omega
   ·exact .inr (.inl (by split<;>omega))
   ·exact .inr (.inr (.inl (QY ax g)))
   exact .inr (.inr (.inr g))
  by_cases hle:(i.toNat:Int)<=t.place
  ·exact .inr (.inr (.inl ⟨i.toNat,y,hle,by rw[hw];exact Gu i2,ax⟩))
  rw[bk (by omega)];rcases hI with⟨_,D9⟩ | g | ⟨j,z,g1,g2,g3⟩ | g
  ·exact .inr (.inl (by omega))
  ·exact .inr (.inl (by omega))
  ·exact .inr (.inr (.inl ⟨j,z,g1,by rw[hw];exact N4 g2 (by omega),g3⟩))
  exact .inr (.inr (.inr g))
 obtain⟨q1,iv⟩:=h.CZ (ade jr);have hp:=q1 x o7;rcases aj with⟨_,_,ax,aF⟩ | ⟨h1,_⟩ | ⟨h1,_⟩
 ·refine⟨fun z bi=>?_,by omega⟩;rw[hw]at bi;rcases pH bi with bi | rfl
  ·exact q1 z bi
  exact (aF hp).1
 ·rw[hp]at h1;cases h1
 omega
theorem rk:k1 x e=true<->(∀r∈x.bO,e<r.bq.bd)/\(∀r∈x.queue,r.bq.bd≠e)/\∀r∈x.cj,r.bq.bd≠e:=by
 simp only[k1,xN,WH,mS,cx,gT,ik,cV,dE];rw[show ∀a b:Nat,a+b=0<->a=0/\b=0 from fun a b=>by omega,List.length_eq_zero_iff,List.length_eq_zero_iff,List.filter_eq_nil_iff,List.filter_eq_nil_iff];simp only[dE,Int.not_le]
variable{g:b9}
theorem akY{cs:List Cell}{r:aq}:∀q∈(dB g cs r).2.1,q.bq.bd=r.bq.bd:=by
 intro q aK;unfold dB at aK;split at aK
 ·rename_i n _;unfold dX at aK;have ao:∀s:gz,s.bd=r.bq.bd->∀k v,q∈jg n s k v->q.bq.bd=r.bq.bd:=by
   intro s Ew k v hm;simp only[jg,lo]at hm;obtain⟨o,_,rfl⟩:=hm;exact Ew
  have aX:(fl r.bq).1.bd=r.bq.bd:=by
   unfold fl;split<;>rfl
  grind
 cases aK
theorem CI{α:Type}{xs:List α}{a d:α}(h:i≠j):(xs.set i a).getD j d=xs.getD j d:=by
 simp only[jB,k6,bk h]
theorem N6{α:Type}{xs:List α}{a d:α}(h:i<xs.length):(xs.set i a).getD i d=a:=by
 simp[jB,h]
theorem N7{i e:Int}{l m:bw}(h:hN c i=some l):ks e (ec c i m)+rf e l=ks e c+rf e m:=by
 unfold ks;exact N0 m (qk h).2.2
theorem akZ(e cap:Int)(q:List aq)(r:aq)(a b s g:Int)(l:bw)(ap:l.queue=q):rf e ⟨cap,q++[r],a,b,s,g⟩=rf e l+(if r.bq.bd=e then 1 else 0):=by
 simp only[rf,mS,List.filter_append,fF,ap,List.filter_cons,List.filter_nil,dE];split<;>rfl
theorem ak0(e:Int)(r:aq)(q:List aq)(l:bw)(ap:l.queue=r::q)(cap a b s g:Int):rf e l=rf e ⟨cap,q,a,b,s,g⟩+(if r.bq.bd=e then 1 else 0):=by
 simp only[rf,mS,ap,List.filter_cons,dE];split<;>simp
theorem rl{c d:a'}{i:Int}{y:aP}(ah:dh c i=some x)(aG:d.az=c.az.set i.toNat y)(h:ja y e=true->ja x e=true\/sP c e=true)(aX:sP d e=true->sP c e=true):
  (Aa d e||sP d e)=true->(Aa c e||sP c e)=true:=by
 simp only[oO];rintro (hw | hw)
 ·unfold Aa at hw ⊢;rw[aG,qy]at hw;obtain⟨z,bi,Q'⟩:=hw;rcases pH bi with bi | rfl
  ·exact .inl (qy.2 ⟨z,bi,Q'⟩)
  rcases h Q' with h1 | h1
  ·exact .inl (qy.2 ⟨x,eD (hS ah).2.2,h1⟩)
  exact .inr h1
 exact .inr (aX hw)
theorem CJ{a b:Int}(ak:0<=a)(av:0<=b)(h:a≠b):a.toNat≠b.toNat:=by omega
variable{f:Int}
theorem VQ{d:Int}(he:0<=e/\e<=3)(b2:0<=f/\f<=3){xs:List Int}(ap:xs.length=4):(nM xs f d).getD e.toNat 0=xs.getD e.toNat 0+(if f=e then d else 0):=by
 unfold nM;by_cases h:f=e
 ·subst h;rw[N6 (by omega),bm rfl]
 rw[CI (CJ b2.1 he.1 h),bk h];omega
theorem N8{w:aP}(h:fe g w=true):w.bL.length=4/\w.bU.length=4/\w.bx.length=4:=by
 obtain⟨_,_,_,_,aZ,bB,bS,_⟩:=ke.1 h;exact⟨aZ,bB,bS⟩
theorem VR{xs:List aq}(h:gP g xs=true){r:aq}(aA:r∈xs):0<=r.bq.bd/\r.bq.bd<=3:=by
 simp only[gP,gT,ik]at h;exact rj (g:=g) (by simpa using h r aA)
theorem VS{b:Bool}:ja (told x f b) e=(ja x e||f==e):=by
 simp[ja,told]
theorem ak1{n:b1}:ja (gh x n) e=(ja x e||n.bd==e):=by
 unfold gh;split
 ·rename_i h;by_cases he:n.bd=e
  ·subst he;rw[h];rfl
  have:(n.bd==e)=false:=by simpa using he
  rw[this,Bool.or_false]
 exact VS
theorem ak2{n:b1}:k1 (gh x n) e=k1 x e:=by
 unfold gh;split<;>rfl
theorem ak3{x:aP}{n:b1}{e:Int}:hU e (gh x n)=hU e x/\lv e (gh x n)=lv e x/\n5 e (gh x n)=n5 e x:=by
 unfold gh;split<;>exact⟨rfl,rfl,rfl⟩
theorem VT{k:Nat}(h:c.az[k]?=some x):kY e c (k+1)=kY e c k+hU e x:=by
 simp[kY,uq,h]
variable{t:b4}
theorem Gv(he:0<=e)(b2:0<=f)(h:f≠e):(if 0<=e then (c.tokens.set f.toNat t)[e.toNat]? else none)=kD c e:=by
 unfold kD;rw[k6,bk (CJ b2 he h)]
theorem ak4{n:Nat}{b:Bool}(h:f≠e):((c.news++hR n f b).any fun x=>x.bd==e)=sP c e:=by
 rw[List.any_append];have:((hR n f b).any fun x=>x.bd==e)=false:=by
  rw[ik];intro x ah;simp only[hR,lo]at ah;obtain⟨_,_,rfl⟩:=ah;simpa using h
 rw[this,Bool.or_false];rfl
theorem Inv.aBD(h:Inv e c)(he:0<=e)(b2:0<=f)(cC:f≠e)(ah:dh c t.place=some x):Inv e (eN c f t x).1:=by
 have Y0:lv e (gR x f)=lv e x:=by
  unfold lv gR;exact CI (CJ b2 he cC)
 rcases CG c f t x with⟨_,U⟩ | ⟨_,_,h1⟩
 ·rw[U];exact h
 rcases h1 with⟨_,U⟩ | ⟨_,_,U⟩ | ⟨_,bG,_,U⟩ | ⟨_,_,_,U⟩
 ·rw[U];exact h.worker ah rfl (Gv he b2 cC) (rl ah rfl (fun k=>.inl k) id) (.inl ⟨rfl,fun k=>Y0.trans k,rfl,fun k=>⟨k,rfl⟩⟩)
 ·rw[U];exact h.worker ah rfl (Gv he b2 cC) (rl ah rfl (fun k=>.inl k) id) (.inl ⟨rfl,fun k=>Y0.trans k,rfl,fun k=>⟨k,rfl⟩⟩)
 ·rw[U];have bi:t.place=0:=by have:=(hS ah).1;omega
  rw[bi]at ah;refine h.worker ah rfl (Gv he b2 cC) (rl ah rfl (fun k=>?_) (fun k=>(ak4 cC).symm.trans k)) (.inl ⟨rfl,id,rfl,fun k=>⟨k,rfl⟩⟩);rw[VS]at k;have:(f==e)=false:=by simpa using cC
  rw[this,Bool.or_false]at k;exact .inl k
 rw[U];exact h.worker (y:=x) ah (N5 (hS ah).2.2).symm (Gv he b2 cC) (rl ah (N5 (hS ah).2.2).symm (fun k=>.inl k) id) (.inl ⟨rfl,id,rfl,fun k=>⟨k,rfl⟩⟩)
theorem ak5{n:Int}(h:0<=n):(n+1).toNat=n.toNat+1:=by omega
theorem ak6{n:Int}:(n-1+1).toNat=n.toNat:=by rw[Int.sub_add_cancel]
theorem N9{u:b4}(h:kD c e=some t):(if 0<=e then (c.tokens.set e.toNat u)[e.toNat]? else none)=some u:=by
 obtain⟨bG,_,U⟩:=Gn h;rw[bm bG];exact Gu U
theorem Inv.over(h:Inv e c)(bT:kD c e=some t)(ay:t.going=true)(bG:¬0<t.place)(ah:dh c t.place=some x)(hp:k1 x e=true)
  (av:t.bU=false/\x.bU.getD e.toNat false=false/\t.sum+x.bL.getD e.toNat 0=0):quiet e c/\((t.du||n5 e x)=false->∀z∈c.az,n5 e z=false):=by
 have bi:t.place=0:=by have:=(hS ah).1;omega
 obtain⟨_,_,gS⟩:=hS ah;rw[bi]at gS;have ao:kY e c 1=hU e x:=by rw[VT (k:=0) gS];simp[kY]
 have hI:=h.token t bT ay;unfold Good at hI;rw[bi]at hI;change ((_/\kY e c 1+t.sum=_)\/0<kY e c 1+t.sum\/_) at hI;rw[ao]at hI;have Ee:t.sum+hU e x=0:=av.2.2;rcases hI with⟨eJ,D9⟩ | g | ⟨i,z,g1,g2,g3⟩ | g
 ·have key:∀z∈c.az,k1 z e=true/\(n5 e z=true->(t.du||n5 e x)=true):=by
   intro z bi;obtain⟨i,hi⟩:=List.getElem?_of_mem bi;by_cases h1:i=0
   ·subst h1;rw[show c.az[0]?=some x from gS]at hi;cases hi;exact⟨hp,fun k=>by rw[k,Bool.or_true]⟩
   obtain⟨cG,bM⟩:=eJ i z (by omega) hi;exact⟨cG,fun k=>by rw[bM k,Bool.true_or]⟩
  refine⟨⟨fun z bi=>(key z bi).1,by omega⟩,fun gA z bi=>?_⟩;cases abS:n5 e z with
  | false=>rfl
  | true=>rw[(key z bi).2 abS]at gA;cases gA
 ·omega
 ·have:i=0:=by omega
  subst this;rw[show c.az[0]?=some x from gS]at g2;cases g2;rw[show lv e x=false from av.2.1]at g3;cases g3
 rw[av.1]at g;cases g
theorem Inv.aBE(h:Inv e c)(cF:cU c=true)(bT:kD c e=some t)(ah:dh c t.place=some x):Inv e (eN c e t x).1:=by
 obtain⟨i0,i1,i2⟩:=hS ah;obtain⟨_,_,RI,_⟩:=zD.1 (NO cF bT);rcases CG c e t x with⟨_,U⟩ | ⟨_,hp,h1⟩
 ·rw[U];exact h
 have whole:∀u:b4,(u.going=true->Good e (setW (eg c e u) t.place (gR x e)) u)->Inv e (setW (eg c e u) t.place (gR x e)):=by
  intro u hu;have yF:∀k,kY e (setW (eg c e u) t.place (gR x e)) k=kY e c k:=fun k=>by
   have:=CH (hU e) (gR x e) (k:=k) i2;rw[show hU e (gR x e)=hU e x from rfl,Int.sub_self,ite_self,Int.add_zero]at this;exact this
  refine⟨?_,fun di jr ay=>?_,fun jr=>?_⟩
  ·rw[yF,show (setW (eg c e u) t.place (gR x e)).az.length=c.az.length from fR];exact h.total
  ·rw[show kD (setW (eg c e u) t.place (gR x e)) e=some u from N9 bT]at jr;cases jr;exact hu ay
  obtain⟨q1,iv⟩:=h.CZ (rl (c:=c) (d:=setW (eg c e u) t.place (gR x e)) ah rfl (fun k=>.inl k) id jr);refine⟨fun z bi=>?_,iv⟩;rcases pH bi with bi | rfl
  ·exact q1 z bi
  exact hp
 have yV:∀(u:b4) k,kY e (setW (eg c e u) t.place (gR x e)) k=kY e c k:=fun u k=>by
  have:=CH (hU e) (gR x e) (k:=k) i2;rw[show hU e (gR x e)=hU e x from rfl,Int.sub_self,ite_self,Int.add_zero]at this;exact this
 rcases h1 with⟨ay,U⟩ | ⟨ay,bG,U⟩ | ⟨ay,bG,av,U⟩ | ⟨ay,bG,av,U⟩
 ·rw[U];refine whole _ fun _=>.inl ⟨fun j z a1 bi=>?_,?_⟩
  ·have:=aT bi;rw[show (setW (eg c e _) t.place (gR x e)).az.length=c.az.length from fR]at this;change (c.az.length:Int)-1<j at a1;omega
  rw[yV];change kY e c ((c.az.length:Int)-1+1).toNat+0=ks e c;rw[show ((c.az.length:Int)-1+1).toNat=c.az.length by omega,Int.add_zero];exact h.total
 ·rw[U];have hI:=h.token t bT ay;refine whole _ fun _=>?_
  unfold Good at hI ⊢;rw[yV];change ((∀(i:Nat) z,t.place-1<i->_->_)/\kY e c (t.place-1+1).toNat+(t.sum+hU e x)=ks e c)\/0<kY e c (t.place-1+1).toNat+(t.sum+hU e x)\/(∃(i:Nat) (z:aP),(i:Int)<=t.place-1/\_)\/(t.bU||lv e x)=true;rw[ak5 i0,VT i2]at hI;rw[ak6];rcases hI with⟨eJ,D9⟩ | g | ⟨i,z,g1,g2,g3⟩ | g
  ·refine .inl ⟨fun j z a1 bi=>?_,by omega⟩;change (c.az.set t.place.toNat (gR x e))[j]?=some z at bi;rcases N3 bi with⟨rfl,rfl⟩ | ⟨cC,bi⟩
   ·exact⟨hp,fun k=>by change (t.du||n5 e x)=true;rw[show n5 e x=true from k,Bool.or_true]⟩
   obtain⟨cG,bM⟩:=eJ j z (by omega) bi;exact⟨cG,fun k=>by change (t.du||n5 e x)=true;rw[bM k,Bool.true_or]⟩
  ·exact .inr (.inl (by omega))
  ·by_cases hi:i=t.place.toNat
   ·subst hi;rw[i2]at g2;cases g2;exact .inr (.inr (.inr (by rw[g3,Bool.or_true])))
   exact .inr (.inr (.inl ⟨i,z,by omega,N4 g2 hi,g3⟩))
  exact .inr (.inr (.inr (by rw[g,Bool.true_or])))
 ·rw[U];obtain⟨⟨q1,iv⟩,_⟩:=h.over bT ay bG ah hp av;have bi:t.place=0:=by omega
  rw[bi]at i2 i1;have yF:∀k,((((c.az.set 0 (told x e (t.du||x.bx.getD e.toNat false))).take k).map (hU e)).sum)=kY e c k:=fun k=>by
   have:=CH (hU e) (told x e (t.du||x.bx.getD e.toNat false)) (k:=k) i2;rw[show hU e (told x e (t.du||x.bx.getD e.toNat false))=hU e x from rfl,Int.sub_self,ite_self,Int.add_zero]at this;exact this
  refine⟨?_,fun di jr Jb=>?_,fun _=>⟨fun z bi=>?_,iv⟩⟩
  ·refine (yF _).trans ?_;rw[show (iL (setW (eg c e ⟨false,t.place,t.sum,t.bU,t.du⟩) 0 (told x e (t.du||x.bx.getD e.toNat false))) (c.news++hR (c.az.length-1) e (t.du||x.bx.getD e.toNat false))).az.length=c.az.length from fR];exact h.total
  ·change (if 0<=e then (c.tokens.set e.toNat _)[e.toNat]? else none)=some di at jr;rw[N9 bT]at jr;cases jr;cases Jb
  rcases pH bi with bi | rfl
  ·exact q1 z bi
  exact hp
 rw[U];refine⟨h.total,fun di jr Jb=>?_,h.CZ⟩;change (if 0<=e then (c.tokens.set e.toNat _)[e.toNat]? else none)=some di at jr;rw[N9 bT]at jr;cases jr;cases Jb
theorem Inv.step{d:a'}{p:cN}(h:Inv e c)(he:0<=e/\e<=3)(cF:cU c=true)(st:Step c p d):Inv e d:=by
 cases st with
 | work x r q hk ah ao aK=>
  have aW:=m' cF ah;obtain⟨_,_,ap⟩:=N8 aW;refine h.worker ah rfl rfl (rl ah rfl (fun k=>.inl k) id) (.inl ⟨rfl,id,rfl,fun k=>?_⟩);obtain⟨cG,bM,gj⟩:=rk.1 k;rw[aK]at bM;have gq:=bM r (hX ..);refine⟨rk.2 ⟨cG,fun a ak=>bM a (iA _ ak),fun a ak=>?_⟩,?_⟩
  ·rw[akY a ak];exact gq
  have aA:=VR (ke.1 aW).1 (r:=r) (by rw[aK];exact hX ..);unfold n5;dsimp only;split
  ·exact CI (CJ aA.1 he.1 gq)
  rfl
 | input x r t hk ah ao aK hi=>
  refine h.worker ah rfl rfl (rl ah rfl (fun k=>.inl k) id) (.inl ⟨rfl,id,rfl,fun k=>⟨?_,rfl⟩⟩);obtain⟨cG,bM,gj⟩:=rk.1 k;rw[hi]at cG;refine rk.2 ⟨fun a ak=>cG a (iA _ ak),fun a ak=>?_,fun a ak=>by cases ak⟩;obtain rfl:a=r:=by simpa using ak
  have:=cG a (hX ..);omega
 | fU x r t hk ah ao ba=>
  refine h.worker ah rfl rfl (rl ah rfl (fun k=>.inl k) id) (.inl ⟨rfl,id,rfl,fun k=>⟨?_,rfl⟩⟩);obtain⟨cG,bM,gj⟩:=rk.1 k;rw[ao]at gj;refine rk.2 ⟨cG,fun a ak=>?_,fun a ak=>gj a (iA _ ak)⟩;rcases ki.1 ak with ak | ak
  ·exact bM a ak
  obtain rfl:a=r:=by simpa using ak
  exact gj a (hX ..)
 | send x r t l hk ah ao ba ap hsend=>
  obtain⟨_,_,_,e1⟩:=VM hsend;have aW:=m' cF ah;obtain⟨uV,_,_⟩:=N8 aW;have aA:=VR (ke.1 aW).2.1 (r:=r) (by rw[ao];exact hX ..);have b2:=N7 (e:=e) (m:=(ez l r).1) ap;have q4:hU e (lI (hn x t) r.bq.bd)=hU e x+(if r.bq.bd=e then 1 else 0):=VQ he aA uV;rw[e1,akZ e _ _ r _ _ _ _ l rfl]at b2;refine h.worker ah (d:=setW (ec c _ (ez l r).1) p.a _) rfl rfl (rl ah rfl (fun k=>.inl k) id) ?_;have tm:ks e (setW (ec c (fp c.aE p.a (jK r.key c.aE.az)) (ez l r).1) p.a (lI (hn x t) r.bq.bd))=ks e c+(if r.bq.bd=e then 1 else 0):=by
   rw[e1];change ks e (ec c _ _)=_;omega
  by_cases tt:r.bq.bd=e
  ·rw[bm tt]at q4 tm;refine .inr (.inl ⟨?_,q4,id,tm⟩);rw[jV];intro k;obtain⟨_,_,gj⟩:=rk.1 k;exact gj r (by rw[ao];exact hX ..) tt
  rw[bk tt]at q4 tm;refine .inl ⟨by omega,id,by omega,fun k=>⟨?_,rfl⟩⟩;obtain⟨cG,bM,gj⟩:=rk.1 k;rw[ao]at gj;exact rk.2 ⟨cG,bM,fun a ak=>gj a (iA _ ak)⟩
 | take l x hk fk ap ah bT=>
  obtain⟨_,r,q,aK,e2,e1⟩:=VN bT;have aW:=m' cF ah;obtain⟨uV,wB,_⟩:=N8 aW;have aA:=rj (Gq (zA cF ap) bT).2;rw[e2]at aA;have b2:=N7 (e:=e) (m:=(dY l).1) ap;have q4:hU e (ig x r)=hU e x+(if r.bq.bd=e then -1 else 0):=VQ he aA uV;rw[e1,ak0 e r q l aK l.cap l.eX (l.back+1) l.fq (l.dy+1)]at b2;rw[e2];refine h.worker ah (d:=setW (ec c _ (dY l).1) p.b _) rfl rfl (rl ah rfl (fun k=>.inl k) id) ?_;have tm:ks e (setW (ec c (fp c.aE p.a p.b) (dY l).1) p.b (ig x r))+(if r.bq.bd=e then 1 else 0)=ks e c:=by
   rw[e1];change ks e (ec c _ _)+_=_;omega
  by_cases tt:r.bq.bd=e
  ·rw[bm tt]at q4 tm;refine .inr (.inr ⟨tm.symm,by omega,?_⟩);unfold lv ig;dsimp only;rw[tt];exact N6 (by omega)
  rw[bk tt]at q4 tm;refine .inl ⟨by omega,fun k=>?_,by omega,fun k=>⟨?_,rfl⟩⟩
  ·unfold lv ig;dsimp only;rw[CI (CJ aA.1 he.1 tt)];exact k
  obtain⟨cG,bM,gj⟩:=rk.1 k;refine rk.2 ⟨cG,fun a ak=>?_,gj⟩;rcases ki.1 ak with ak | ak
  ·exact bM a ak
  obtain rfl:a=r:=by simpa using ak
  exact tt
 | DZ l hk fk ap aj=>
  rcases NZ l with⟨k,_⟩ | ⟨_,_,_,e1⟩
  ·rw[aj]at k;cases k
  have b2:=N7 (e:=e) (m:=(fO l).1) ap;have U:rf e (fO l).1=rf e l:=by rw[e1];rfl
  have ax:ks e (ec c (fp c.aE p.a p.b) (fO l).1)=ks e c:=by omega
  refine⟨by rw[ax];exact h.total,fun t jr ay=>?_,fun jr=>⟨(h.CZ jr).1,by rw[ax];exact (h.CZ jr).2⟩⟩;have hI:=h.token t jr ay;unfold Good at hI ⊢;rw[ax];exact hI
 | token t x ff hk lz bG aG bT ah Q9=>
  simp only[aw,cV]at lz;by_cases RD:p.a=e
  ·subst RD;exact h.aBE cF bT ah
  exact h.aBD he.1 lz.1 RD ah
 | Eh k n x hk aX aG ah=>
  obtain⟨cG,bM,gj⟩:=ak3 (x:=x) (n:=n) (e:=e);refine h.worker ah rfl rfl (rl ah rfl (fun q=>?_) (fun q=>?_)) (.inl ⟨cG,fun q=>bM.trans q,rfl,fun q=>⟨ak2.trans q,gj⟩⟩)
  ·rw[ak1,oO]at q;rcases q with q | q
   ·exact .inl q
   exact .inr (qy.2 ⟨n,eD aX,q⟩)
  unfold sP at q ⊢;rw[qy]at q ⊢;obtain⟨m,hm,q⟩:=q;refine⟨m,?_,q⟩;change m∈cutAt c.news k at hm;unfold cutAt at hm;rcases ki.1 hm with hm | hm
  ·exact qx hm
  exact rP hm
