import Derived.Test.YtdchjefneblpgaaGreatP31
set_option linter.unusedVariables false
set_option linter.unusedSimpArgs false
namespace Go.Proofs.YtdchjefneblpgaaGreat
open Go.Sx Go.RowKit
variable{l:bC}
theorem oR:k9 l=true<->aW l.cap 1 4=true/\aW l.fh 0 l.cap=true/\aW l.back 0 l.cap=true/\l.fh+l.back+l.queue.length=l.cap/\aW l.eV 0 1000000000=true/\0<=l.dO/\l.dO=l.eV-l.queue.length/\(l.queue.any fun r=>!fZ r)=false:=by
 simp only[k9,ca,fr,eu,ci,and_assoc]
variable{g:bW}
theorem px{i:Nat}:lE g i l=false<->k9 l=true/\l.cap=g.cap/\hU g l.queue=true/\((i:Int).tdiv g.ap=(i:Int).tmod g.ap->l.queue=[]):=by
 simp only[lE,gz,lf,bne_eq_false_iff_eq,Bool.and_eq_false_imp,eu,jO];refine and_congr_right fun _=>and_congr_right fun _=>and_congr_right fun _=>imp_congr_right fun _=>?_
 cases l.queue with
 | nil=>simp
 | cons a q=>simp
variable{r:aA}
theorem aer{i:Nat}(h:lE g i l=false)(ar:km g r=false)(ae:(eI l r).2=true)(ax:(i:Int).tdiv g.ap≠(i:Int).tmod g.ap):lE g i (eI l r).1=false:=by
 obtain⟨h1,U,au,aH⟩:=px.1 h;unfold eI at ae ⊢;split
 ·rename_i ad;simp only[ca,bne_iff_ne,ho,ci]at ad;obtain⟨⟨⟨_,lq⟩,nz⟩,Db⟩:=ad;obtain⟨cC,b6,eH,l1,kG,ov,kf,ow⟩:=oR.1 h1;refine px.2 ⟨oR.2 ⟨cC,?_,eH,?_,?_,ov,?_,?_⟩,U,Kr.2 ⟨au,ar⟩,fun e=>(ax e).elim⟩
  ·simp only[aW,ci]at b6 ⊢;omega
  ·simp only[eK,dn,b1];omega
  ·simp only[aW,ci]at kG ⊢;omega
  ·simp only[eK,dn,b1];omega
  simp only[List.any_append,ow,u2,List.any_nil,lq,ks,Bool.or_false]
 rename_i ad;rw[aX ad]at ae;cases ae
theorem JV{i:Nat}(h:lE g i l=false)(ae:(dJ l).2.2=true):lE g i (dJ l).1=false/\km g (dJ l).2.1=false:=by
 obtain⟨h1,U,au,aH⟩:=px.1 h;obtain⟨cC,b6,eH,l1,kG,ov,kf,ow⟩:=oR.1 h1;unfold dJ at ae ⊢;rw[a6 h1]at ae ⊢;split
 ·rename_i av;rw[av]at ae;cases ae
 rename_i r q av;rw[av]at au ow l1 kf aH;rw[qj]at au;rw[u2,gz]at ow;simp only[dn]at l1 kf;refine⟨px.2 ⟨oR.2 ⟨cC,b6,?_,?_,kG,?_,?_,ow.2⟩,U,au.2,fun e=>absurd (aH e) (by simp)⟩,au.1⟩
 ·simp only[aW,ci]at b6 eH ⊢;omega
 ·dsimp only;omega
 ·dsimp only;omega
 dsimp only;omega
theorem aes{i:Nat}(h:lE g i l=false):lE g i (gw l).1=false:=by
 obtain⟨h1,U,au,aH⟩:=px.1 h;obtain⟨cC,b6,eH,l1,kG,ov,kf,ow⟩:=oR.1 h1;unfold gw;split
 ·rename_i ad;simp only[ca,bne_iff_ne,ho]at ad;refine px.2 ⟨oR.2 ⟨cC,?_,?_,?_,kG,ov,kf,ow⟩,U,au,aH⟩
  ·simp only[aW,ci]at b6 eH ⊢;omega
  ·simp only[aW,ci]at b6 eH ⊢;omega
  dsimp only;omega
 exact h
theorem wS{a b:Int}(aL:1<=g.ap/\g.ap<=4)(ag:aW a 0 (g.ap-1)=true)(ah:aW b 0 (g.ap-1)=true):
  dF g a b=a*g.ap+b/\0<=a*g.ap+b/\a*g.ap+b<g.ap*g.ap/\(a*g.ap+b).tdiv g.ap=a/\(a*g.ap+b).tmod g.ap=b:=by
 have e:dF g a b=a*g.ap+b:=by unfold dF;rw[ag,ah];rfl
 simp only[aW,ci]at ag ah;generalize g.ap=n at*;have bm:0<=a*n+b:=by have:=Int.mul_nonneg ag.1 (show 0<=n by omega);omega
 rw[Int.tdiv_eq_ediv_of_nonneg bm,Int.tmod_eq_emod_of_nonneg bm];have zN:n=1\/n=2\/n=3\/n=4:=by omega
 refine⟨e,bm,?_⟩;rcases zN with rfl | rfl | rfl | rfl<;>omega
variable{b:Int}
theorem yP{a:Int}(h:(aW a 0 (g.ap-1)&&aW b 0 (g.ap-1))=false):dF g a b=-1:=by
 unfold dF;rw[h];rfl
variable{n:Int}
theorem D2(key:Int)(aL:1<=n):aW (eE key n) 0 (n-1)=true:=by
 have h1:=R5 key n (by omega);have U:=Int.tmod_lt_of_pos key (show 0<n by omega);unfold eE;rw[aX (by omega)];simp only[aW,ci];split<;>omega
variable{c:aU}
theorem D3(h:cF c=true){a:Int}(ag:aW a 0 (c.aF.ap-1)=true)(ah:aW b 0 (c.aF.ap-1)=true):∃l,ee c (dF c.aF a b)=some l:=by
 obtain⟨h1,U,au,_⟩:=fU.1 h;obtain⟨e,bm,bq,_⟩:=wS (jZ h1) ag ah;rw[e];unfold ee;rw[a6 bm];exact dv (by omega)
variable{i:Int}
theorem Bv(h:ee c i=some l):((i.toNat:Nat):Int)=i:=by have:=(iq h).1;omega
theorem py{c:aU}{i:Int}(bm:0<=i)(h1:i<c.ap.length):∃x,b9 c i=some x:=by
 unfold b9;rw[a6 bm];exact dv (by omega)
theorem Tf(h:cF c=true){e:Int}(he:aW e 0 3=true):∃t,hg c e=some t:=by
 have aH:=(fU.1 h).2.2.2.1;simp only[aW,ci]at he;unfold hg;rw[a6 he.1];exact dv (by omega)
variable{t:b'}
theorem rJ:nT n t=false<->(0<=t.place/\t.place<=n-1)/\(t.going=false->t.place=0)/\(-1000000<=t.sum/\t.sum<=1000000):=by
 simp only[nT,aW,gz,lf,ci,Bool.and_eq_false_imp,fr,bne_eq_false_iff_eq]
theorem Bw{j:Int}:b9 (c0 c i l) j=b9 c j:=rfl
theorem Bx{j:Int}:b9 (cP c i t) j=b9 c j:=rfl
theorem Tg:(c0 c i l).aF=c.aF:=rfl
theorem Th:(cP c i t).aF=c.aF:=rfl
variable{x:aP}
theorem aet:(setW c i x).aF=c.aF:=rfl
theorem Ti{w o:Int}{t:List aA}(h:cF c=true)(aa:b9 c w=some x)(ae:x.ck=r::t)
  (aN:aW o 0 (c.aF.ap-1)=true) (b5:o≠w) (af:ee c (dF c.aF w o)=some l) (hsend:(eI l r).2=true):
  cF (setW (c0 c (dF c.aF w o) (eI l r).1) w (ma (iP x t) r.bc.a8))=aW (x.bK.getD r.bc.a8.toNat 0+1) (-1000000) 1000000:=by
 obtain⟨h1,U,_⟩:=fU.1 h;obtain⟨w0,w1,_⟩:=er aa;obtain⟨ok,ar⟩:=Ks (jH h aa) ae;obtain⟨e,iI,x1,Ox,tX⟩:=wS (jZ h1) (a:=w) (b:=o) (by simp only[aW,ci];omega) aN;have fv:cF (c0 c (dF c.aF w o) (eI l r).1)=true:=by
  rw[Kq h af,aer (rI h af) ar hsend]
  ·rfl
  rw[Bv af,e,Ox,tX];exact fun q=>b5 q.symm
 rw[uF fv (Bw.trans aa),Tg,aeg ok (uH ar)];rfl
theorem Tj{w:Int}{t:List aA}(h:cF c=true)(aa:b9 c w=some x)(ae:x.ck=r::t):cF (setW c w (kept (iP x t) r))=true:=by
 obtain⟨ok,ar⟩:=Ks (jH h aa) ae;rw[uF h aa,aed ok ar]
theorem Tk{k:Int}(h:cF c=true)(af:ee c k=some l)(aa:b9 c b=some x)(bt:(dJ l).2.2=true):
  cF (setW (c0 c k (dJ l).1) b (hV x (dJ l).2.1))=aW (x.bK.getD (dJ l).2.1.bc.a8.toNat 0+-1) (-1000000) 1000000:=by
 obtain⟨cC,b6⟩:=JV (rI h af) bt;have fv:cF (c0 c k (dJ l).1)=true:=by rw[Kq h af,cC];rfl
 rw[uF fv (Bw.trans aa),Tg,aeh (jH h aa) b6]
theorem Tl{c:aU}{w:Int}(h:cF c=true):cF (mb c w).1=true:=by
 unfold mb;rw[a6 h];split
 ·rename_i x aa;rw[uF h aa,aeq (jH h aa)]
 exact h
theorem Tm{c:aU}{w:Int}(h:cF c=true):cF (mc c w).1=true:=by
 unfold mc;rw[a6 h];split
 ·rename_i x aa;rw[uF h aa,aei (jH h aa)]
 exact h
theorem Tn{c:aU}{a b:Int}(h:cF c=true):cF (k2 c a b).1=true:=by
 unfold k2;split
 ·split
  ·rename_i l af;rw[Kq h af,aes (rI h af)];rfl
  exact h
 exact h
variable{e:Int}
theorem To{b:Bool}{m:Nat}(hm:(m:Int)=n-1)(he:aW e 0 3=true):(hy m e b).any (nU n)=false:=by
 rw[eW];intro x aa;simp only[hy,h',List.mem_range]at aa;obtain⟨k,hk,rfl⟩:=aa;have h1:aW ((k:Int)+1) 0 (n-1)=true:=by simp only[aW,ci];omega
 simp only[nU,h1,he,ks,Bool.or_false,mm,not_false_eq_true]
theorem aeu{cJ:aP}(h:cF c=true)(he:aW e 0 3=true)(bt:hg c e=some t)(aa:b9 c t.place=some x)(bm:b9 c 0=some cJ)(ax:eD cJ e=false):cF (d' c e t x).1=true:=by
 obtain⟨h1,U,au,aH,ba,br,b7,dV⟩:=fU.1 h;have aL:=jZ h1;obtain⟨t1,t2,t3⟩:=rJ.1 (yO h bt);have ok:=jH h aa;have U6:∀c4:b',nT c.aF.ap c4=false->cF (cP c e c4)=true:=fun c4 k=>by rw[acH h bt,k];rfl
 have both:∀c4:b',nT c.aF.ap c4=false->cF (setW (cP c e c4) t.place (eg x e))=true:=fun c4 k=>by
  rw[uF (U6 c4 k) (Bx.trans aa),Th,aee ok]
 unfold d';split
 ·split
  ·exact both _ (rJ.2 ⟨by dsimp only;omega,by simp,by simp⟩)
  rename_i ao;split
  ·split
   ·rename_i hp ar;simp only[aW,ci]at ar;exact both _ (rJ.2 ⟨by dsimp only;omega,by simp,ar⟩)
   exact h
  rename_i hp;have bE:t.place=0:=by omega
  have Og:=U6 ⟨false,t.place,t.sum,t.bL,t.ct⟩ (rJ.2 ⟨t1,fun _=>bE,t3⟩);split
  ·rw[bE]at aa;have Ht:cJ=x:=by rw[bm]at aa;exact ei aa
   have kw:cF (setW (cP c e ⟨false,t.place,t.sum,t.bL,t.ct⟩) 0 (told x e (t.ct||x.bA.getD e.toNat false)))=true:=by
    rw[uF Og (Bx.trans aa),Th];exact RG ok he (Ht▸ax)
   rw[RF kw,List.any_append];have e1:(setW (cP c e ⟨false,t.place,t.sum,t.bL,t.ct⟩) 0 (told x e (t.ct||x.bA.getD e.toNat false))).aF=c.aF:=rfl;rw[e1,dV,To (by omega) he];rfl
  exact Og
 exact h
theorem Tp{c:aU}{e:Int}(h:cF c=true):cF (kK c e).1=true:=by
 unfold kK;split
 ·rename_i ad;rw[ca]at ad;split
  ·rename_i cJ t bm bt;split
   ·exact h
   rename_i ax;split
   ·rename_i x aa;exact aeu h ad.2 bt aa bm (by simpa using ax)
   exact h
  exact h
 exact h
theorem JW{k:Nat}{n:cA}(h:cF c=true)(aL:c.news[k]?=some n):nU c.aF.ap n=false:=by
 have dV:=(fU.1 h).2.2.2.2.2.2.2;rw[eW]at dV;simpa using dV n (c8 aL)
theorem aev{α:Type}{p:α->Bool}{xs:List α}{k:Nat}(h:xs.any p=false):(cutAt xs k).any p=false:=by
 rw[eW]at h ⊢;intro a ag;rcases gY.1 ag with ag | ag
 ·exact h a (uY ag)
 exact h a (zc ag)
theorem Tq{c:aU}{w:Int}(h:cF c=true):cF (lH c w).1=true:=by
 unfold lH;split
 ·rw[a6 h];split
  ·rename_i n x aL aa;have ah:=JW h aL;simp only[nU,gz,lf]at ah;have kw:cF (setW c w (dZ x n))=true:=by rw[uF h aa,aef (jH h aa) ah.2]
   rw[RF kw,aet,aev (fU.1 h).2.2.2.2.2.2.2];rfl
  exact h
 exact h
theorem wT{α:Type}{sz:α->Nat}{y:α}(x:α):∀{xs:List α} {i:Nat},xs[i]?=some y->fp sz (xs.set i x)+sz y=fp sz xs+sz x
 | [],i,h=>by simp at h
 | a::xs,0,h=>by
  obtain rfl:a=y:=by simpa using h
  simp only[fp,List.set_cons_zero,dn,iT,oY];omega
 | a::xs,i+1,h=>by
  have:=wT (sz:=sz) x (xs:=xs) (i:=i) (by simpa using h);simp only[fp,List.set_cons_succ,dn,iT,oY]at this ⊢;omega
theorem uJ{c:aU}{x y:aP}(h:b9 c i=some y):(setW c i x).sz+y.sz=c.sz+x.sz:=by
 have:=wT (sz:=aP.sz) x (er h).2.2;simp only[setW,aU.sz];omega
theorem JX{x y:bC}(h:ee c i=some y):(c0 c i x).sz+y.sz=c.sz+x.sz:=by
 have:=wT (sz:=bC.sz) x (iq h).2.2;simp only[c0,aU.sz];omega
theorem D4{x:b'}:(cP c i x).sz=c.sz:=by
 simp only[cP,aU.sz,eQ]
theorem Tr{c:aU}{x:List cA}:(gd c x).sz+c.news.length=c.sz+x.length:=by
 simp only[gd,aU.sz];omega
theorem Ts(g:bW)(w:aP):(f' g w).1.sz<=w.sz+2:=by
 unfold f';split
 ·rename_i ad;rw[ca]at ad;split
  ·rename_i r q h1 U;have:=ac3 ad.1 w.cells r;simp only[aP.sz,h1,U,dn,b1];split<;>(try simp only[eQ])<;>omega
  exact Nat.le_add_right _ _
 exact Nat.le_add_right _ _
theorem Tt(g:bW)(w:aP):(ga g w).1.sz<=w.sz:=by
 unfold ga;split
 ·split
  ·rename_i r t h1 U au;simp only[aP.sz,h1,U,au,dn,b1];omega
  exact dm _
 exact dm _
theorem Tu{w:aP}{t:List aA}(h:w.ck=r::t):(iP w t).sz+1=w.sz:=by
 simp only[iP,aP.sz,h,dn];omega
theorem aew(w:aP)(r:aA):(kept w r).sz=w.sz+1:=by
 simp only[kept,aP.sz,eK,dn,b1];omega
theorem aex(w:aP)(e:Int):(ma w e).sz=w.sz:=by
 simp only[ma,kX,aP.sz,eQ]
theorem Tv(w:aP)(r:aA):(hV w r).sz=w.sz+1:=by
 simp only[hV,kX,aP.sz,eQ,eK,dn,b1];omega
theorem aey(w:aP)(e:Int):(eg w e).sz=w.sz:=by
 simp only[eg,aP.sz,eQ]
theorem Tw(w:aP)(e:Int)(b:Bool):(told w e b).sz=w.sz+1:=by
 simp only[told,aP.sz,eK,dn,b1];omega
theorem aez(w:aP)(n:cA):(dZ w n).sz<=w.sz+1:=by
 unfold dZ;split
 ·omega
 rw[Tw];omega
theorem Tx(l:bC)(r:aA):(eI l r).1.sz<=l.sz+1:=by
 unfold eI;split<;>simp[bC.sz]
theorem Ty(l:bC):(dJ l).1.sz<=l.sz:=by
 unfold dJ;split
 ·split
  ·exact dm _
  rename_i h;simp[bC.sz,h]
 exact dm _
theorem Tz(l:bC):(gw l).1.sz=l.sz:=by
 unfold gw;split<;>rfl
theorem TA{α:Type}(xs:List α)(k:Nat):(cutAt xs k).length<=xs.length:=by
 simp only[cutAt,eK,lJ,List.length_drop];omega
theorem aeA(hw:c.ap.length<=4)(aa:b9 c t.place=some x)(bm:0<=t.place):(d' c e t x).1.sz<=c.sz+4:=by
 unfold d';have w1:∀c4,(setW (cP c e c4) t.place (eg x e)).sz+x.sz=c.sz+x.sz:=fun c4=>by
  have:=uJ (c:=cP c e c4) (x:=eg x e) (Bx.trans aa);rwa[D4,aey]at this
 split
 ·split
  ·have:=w1 ⟨true,(c.ap.length:Int)-1,0,false,x.bA.getD e.toNat false⟩;dsimp only;omega
  split
  ·split
   ·have:=w1 ⟨true,t.place-1,t.sum+x.bK.getD e.toNat 0,t.bL||x.bL.getD e.toNat false,t.ct||x.bA.getD e.toNat false⟩;dsimp only;omega
   dsimp only;omega
  rename_i hp;have bE:t.place=0:=by omega
  split
  ·rw[bE]at aa;have a:=uJ (c:=cP c e ⟨false,t.place,t.sum,t.bL,t.ct⟩) (x:=told x e (t.ct||x.bA.getD e.toNat false)) (Bx.trans aa);rw[D4,Tw]at a;have b:=Tr (c:=setW (cP c e ⟨false,t.place,t.sum,t.bL,t.ct⟩) 0 (told x e (t.ct||x.bA.getD e.toNat false))) (x:=c.news++hy (c.ap.length-1) e (t.ct||x.bA.getD e.toNat false));have d:(setW (cP c e ⟨false,t.place,t.sum,t.bL,t.ct⟩) 0 (told x e (t.ct||x.bA.getD e.toNat false))).news=c.news:=rfl;rw[d]at b;simp only[eK,hy,bp,u3]at b;dsimp only;simp only[hy];omega
  dsimp only;rw[D4];omega
 dsimp only;omega
theorem TB(h:cF c=true):c.ap.length<=4:=by
 obtain⟨h1,U,_⟩:=fU.1 h;have:=jZ h1;omega
theorem aeB(c:aU)(p:cE):(de c p).1.sz<=c.sz+4:=by
 have dp:c.sz<=c.sz+4:=by omega
 unfold de;split
 ·unfold mb;split
  ·split
   ·rename_i x aa;have:=uJ (x:=(f' c.aF x).1) aa;have:=Ts c.aF x;dsimp only;omega
   exact dp
  exact dp
 split
 ·unfold mc;split
  ·split
   ·rename_i x aa;have:=uJ (x:=(ga c.aF x).1) aa;have:=Tt c.aF x;dsimp only;omega
   exact dp
  exact dp
 split
 ·unfold lF;split
  ·split
   ·rename_i x aa;split
    ·rename_i r t ae;have hu:=Tu ae;unfold qC;split
     ·have:=uJ (x:=kept (iP x t) r) aa;rw[aew]at this;dsimp only;omega
     split
     ·rename_i l af;split
      ·have a:=JX (x:=(eI l r).1) af;have b:=uJ (c:=c0 c (dF c.aF p.a (eE r.key c.aF.ap)) (eI l r).1) (x:=ma (iP x t) r.bc.a8) (Bw.trans aa);rw[aex]at b;have:=Tx l r;dsimp only;omega
      exact dp
     exact dp
    exact dp
   exact dp
  exact dp
 split
 ·unfold lG;split
  ·split
   ·rename_i l x af aa;split
    ·have a:=JX (x:=(dJ l).1) af;have b:=uJ (c:=c0 c (dF c.aF p.a p.b) (dJ l).1) (x:=hV x (dJ l).2.1) (Bw.trans aa);rw[Tv]at b;have:=Ty l;dsimp only;omega
    exact dp
   exact dp
  exact dp
 split
 ·unfold k2;split
  ·split
   ·rename_i l af;have a:=JX (x:=(gw l).1) af;have:=Tz l;dsimp only;omega
   exact dp
  exact dp
 split
 ·unfold kK;split
  ·rename_i ad;rw[ca]at ad;split
   ·rename_i cJ t bm bt;split
    ·exact dp
    split
    ·rename_i x aa;exact aeA (TB ad.1) aa (er aa).1
    exact dp
   exact dp
  exact dp
 split
 ·unfold lH;split
  ·rename_i k hk;split
   ·split
    ·rename_i n x aL aa;have a:=uJ (x:=dZ x n) aa;have b:=Tr (c:=setW c p.a (dZ x n)) (x:=cutAt c.news k);have d:(setW c p.a (dZ x n)).news=c.news:=rfl;rw[d]at b;have:=aez x n;have:=TA c.news k;dsimp only;omega
    exact dp
   exact dp
  exact dp
 exact dp
end Go.Proofs.YtdchjefneblpgaaGreat
namespace Go.Proofs.YtdchjefneblpgaaGreat
open Go.Sx Go.RowKit
theorem TC(l:bC)(r:aA)(h:l.dO<=9223372036854775807):(eI l r).1.dO<=9223372036854775807:=by
 unfold eI;split<;>exact h
theorem TD(l:bC)(h:l.dO<=9223372036854775807):(gw l).1.dO<=9223372036854775807:=by
 unfold gw;split<;>exact h
theorem TE(l:bC)(h:l.dO<=9223372036854775807):(dJ l).1.dO<=9223372036854775807:=by
 unfold dJ;split
 ·rename_i hk;obtain⟨_,_,_,_,kG,_,kf,_⟩:=oR.1 hk;simp only[aW,ci]at kG;split
  ·exact h
  dsimp only;omega
 exact h
theorem iV.c0{c:aU}{i:Int}{l:bC}(h:iV c)(af:l.dO<=9223372036854775807):iV (c0 c i l):=by
 intro x aa;rcases hn aa with h1 | rfl
 ·exact h x h1
 exact af
variable{c:aU}
theorem iV.at{i:Int}{x:bC}(h:ee c i=some x)(hw:iV c):x.dO<=9223372036854775807:=hw _ (c8 (iq h).2.2)
structure n3 (c d:aU):Prop where
 aF:d.aF=c.aF
 dO:iV c->iV d
 uW:d.ap.length=c.ap.length
theorem n3.rfl:n3 c c:=⟨Eq.refl _,id,Eq.refl _⟩
theorem n3.bQ{d:aU}(h1:d.aF=c.aF)(U:d.bQ=c.bQ)(au:d.ap.length=c.ap.length:=by simp[setW,gd,cP,c0,told,eg]):n3 c d:=⟨h1,fun h x aa=>h x (U▸aa),au⟩
theorem adM(c:aU)(e:Int)(t:b')(x:aP):n3 c (d' c e t x).1:=by
 unfold d';split
 ·split
  ·exact .bQ rfl rfl
  split
  ·split
   ·exact .bQ rfl rfl
   exact .rfl
  split
  ·exact .bQ rfl rfl
  exact .bQ rfl rfl
 exact .rfl
theorem JY(c:aU)(p:cE):n3 c (de c p).1:=by
 unfold de;split
 ·unfold mb;split
  ·split
   ·exact .bQ rfl rfl
   exact .rfl
  exact .rfl
 split
 ·unfold mc;split
  ·split
   ·exact .bQ rfl rfl
   exact .rfl
  exact .rfl
 split
 ·unfold lF;split
  ·split
   ·split
    ·unfold qC;split
     ·exact .bQ rfl rfl
     split
     ·rename_i l af;split
      ·exact⟨rfl,fun h=>iV.c0 h (TC l _ (iV.at af h)),by simp[setW,c0]⟩
      exact .rfl
     exact .rfl
    exact .rfl
   exact .rfl
  exact .rfl
 split
 ·unfold lG;split
  ·split
   ·rename_i l x af aa;split
    ·exact⟨rfl,fun h=>iV.c0 h (TE l (iV.at af h)),by simp[setW,c0]⟩
    exact .rfl
   exact .rfl
  exact .rfl
 split
 ·unfold k2;split
  ·split
   ·rename_i l af;exact⟨rfl,fun h=>iV.c0 h (TD l (iV.at af h)),by simp[setW,c0]⟩
   exact .rfl
  exact .rfl
 split
 ·unfold kK;split
  ·split
   ·split
    ·exact .rfl
    split
    ·exact adM c _ _ _
    exact .rfl
   exact .rfl
  exact .rfl
 split
 ·unfold lH;split
  ·split
   ·split
    ·exact .bQ rfl rfl
    exact .rfl
   exact .rfl
  exact .rfl
 exact .rfl
theorem JZ{α:Type}{f:α->List D}{xs:List α}{a:α}:(xs++[a]).map f=xs.map f++[f a]:=by simp
def cZ:aU->List cE->aU×List Bool
 | c,[]=>(c,[])
 | c,p::l=>((cZ (de c p).1 l).1,(de c p).2::(cZ (de c p).1 l).2)
theorem SO(p:cE):∀(l:List cE) (c:aU),cZ c (l++[p])=((de (cZ c l).1 p).1,(cZ c l).2++[(de (cZ c l).1 p).2])
 | [],c=>rfl
 | q::l,c=>by
  have dt:=SO p l (de c q).1;simp only[List.cons_append,cZ,dt]
theorem SP{l:List cE}{i:Nat}{p:cE}(c:aU)(h:l[i]?=some p):cZ c (l.take (i+1))=((de (cZ c (l.take i)).1 p).1,(cZ c (l.take i)).2++[(de (cZ c (l.take i)).1 p).2]):=by
 rw[lK,h,xj,SO]
theorem J0:∀(l:List cE) (c:aU),(cZ c l).2.length=l.length
 | [],_=>rfl
 | q::l,c=>by simp only[cZ,dn,J0 l]
theorem D5:∀(l:List cE) (c:aU),(cZ c l).1.sz<=c.sz+4*l.length
 | [],c=>dm _
 | q::l,c=>by
  have:=D5 l (de c q).1;have:=aeB c q;simp only[cZ,dn];omega
theorem n3.trans{d e:aU}(h:n3 c d)(k:n3 d e):n3 c e:=⟨k.aF.trans h.aF,fun x=>k.dO (h.dO x),k.uW.trans h.uW⟩
theorem J1:∀(l:List cE) (c:aU),n3 c (cZ c l).1
 | [],_=>.rfl
 | q::l,c=>(JY c q).trans (J1 l _)
theorem J2{α:Type}(i:Nat)(l:List α):(l.take i).length<=l.length:=by rw[lJ];omega
theorem SQ(c:aU)(l:List cE)(i:Nat):(cZ c (l.take i)).1.sz<=c.sz+4*l.length:=by
 have:=D5 (l.take i) c;have:=J2 i l;omega
def mx(l:List Bool):Nat:=(l.filter id).length
theorem adN(l:List Bool):mx l<=l.length:=qL _ _
theorem adO(l:List Bool)(b:Bool):mx (l++[b])=mx l+(if b then 1 else 0):=by
 cases b<;>simp[mx]
end Go.Proofs.YtdchjefneblpgaaGreat
namespace Go.Proofs.YtdchjefneblpgaaGreat
open Go.Sx Go.RowKit
inductive Step (c:aU) (p:cE):aU->Prop
 | work (x:aP) (r:aA) (q:List aA) (hk:p.kind=1) (aa:b9 c p.a=some x) (ae:x.ck=[]) (av:x.queue=r::q):
   Step c p (setW c p.a ⟨q,(dL c.aF x.cells r).2.1,x.bT,(dL c.aF x.cells r).1,x.bK,x.bL,(if ct c.aF r then x.bA.set r.bc.a8.toNat true else x.bA),x.cu⟩)
 | input (x:aP) (r:aA) (t:List aA) (hk:p.kind=2) (aa:b9 c p.a=some x) (ae:x.ck=[]) (av:x.queue=[]) (hi:x.bT=r::t):
   Step c p (setW c p.a ⟨[r],[],t,x.cells,x.bK,x.bL,x.bA,x.cu⟩)
 | ey (x:aP) (r:aA) (t:List aA) (hk:p.kind=3) (aa:b9 c p.a=some x) (ae:x.ck=r::t) (aN:eE r.key c.aF.ap=p.a):
   Step c p (setW c p.a (kept (iP x t) r))
 | send (x:aP) (r:aA) (t:List aA) (l:bC) (hk:p.kind=3) (aa:b9 c p.a=some x) (ae:x.ck=r::t) (aN:eE r.key c.aF.ap≠p.a)
   (af:ee c (dF c.aF p.a (eE r.key c.aF.ap))=some l) (h:(eI l r).2=true):
   Step c p (setW (c0 c (dF c.aF p.a (eE r.key c.aF.ap)) (eI l r).1) p.a (ma (iP x t) r.bc.a8))
 | take (l:bC) (x:aP) (hk:p.kind=4) (dW:p.a≠p.b) (af:ee c (dF c.aF p.a p.b)=some l) (aa:b9 c p.b=some x) (h:(dJ l).2.2=true):
   Step c p (setW (c0 c (dF c.aF p.a p.b) (dJ l).1) p.b (hV x (dJ l).2.1))
 | o3 (l:bC) (hk:p.kind=5) (dW:p.a≠p.b) (af:ee c (dF c.aF p.a p.b)=some l) (h:(gw l).2=true):
   Step c p (c0 c (dF c.aF p.a p.b) (gw l).1)
 | token (t:b') (x cJ:aP) (hk:p.kind=6) (he:aW p.a 0 3=true) (bm:b9 c 0=some cJ) (ax:eD cJ p.a=false) (bt:hg c p.a=some t) (aa:b9 c t.place=some x) (h:(d' c p.a t x).2=true):
   Step c p (d' c p.a t x).1
 | o6 (k:Nat) (n:cA) (x:aP) (hk:p.kind=7) (aL:c.news[k]?=some n) (ax:n.dest=p.a) (aa:b9 c p.a=some x):
   Step c p (gd (setW c p.a (dZ x n)) (cutAt c.news k))
theorem SR(g:bW)(w:aP):((f' g w).2=false/\(f' g w).1=w)\/
  ((f' g w).2=true/\∃r q,w.ck=[]/\w.queue=r::q/\(f' g w).1=⟨q,(dL g w.cells r).2.1,w.bT,(dL g w.cells r).1,w.bK,w.bL,(if ct g r then w.bA.set r.bc.a8.toNat true else w.bA),w.cu⟩):=by
 unfold f';split
 ·split
  ·rename_i r q ae av;exact .inr ⟨rfl,r,q,ae,av,rfl⟩
  exact .inl ⟨rfl,rfl⟩
 exact .inl ⟨rfl,rfl⟩
theorem SS(g:bW)(w:aP):((ga g w).2=false/\(ga g w).1=w)\/
  ((ga g w).2=true/\∃r t,w.ck=[]/\w.queue=[]/\w.bT=r::t/\(ga g w).1=⟨[r],[],t,w.cells,w.bK,w.bL,w.bA,w.cu⟩):=by
 unfold ga;split
 ·split
  ·rename_i r t ae av hi;exact .inr ⟨rfl,r,t,ae,av,hi,rfl⟩
  exact .inl ⟨rfl,rfl⟩
 exact .inl ⟨rfl,rfl⟩
theorem By{l:bC}{r:aA}(h:(eI l r).2=true):k9 l=true/\l.fh≠0/\l.eV<1000000000/\(eI l r).1=⟨l.cap,l.queue++[r],l.fh-1,l.back,l.eV+1,l.dO⟩:=by
 unfold eI at h ⊢;split
 ·rename_i ad;simp only[ca,bne_iff_ne,ho,ci]at ad;exact⟨ad.1.1.1,ad.1.2,ad.2,rfl⟩
 rename_i ad;rw[aX ad]at h;cases h
theorem wU{l:bC}(h:(dJ l).2.2=true):k9 l=true/\∃r q,l.queue=r::q/\(dJ l).2.1=r/\(dJ l).1=⟨l.cap,q,l.fh,l.back+1,l.eV,l.dO+1⟩:=by
 unfold dJ at h ⊢;split
 ·rename_i ad;rw[a6 ad]at h;refine⟨ad,?_⟩;cases av:l.queue with
  | nil=>rw[av]at h;cases h
  | cons r q=>exact⟨r,q,rfl,rfl,rfl⟩
 rename_i ad;rw[aX ad]at h;cases h
theorem wV(l:bC):((gw l).2=false/\(gw l).1=l)\/((gw l).2=true/\k9 l=true/\l.back≠0/\(gw l).1=⟨l.cap,l.queue,l.fh+1,l.back-1,l.eV,l.dO⟩):=by
 unfold gw;split
 ·rename_i ad;simp only[ca,bne_iff_ne,ho]at ad;exact .inr ⟨rfl,ad.1,ad.2,rfl⟩
 exact .inl ⟨rfl,rfl⟩
theorem oS (c : aU) (e : Int) (t : b') (x : aP) : ((d' c e t x).2 = false /\ (d' c e t x).1 = c) \/ ((d' c e t x).2 = true /\ k' x e = true /\
    ((t.going = false /\ (d' c e t x).1 = setW (cP c e ⟨true, (c.ap.length : Int) - 1, 0, false, x.bA.getD e.toNat false⟩) t.place (eg x e)) \/
     (t.going = true /\ 0 < t.place /\ (d' c e t x).1 = setW (cP c e ⟨true, t.place - 1, t.sum + x.bK.getD e.toNat 0, t.bL || x.bL.getD e.toNat false, t.ct || x.bA.getD e.toNat false⟩) t.place (eg x e)) \/
     (t.going = true /\ ¬ 0 < t.place /\ (t.bL = false /\ x.bL.getD e.toNat false = false /\ t.sum + x.bK.getD e.toNat 0 = 0) /\
       (d' c e t x).1 = gd (setW (cP c e ⟨false, t.place, t.sum, t.bL, t.ct⟩) 0 (told x e (t.ct || x.bA.getD e.toNat false))) (c.news ++ hy (c.ap.length - 1) e (t.ct || x.bA.getD e.toNat false))) \/
     (t.going = true /\ ¬ 0 < t.place /\ ¬ (t.bL = false /\ x.bL.getD e.toNat false = false /\ t.sum + x.bK.getD e.toNat 0 = 0) /\ (d' c e t x).1 = cP c e ⟨false, t.place, t.sum, t.bL, t.ct⟩))) := by
  unfold d';split
  case isFalse => exact .inl ⟨rfl, rfl⟩
  rename_i hp;cases ao : t.going with
  | false => exact .inr ⟨rfl, hp, .inl ⟨rfl, rfl⟩⟩
  | true =>
    rw [aX (by simp)];split
    · rename_i bm;split
      · exact .inr ⟨rfl, hp, .inr (.inl ⟨rfl, bm, rfl⟩)⟩
      exact .inl ⟨rfl, rfl⟩
    rename_i bm;split
    · rename_i ad;simp only [ca, fr, eu] at ad;exact .inr ⟨rfl, hp, .inr (.inr (.inl ⟨rfl, bm, ⟨ad.1.1, ad.1.2, ad.2⟩, rfl⟩))⟩
    rename_i ad;refine .inr ⟨rfl, hp, .inr (.inr (.inr ⟨rfl, bm, fun aL => ad ?_, rfl⟩))⟩;simp only [ca, fr, eu];exact ⟨⟨aL.1, aL.2.1⟩, aL.2.2⟩
theorem wW(c:aU)(p:cE):((de c p).2=false/\(de c p).1=c)\/(cF c=true/\(de c p).2=true/\Step c p (de c p).1):=by
 unfold de;split
 ·rename_i hk;unfold mb;split
  case isFalse=>exact .inl ⟨rfl,rfl⟩
  rename_i bH;cases aa:b9 c p.a with
  | none=>exact .inl ⟨rfl,rfl⟩
  | some x=>
   rcases SR c.aF x with⟨h1,U⟩ | ⟨h1,r,q,ae,av,U⟩
   ·exact .inl ⟨h1,by dsimp only;rw[U];exact uG aa⟩
   refine .inr ⟨bH,h1,?_⟩;dsimp only;rw[U];exact .work x r q hk aa ae av
 split
 ·rename_i hk;unfold mc;split
  case isFalse=>exact .inl ⟨rfl,rfl⟩
  rename_i bH;cases aa:b9 c p.a with
  | none=>exact .inl ⟨rfl,rfl⟩
  | some x=>
   rcases SS c.aF x with⟨h1,U⟩ | ⟨h1,r,t,ae,av,hi,U⟩
   ·exact .inl ⟨h1,by dsimp only;rw[U];exact uG aa⟩
   refine .inr ⟨bH,h1,?_⟩;dsimp only;rw[U];exact .input x r t hk aa ae av hi
 split
 ·rename_i hk;unfold lF;split
  case isFalse=>exact .inl ⟨rfl,rfl⟩
  rename_i bH;cases aa:b9 c p.a with
  | none=>exact .inl ⟨rfl,rfl⟩
  | some x=>
   dsimp only;cases ae:x.ck with
   | nil=>exact .inl ⟨rfl,rfl⟩
   | cons r t=>
    dsimp only;unfold qC;split
    ·rename_i aN;exact .inr ⟨bH,rfl,.ey x r t hk aa ae aN⟩
    rename_i aN;cases af:ee c (dF c.aF p.a (eE r.key c.aF.ap)) with
    | none=>exact .inl ⟨rfl,rfl⟩
    | some l=>
     dsimp only;split
     ·rename_i h;exact .inr ⟨bH,rfl,.send x r t l hk aa ae aN af h⟩
     exact .inl ⟨rfl,rfl⟩
 split
 ·rename_i hk;unfold lG;split
  case isFalse=>exact .inl ⟨rfl,rfl⟩
  rename_i ad;simp only[ca,bne_iff_ne,ho]at ad;cases af:ee c (dF c.aF p.a p.b) with
  | none=>exact .inl ⟨rfl,rfl⟩
  | some l=>
   cases aa:b9 c p.b with
   | none=>exact .inl ⟨rfl,rfl⟩
   | some x=>
    dsimp only;split
    ·rename_i h;exact .inr ⟨ad.1,rfl,.take l x hk ad.2 af aa h⟩
    exact .inl ⟨rfl,rfl⟩
 split
 ·rename_i hk;unfold k2;split
  case isFalse=>exact .inl ⟨rfl,rfl⟩
  rename_i ad;simp only[ca,bne_iff_ne,ho]at ad;cases af:ee c (dF c.aF p.a p.b) with
  | none=>exact .inl ⟨rfl,rfl⟩
  | some l=>
   rcases wV l with⟨h1,U⟩ | ⟨h1,_⟩
   ·exact .inl ⟨h1,by dsimp only;rw[U];exact acI af⟩
   exact .inr ⟨ad.1,h1,.o3 l hk ad.2 af h1⟩
 split
 ·rename_i hk;unfold kK;split
  case isFalse=>exact .inl ⟨rfl,rfl⟩
  rename_i ad;simp only[ca]at ad;cases bm:b9 c 0 with
  | none=>exact .inl ⟨rfl,rfl⟩
  | some cJ=>
   cases bt:hg c p.a with
   | none=>exact .inl ⟨rfl,rfl⟩
   | some t=>
    dsimp only;cases ax:eD cJ p.a with
    | true=>exact .inl ⟨rfl,rfl⟩
    | false=>
     rw[aX (by simp)];cases aa:b9 c t.place with
     | none=>exact .inl ⟨rfl,rfl⟩
     | some x=>
      dsimp only;rcases oS c p.a t x with h1 | ⟨h1,_⟩
      ·exact .inl h1
      exact .inr ⟨ad.1,h1,.token t x cJ hk ad.2 bm ax bt aa h1⟩
 split
 ·rename_i hk;unfold lH;cases bl:c.news.findIdx? (fun n=>n.dest==p.a) with
  | none=>exact .inl ⟨rfl,rfl⟩
  | some k=>
   dsimp only;split
   case isFalse=>exact .inl ⟨rfl,rfl⟩
   rename_i bH;cases aL:c.news[k]? with
   | none=>exact .inl ⟨rfl,rfl⟩
   | some n=>
    cases aa:b9 c p.a with
    | none=>exact .inl ⟨rfl,rfl⟩
    | some x=>
     dsimp only;have ax:n.dest=p.a:=by
      have:=qK.1 bl;obtain⟨af,hp,_⟩:=this;rw[fC af]at aL;rw[ei aL]at hp;simpa using hp
     exact .inr ⟨bH,rfl,.o6 k n x hk aL ax aa⟩
 exact .inl ⟨rfl,rfl⟩
theorem adP{c:aU}{p:cE}(h:(de c p).2=false):(de c p).1=c:=by
 rcases wW c p with⟨_,U⟩ | ⟨_,U,_⟩
 ·exact U
 rw[h]at U;cases U
end Go.Proofs.YtdchjefneblpgaaGreat
namespace Go.Proofs.YtdchjefneblpgaaGreat
open Go.Sx Go.RowKit Go.Sort
def cW{α:Type}(f:α->Nat)(xs:List α):Nat:=(xs.map f).sum
theorem D6{α:Type}{f:α->Nat}{y:α}(x:α){xs:List α}{i:Nat}(h:xs[i]?=some y):cW f (xs.set i x)+f y=cW f xs+f x:=by
 have:=wT (sz:=f) x h;simp only[fp,eQ]at this;unfold cW;omega
