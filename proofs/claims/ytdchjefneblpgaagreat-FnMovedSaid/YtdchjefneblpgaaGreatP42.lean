import Derived.Test.YtdchjefneblpgaaGreatP31
set_option linter.unusedVariables false
set_option linter.unusedSimpArgs false
namespace Go.Proofs.YtdchjefneblpgaaGreat
open Go.Sx Go.RowKit Go.Proofs.Tryz
variable{l:bt}
theorem tn:ie l=true<->ap l.cap 1 4=true/\ap l.eo 0 l.cap=true/\ap l.back 0 l.cap=true/\l.eo+l.back+l.queue.length=l.cap/\ap l.eQ 0 1000000000=true/\0<=l.c5/\l.c5=l.eQ-l.queue.length/\(l.queue.any fun r=>!fe r)=false:=by
 simp only[ie,cq,g',dY,cK,and_assoc]
variable{g:b1}
theorem xP{i:Nat}:ja g i l=false<->ie l=true/\l.cap=g.cap/\fI g l.queue=true/\((i:Int).tdiv g.ay=(i:Int).tmod g.ay->l.queue=[]):=by
 simp only[ja,gq,kD,bne_eq_false_iff_eq,Bool.and_eq_false_imp,dY,ki];refine and_congr_right fun _=>and_congr_right fun _=>and_congr_right fun _=>imp_congr_right fun _=>?_
 cases l.queue with
 | nil=>simp
 | cons a q=>simp
variable{r:aA}
theorem abP{i:Nat}(h:ja g i l=false)(aD:kW g r=false)(ai:(dR l r).2=true)(aE:(i:Int).tdiv g.ay≠(i:Int).tmod g.ay):ja g i (dR l r).1=false:=by
 obtain⟨h1,U,ax,aK⟩:=xP.1 h;unfold dR at ai ⊢;split
 ·rename_i ah;simp only[cq,bne_iff_ne,gM,cK]at ah;obtain⟨⟨⟨_,kM⟩,ov⟩,Cl⟩:=ah;obtain⟨cV,cA,fl,pL,jv,nz,jT,nA⟩:=tn.1 h1;refine xP.2 ⟨tn.2 ⟨cV,?_,fl,?_,?_,nz,?_,?_⟩,U,Js.2 ⟨ax,aD⟩,fun e=>(aE e).elim⟩
  ·simp only[ap,cK]at cA ⊢;omega
  ·simp only[hs,dH,b9];omega
  ·simp only[ap,cK]at jv ⊢;omega
  ·simp only[hs,dH,b9];omega
  simp only[List.any_append,nA,uj,List.any_nil,kM,jJ,Bool.or_false]
 rename_i ah;rw[bg ah]at ai;cases ai
theorem D4{i:Nat}(h:ja g i l=false)(ai:(dt l).2.2=true):ja g i (dt l).1=false/\kW g (dt l).2.1=false:=by
 obtain⟨h1,U,ax,aK⟩:=xP.1 h;obtain⟨cV,cA,fl,pL,jv,nz,jT,nA⟩:=tn.1 h1;unfold dt at ai ⊢;rw[br h1]at ai ⊢;split
 ·rename_i aC;rw[aC]at ai;cases ai
 rename_i r q aC;rw[aC]at ax nA pL jT aK;rw[tk]at ax;rw[uj,gq]at nA;simp only[dH]at pL jT;refine⟨xP.2 ⟨tn.2 ⟨cV,cA,?_,?_,jv,?_,?_,nA.2⟩,U,ax.2,fun e=>absurd (aK e) (by simp)⟩,ax.1⟩
 ·simp only[ap,cK]at cA fl ⊢;omega
 ·dsimp only;omega
 ·dsimp only;omega
 dsimp only;omega
theorem abQ{i:Nat}(h:ja g i l=false):ja g i (eY l).1=false:=by
 obtain⟨h1,U,ax,aK⟩:=xP.1 h;obtain⟨cV,cA,fl,pL,jv,nz,jT,nA⟩:=tn.1 h1;unfold eY;split
 ·rename_i ah;simp only[cq,bne_iff_ne,gM]at ah;refine xP.2 ⟨tn.2 ⟨cV,?_,?_,?_,jv,nz,jT,nA⟩,U,ax,aK⟩
  ·simp only[ap,cK]at cA fl ⊢;omega
  ·simp only[ap,cK]at cA fl ⊢;omega
  dsimp only;omega
 exact h
theorem D5{a b:Int}(aT:1<=g.ay/\g.ay<=4)(aj:ap a 0 (g.ay-1)=true)(aq:ap b 0 (g.ay-1)=true):
  eE g a b=a*g.ay+b/\0<=a*g.ay+b/\a*g.ay+b<g.ay*g.ay/\(a*g.ay+b).tdiv g.ay=a/\(a*g.ay+b).tmod g.ay=b:=by
 have e:eE g a b=a*g.ay+b:=by unfold eE;rw[aj,aq];rfl
 simp only[ap,cK]at aj aq;generalize g.ay=n at*;have bJ:0<=a*n+b:=by have:=Int.mul_nonneg aj.1 (show 0<=n by omega);omega
 rw[Int.tdiv_eq_ediv_of_nonneg bJ,Int.tmod_eq_emod_of_nonneg bJ];have yV:n=1\/n=2\/n=3\/n=4:=by omega
 refine⟨e,bJ,?_⟩;rcases yV with rfl | rfl | rfl | rfl<;>omega
variable{b:Int}
theorem tp{a:Int}(h:(ap a 0 (g.ay-1)&&ap b 0 (g.ay-1))=false):eE g a b=-1:=by
 unfold eE;rw[h];rfl
variable{n:Int}
theorem RJ(key:Int)(aT:1<=n):ap (ic key n) 0 (n-1)=true:=by
 have h1:=JW key n (by omega);have U:=Int.tmod_lt_of_pos key (show 0<n by omega);unfold ic;rw[bg (by omega)];simp only[ap,cK];split<;>omega
variable{c:bb}
theorem xQ(h:cL c=true){a:Int}(aj:ap a 0 (c.aF.ay-1)=true)(aq:ap b 0 (c.aF.ay-1)=true):∃l,fO c (eE c.aF a b)=some l:=by
 obtain⟨h1,U,ax,_⟩:=hn.1 h;obtain⟨e,bJ,bC,_⟩:=D5 (lm h1) aj aq;rw[e];unfold fO;rw[br bJ];exact cY (by omega)
variable{i:Int}
theorem abR(h:fO c i=some l):((i.toNat:Nat):Int)=i:=by have:=(oQ h).1;omega
theorem AI{c:bb}{i:Int}(bJ:0<=i)(h1:i<c.ay.length):∃x,c4 c i=some x:=by
 unfold c4;rw[br bJ];exact cY (by omega)
variable{e:Int}
theorem abS(h:cL c=true)(he:ap e 0 3=true):∃t,je c e=some t:=by
 have aK:=(hn.1 h).2.2.2.1;simp only[ap,cK]at he;unfold je;rw[br he.1];exact cY (by omega)
variable{t:b2}
theorem xR:ku n t=false<->(0<=t.place/\t.place<=n-1)/\(t.going=false->t.place=0)/\(-1000000<=t.sum/\t.sum<=1000000):=by
 simp only[ku,ap,gq,kD,cK,Bool.and_eq_false_imp,g',bne_eq_false_iff_eq]
theorem vu{j:Int}:c4 (dB c i l) j=c4 c j:=rfl
theorem AJ{j:Int}:c4 (er c i t) j=c4 c j:=rfl
theorem RK:(dB c i l).aF=c.aF:=rfl
theorem RL:(er c i t).aF=c.aF:=rfl
variable{x:aP}
theorem abT:(setW c i x).aF=c.aF:=rfl
theorem abU{w o:Int}{t:List aA}(h:cL c=true)(ag:c4 c w=some x)(ai:x.cg=r::t)
  (aX:ap o 0 (c.aF.ay-1)=true) (cC:o≠w) (ak:fO c (eE c.aF w o)=some l) (hsend:(dR l r).2=true):
  cL (setW (dB c (eE c.aF w o) (dR l r).1) w (kx (gy x t) r.bx.bf))=ap (x.bH.getD r.bx.bf.toNat 0+1) (-1000000) 1000000:=by
 obtain⟨h1,U,_⟩:=hn.1 h;obtain⟨w0,w1,_⟩:=jW ag;obtain⟨ok,aD⟩:=D3 (ln h ag) ai;obtain⟨e,kP,r5,u',va⟩:=D5 (lm h1) (a:=w) (b:=o) (by simp only[ap,cK];omega) aX;have cz:cL (dB c (eE c.aF w o) (dR l r).1)=true:=by
  rw[Jq h ak,abP (xO h ak) aD hsend]
  ·rfl
  rw[abR ak,e,u',va];exact fun q=>cC q.symm
 rw[ti cz (vu.trans ag),RK,acf ok (q2 aD)];rfl
theorem adq{w:Int}{t:List aA}(h:cL c=true)(ag:c4 c w=some x)(ai:x.cg=r::t):cL (setW c w (kept (gy x t) r))=true:=by
 obtain⟨ok,aD⟩:=D3 (ln h ag) ai;rw[ti h ag,acb ok aD]
theorem adr{k:Int}(h:cL c=true)(ak:fO c k=some l)(ag:c4 c b=some x)(bR:(dt l).2.2=true):
  cL (setW (dB c k (dt l).1) b (ho x (dt l).2.1))=ap (x.bH.getD (dt l).2.1.bx.bf.toNat 0+-1) (-1000000) 1000000:=by
 obtain⟨cV,cA⟩:=D4 (xO h ak) bR;have cz:cL (dB c k (dt l).1)=true:=by rw[Jq h ak,cV];rfl
 rw[ti cz (vu.trans ag),RK,acg (ln h ag) cA]
theorem ads{c:bb}{w:Int}(h:cL c=true):cL (lS c w).1=true:=by
 unfold lS;rw[br h];split
 ·rename_i x ag;rw[ti h ag,abO (ln h ag)]
 exact h
theorem adt{c:bb}{w:Int}(h:cL c=true):cL (gW c w).1=true:=by
 unfold gW;rw[br h];split
 ·rename_i x ag;rw[ti h ag,ach (ln h ag)]
 exact h
theorem adu{c:bb}{a b:Int}(h:cL c=true):cL (gJ c a b).1=true:=by
 unfold gJ;split
 ·split
  ·rename_i l ak;rw[Jq h ak,abQ (xO h ak)];rfl
  exact h
 exact h
theorem RM{b:Bool}{m:Nat}(hm:(m:Int)=n-1)(he:ap e 0 3=true):(jb m e b).any (kv n)=false:=by
 rw[hr];intro x ag;simp only[jb,k2,List.mem_range]at ag;obtain⟨k,hk,rfl⟩:=ag;have h1:ap ((k:Int)+1) 0 (n-1)=true:=by simp only[ap,cK];omega
 simp only[kv,h1,he,jJ,Bool.or_false,rc,not_false_eq_true]
theorem adv{gZ:aP}(h:cL c=true)(he:ap e 0 3=true)(bR:je c e=some t)(ag:c4 c t.place=some x)(bJ:c4 c 0=some gZ)(aE:i' gZ e=false):cL (fD c e t x).1=true:=by
 obtain⟨h1,U,ax,aK,aV,bw,bX,c8⟩:=hn.1 h;have aT:=lm h1;obtain⟨t1,t2,t3⟩:=xR.1 (Jr h bR);have ok:=ln h ag;have Uj:∀dc:b2,ku c.aF.ay dc=false->cL (er c e dc)=true:=fun dc k=>by rw[ab7 h bR,k];rfl
 have both:∀dc:b2,ku c.aF.ay dc=false->cL (setW (er c e dc) t.place (gz x e))=true:=fun dc k=>by
  rw[ti (Uj dc k) (AJ.trans ag),RL,acd ok]
 unfold fD;split
 ·split
  ·exact both _ (xR.2 ⟨by dsimp only;omega,by simp,by simp⟩)
  rename_i au;split
  ·split
   ·rename_i hp aD;simp only[ap,cK]at aD;exact both _ (xR.2 ⟨by dsimp only;omega,by simp,aD⟩)
   exact h
  rename_i hp;have bz:t.place=0:=by omega
  have N':=Uj ⟨false,t.place,t.sum,t.bU,t.dT⟩ (xR.2 ⟨t1,fun _=>bz,t3⟩);split
  ·rw[bz]at ag;have Yh:gZ=x:=by rw[bJ]at ag;exact eL ag
   have kw:cL (setW (er c e ⟨false,t.place,t.sum,t.bU,t.dT⟩) 0 (told x e (t.dT||x.bK.getD e.toNat false)))=true:=by
    rw[ti N' (AJ.trans ag),RL];exact Ss ok he (Yh▸aE)
   rw[Sr kw,List.any_append];have e1:(setW (er c e ⟨false,t.place,t.sum,t.bU,t.dT⟩) 0 (told x e (t.dT||x.bK.getD e.toNat false))).aF=c.aF:=rfl;rw[e1,c8,RM (by omega) he];rfl
  exact N'
 exact h
theorem adw{c:bb}{e:Int}(h:cL c=true):cL (kY c e).1=true:=by
 unfold kY;split
 ·rename_i ah;rw[cq]at ah;split
  ·rename_i gZ t bJ bR;split
   ·exact h
   rename_i aE;split
   ·rename_i x ag;exact adv h ah.2 bR ag bJ (by simpa using aE)
   exact h
  exact h
 exact h
theorem RN{k:Nat}{n:cb}(h:cL c=true)(aT:c.news[k]?=some n):kv c.aF.ay n=false:=by
 have c8:=(hn.1 h).2.2.2.2.2.2.2;rw[hr]at c8;simpa using c8 n (eX aT)
theorem adx{α:Type}{p:α->Bool}{xs:List α}{k:Nat}(h:xs.any p=false):(cutAt xs k).any p=false:=by
 rw[hr]at h ⊢;intro a aj;rcases mW.1 aj with aj | aj
 ·exact h a (Fg aj)
 exact h a (Mt aj)
theorem ady{c:bb}{w:Int}(h:cL c=true):cL (lT c w).1=true:=by
 unfold lT;split
 ·rw[br h];split
  ·rename_i n x aT ag;have aq:=RN h aT;simp only[kv,gq,kD]at aq;have kw:cL (setW c w (h4 x n))=true:=by rw[ti h ag,ace (ln h ag) aq.2]
   rw[Sr kw,abT,adx (hn.1 h).2.2.2.2.2.2.2];rfl
  exact h
 exact h
theorem vv{α:Type}{sz:α->Nat}{y:α}(x:α):∀{xs:List α} {i:Nat},xs[i]?=some y->eZ sz (xs.set i x)+sz y=eZ sz xs+sz x
 | [],i,h=>by simp at h
 | a::xs,0,h=>by
  obtain rfl:a=y:=by simpa using h
  simp only[eZ,List.set_cons_zero,dH,l2,uo];omega
 | a::xs,i+1,h=>by
  have:=vv (sz:=sz) x (xs:=xs) (i:=i) (by simpa using h);simp only[eZ,List.set_cons_succ,dH,l2,uo]at this ⊢;omega
theorem tq{c:bb}{x y:aP}(h:c4 c i=some y):(setW c i x).sz+y.sz=c.sz+x.sz:=by
 have:=vv (sz:=aP.sz) x (jW h).2.2;simp only[setW,bb.sz];omega
theorem Ju{x y:bt}(h:fO c i=some y):(dB c i x).sz+y.sz=c.sz+x.sz:=by
 have:=vv (sz:=bt.sz) x (oQ h).2.2;simp only[dB,bb.sz];omega
theorem D6{x:b2}:(er c i x).sz=c.sz:=by
 simp only[er,bb.sz,fb]
theorem RO{c:bb}{x:List cb}:(jF c x).sz+c.news.length=c.sz+x.length:=by
 simp only[jF,bb.sz];omega
theorem RP(g:b1)(w:aP):(fJ g w).1.sz<=w.sz+2:=by
 unfold fJ;split
 ·rename_i ah;rw[cq]at ah;split
  ·rename_i r q h1 U;have:=acJ ah.1 w.cells r;simp only[aP.sz,h1,U,dH,b9];split<;>(try simp only[fb])<;>omega
  exact Nat.le_add_right _ _
 exact Nat.le_add_right _ _
theorem RQ(g:b1)(w:aP):(eB g w).1.sz<=w.sz:=by
 unfold eB;split
 ·split
  ·rename_i r t h1 U ax;simp only[aP.sz,h1,U,ax,dH,b9];omega
  exact fK _
 exact fK _
theorem Jv{w:aP}{t:List aA}(h:w.cg=r::t):(gy w t).sz+1=w.sz:=by
 simp only[gy,aP.sz,h,dH];omega
theorem adz(w:aP)(r:aA):(kept w r).sz=w.sz+1:=by
 simp only[kept,aP.sz,hs,dH,b9];omega
theorem adA(w:aP)(e:Int):(kx w e).sz=w.sz:=by
 simp only[kx,lO,aP.sz,fb]
theorem RR(w:aP)(r:aA):(ho w r).sz=w.sz+1:=by
 simp only[ho,lO,aP.sz,fb,hs,dH,b9];omega
theorem adB(w:aP)(e:Int):(gz w e).sz=w.sz:=by
 simp only[gz,aP.sz,fb]
theorem RS(w:aP)(e:Int)(b:Bool):(told w e b).sz=w.sz+1:=by
 simp only[told,aP.sz,hs,dH,b9];omega
theorem adC(w:aP)(n:cb):(h4 w n).sz<=w.sz+1:=by
 unfold h4;split
 ·omega
 rw[RS];omega
theorem RT(l:bt)(r:aA):(dR l r).1.sz<=l.sz+1:=by
 unfold dR;split<;>simp[bt.sz]
theorem RU(l:bt):(dt l).1.sz<=l.sz:=by
 unfold dt;split
 ·split
  ·exact fK _
  rename_i h;simp[bt.sz,h]
 exact fK _
theorem RV(l:bt):(eY l).1.sz=l.sz:=by
 unfold eY;split<;>rfl
theorem adD{α:Type}(xs:List α)(k:Nat):(cutAt xs k).length<=xs.length:=by
 simp only[cutAt,hs,lx,List.length_drop];omega
theorem adE(hw:c.ay.length<=4)(ag:c4 c t.place=some x)(bJ:0<=t.place):(fD c e t x).1.sz<=c.sz+4:=by
 unfold fD;have w1:∀dc,(setW (er c e dc) t.place (gz x e)).sz+x.sz=c.sz+x.sz:=fun dc=>by
  have:=tq (c:=er c e dc) (x:=gz x e) (AJ.trans ag);rwa[D6,adB]at this
 split
 ·split
  ·have:=w1 ⟨true,(c.ay.length:Int)-1,0,false,x.bK.getD e.toNat false⟩;dsimp only;omega
  split
  ·split
   ·have:=w1 ⟨true,t.place-1,t.sum+x.bH.getD e.toNat 0,t.bU||x.bU.getD e.toNat false,t.dT||x.bK.getD e.toNat false⟩;dsimp only;omega
   dsimp only;omega
  rename_i hp;have bz:t.place=0:=by omega
  split
  ·rw[bz]at ag;have a:=tq (c:=er c e ⟨false,t.place,t.sum,t.bU,t.dT⟩) (x:=told x e (t.dT||x.bK.getD e.toNat false)) (AJ.trans ag);rw[D6,RS]at a;have b:=RO (c:=setW (er c e ⟨false,t.place,t.sum,t.bU,t.dT⟩) 0 (told x e (t.dT||x.bK.getD e.toNat false))) (x:=c.news++jb (c.ay.length-1) e (t.dT||x.bK.getD e.toNat false));have d:(setW (er c e ⟨false,t.place,t.sum,t.bU,t.dT⟩) 0 (told x e (t.dT||x.bK.getD e.toNat false))).news=c.news:=rfl;rw[d]at b;simp only[hs,jb,bm,ye]at b;dsimp only;simp only[jb];omega
  dsimp only;rw[D6];omega
 dsimp only;omega
theorem adF(h:cL c=true):c.ay.length<=4:=by
 obtain⟨h1,U,_⟩:=hn.1 h;have:=lm h1;omega
theorem D7(c:bb)(p:df):(eF c p).1.sz<=c.sz+4:=by
 have dh:c.sz<=c.sz+4:=by omega
 unfold eF;split
 ·unfold lS;split
  ·split
   ·rename_i x ag;have:=tq (x:=(fJ c.aF x).1) ag;have:=RP c.aF x;dsimp only;omega
   exact dh
  exact dh
 split
 ·unfold gW;split
  ·split
   ·rename_i x ag;have:=tq (x:=(eB c.aF x).1) ag;have:=RQ c.aF x;dsimp only;omega
   exact dh
  exact dh
 split
 ·unfold gl;split
  ·split
   ·rename_i x ag;split
    ·rename_i r t ai;have hu:=Jv ai;unfold sk;split
     ·have:=tq (x:=kept (gy x t) r) ag;rw[adz]at this;dsimp only;omega
     split
     ·rename_i l ak;split
      ·have a:=Ju (x:=(dR l r).1) ak;have b:=tq (c:=dB c (eE c.aF p.a (ic r.key c.aF.ay)) (dR l r).1) (x:=kx (gy x t) r.bx.bf) (vu.trans ag);rw[adA]at b;have:=RT l r;dsimp only;omega
      exact dh
     exact dh
    exact dh
   exact dh
  exact dh
 split
 ·unfold gm;split
  ·split
   ·rename_i l x ak ag;split
    ·have a:=Ju (x:=(dt l).1) ak;have b:=tq (c:=dB c (eE c.aF p.a p.b) (dt l).1) (x:=ho x (dt l).2.1) (vu.trans ag);rw[RR]at b;have:=RU l;dsimp only;omega
    exact dh
   exact dh
  exact dh
 split
 ·unfold gJ;split
  ·split
   ·rename_i l ak;have a:=Ju (x:=(eY l).1) ak;have:=RV l;dsimp only;omega
   exact dh
  exact dh
 split
 ·unfold kY;split
  ·rename_i ah;rw[cq]at ah;split
   ·rename_i gZ t bJ bR;split
    ·exact dh
    split
    ·rename_i x ag;exact adE (adF ah.1) ag (jW ag).1
    exact dh
   exact dh
  exact dh
 split
 ·unfold lT;split
  ·rename_i k hk;split
   ·split
    ·rename_i n x aT ag;have a:=tq (x:=h4 x n) ag;have b:=RO (c:=setW c p.a (h4 x n)) (x:=cutAt c.news k);have d:(setW c p.a (h4 x n)).news=c.news:=rfl;rw[d]at b;have:=adC x n;have:=adD c.news k;dsimp only;omega
    exact dh
   exact dh
  exact dh
 exact dh
end Go.Proofs.YtdchjefneblpgaaGreat
namespace Go.Proofs.YtdchjefneblpgaaGreat
open Go.Sx Go.RowKit Go.Proofs.Tryz
def lq(c:bb)(b:Bool):List D:=[.J 4 (c.aF.nodes.map Node.e),I c.aF.ay,I c.aF.cap,.J 8 (c.ay.map aP.e),.J 6 (c.bV.map bt.e),.J 5 (c.tokens.map b2.e),.J 3 (c.news.map cb.e),B b]
abbrev fj(c:bb):List D:=lq c (cL c)
theorem xS(c:bb)(ah:c.sz<=8388608)(hw:fw c):bT prog 127 [.ro (.agg c.e)] (.new (fj c)):=
 acO ⟨aeP c ah,ab2 c ah hw,aa⟩
variable{i:Nat}
theorem RW{α:Type}{f:α->List D}{xs:List α}{a:α}:(xs.map f).set i (f a)=(xs.set i a).map f:=List.map_set.symm
variable{c:bb}{x:aP}
theorem nX{i:Int}(h:c4 c i=some x):0<=i/\i<(↑(c.ay.map aP.e).length:Int)/\(c.ay.map aP.e)[i.toNat]?=some x.e:=by
 obtain⟨h1,U,ax⟩:=jW h;exact⟨h1,by rw[bm];omega,bM aP.e ax⟩
theorem p6{i:Int}(h:c4 c i=some x)(ah:c.sz<=8388608):x.sz<=8388608:=bb.Lt ah (eX (jW h).2.2)
theorem adG{l:List cb}(hi:i<l.length):([]++((l.map cb.e).drop 0).take (((some (i:Int)).getD (↑(l.map cb.e).length:Int)).toNat-0)++((l.map cb.e).drop ((some ((i:Int)+1)).getD 0).toNat).take ((l.map cb.e).length-((some ((i:Int)+1)).getD 0).toNat))=(cutAt l i).map cb.e:=by
 have e1:((i:Int)+1).toNat=i+1:=by omega
 simp only[cutAt,iA,l0,Nat.sub_zero,yc,List.nil_append,e1,ha,uk,List.map_drop]
 congr 1
 rw[ya (by simp)]
theorem RX{l:List cb}:((l.map cb.e).drop ((some ((i:Int)+1)).getD 0).toNat).take ((l.map cb.e).length-((some ((i:Int)+1)).getD 0).toNat)=(l.drop (i+1)).map cb.e:=by
 have e1:((i:Int)+1).toNat=i+1:=by omega
 simp only[iA,e1,List.map_drop];rw[ya (by simp)]
theorem RY(h:cL c=true){n:cb}(aT:c.news[i]?=some n){w:Int}(hw:(n.dest==w)=true):∃x,c4 c w=some x:=by
 have aq:=RN h aT;simp only[kv,ap,gq,kD,cK]at aq;have U:=(hn.1 h).2.1;have e:=eq_of_beq hw;exact AI (by omega) (by omega)
theorem D8{α:Type}{f:α->List D}(h:∀a,∀d∈f a,∃x,d=.v x){l:List (List D)}{xs:List α}(ak:l=xs.map f):Flat l:=ak▸cr f h xs
theorem adH{w:Int}{n:cb}(h1:c.news.findIdx? (fun n=>n.dest==w)=some i)(cG:cL c=true)(aT:c.news[i]?=some n)(ag:c4 c w=some x):lT c w=(jF (setW c w (h4 x n)) (cutAt c.news i),true):=by
 unfold lT;simp only[h1,cG,gL,aT,ag]
theorem adI(c:bb)(w:Int)(ah:c.sz<=8388608):bT prog 247 [.ref (fj c) (fj (lT c w).1),.ro (.one (I w))] (.vals [.one (B (lT c w).2)]):=by
 have ak:=D0 ah;have Cf:=fun h=>ady (c:=c) (w:=w) h
 cases cG:cL c with
 | false=>
  have e:lT c w=(c,false):=by
   unfold lT;split<;>simp[cG]
  rw[e];simp only[fj,cG];cases aT:c.news with
  | nil=>
   have l:c0 prog (ar f247 0) (p7 w 0 (c.aF.nodes.map Node.e) c.aF.ay c.aF.cap (c.ay.map aP.e) (c.bV.map bt.e) (c.tokens.map b2.e) (c.news.map cb.e) false) (.exit 0) _:=.last (cM 0) (Rz ⟨by simp[aT],aa⟩);exact Jx ⟨l,aa⟩
  | cons a l=>
   have l:c0 prog (ar f247 0) (p7 w 0 (c.aF.nodes.map Node.e) c.aF.ay c.aF.cap (c.ay.map aP.e) (c.bV.map bt.e) (c.tokens.map b2.e) (c.news.map cb.e) false) (.exit 0) _:=.last (cM 0) (acS ⟨dZ (by simp[aT]<;>omega),rfl,aa⟩);exact Jx ⟨l,aa⟩
 | true=>
  have Cf:=Cf cG;have l:=hh (P:=prog) (c:=(ar f247 0)) c.news (fun n=>n.dest==w) (fun i=>p7 w i (c.aF.nodes.map Node.e) c.aF.ay c.aF.cap (c.ay.map aP.e) (c.bV.map bt.e) (c.tokens.map b2.e) (c.news.map cb.e) true)
   (X:=fun i n=>match c4 c w with
    | some x=>D9 true (c.aF.nodes.map Node.e) c.aF.ay c.aF.cap ((setW c w (h4 x n)).ay.map aP.e) (c.bV.map bt.e) (c.tokens.map b2.e) ((cutAt c.news i).map cb.e) true
    | none=>⟨[],[]⟩) fi (cM 0)
   (fun i a aj h=>acP ⟨cf (a6 aj),rfl,bG,bL (a6 aj),bF cb.e aj,by simp only[bne,h];rfl,dw (a6 aj) ak,aa⟩)
   (fun i a aj h=>by
    obtain⟨x,ag⟩:=RY cG aj h;have hi:=a6 aj;obtain⟨w0,w1,kA⟩:=nX ag;have ai:=p6 ag ah;simp only[ag];rw[<-adG hi];cases aE:i' x a.bf with
    | true=>
     rw[show h4 x a=x by unfold h4;rw[aE];rfl,tj ag];exact acR ⟨cf hi,rfl,bG,bL hi,bF cb.e aj,by simp only[bne,h];rfl,by simp,by simp,by simp;omega,by simp;omega,by simp;omega,D8 (xs:=c.news.take i) cb.flat (by simp),dw hi ak,by simp;omega,by simp;omega,by simp,by simp;omega,by simp;omega,D8 (xs:=c.news.drop (i+1)) cb.flat RX,w0,w1,kA,JI x a.bf true aE ai,rfl,aa⟩
    | false=>
     have rM:x.b'.length<=8388608:=by simp only[aP.sz]at ai;omega
     have e2:(setW c w (h4 x a)).ay.map aP.e=(c.ay.map aP.e).set w.toNat (told x a.bf a.dT).e:=by
      rw[show h4 x a=told x a.bf a.dT by unfold h4;rw[aE];rfl];exact RW.symm
     rw[e2];have cc:(told x a.bf a.dT).e=[.J 5 (x.queue.map aA.e),.J 5 (x.cg.map aA.e),.J 5 (x.b8.map aA.e),.J 4 (x.cells.map Cell.e),.J 1 (x.bH.map a8),.J 1 (x.bU.map cu),.J 1 (x.bK.map cu),.J 2 (x.b'.map cD.e++[[I a.bf,B a.dT]])]:=by
      simp only[told,aP.e,ha];rfl
     rw[cc];exact acQ ⟨cf hi,rfl,bG,bL hi,bF cb.e aj,by simp only[bne,h];rfl,by simp,by simp,by simp;omega,by simp;omega,by simp;omega,D8 (xs:=c.news.take i) cb.flat (by simp),dw hi ak,by simp;omega,by simp;omega,by simp,by simp;omega,by simp;omega,D8 (xs:=c.news.drop (i+1)) cb.flat RX,w0,w1,kA,JI x a.bf false aE ai,rfl,w0,w1,kA,by simp;omega,by simp;omega,kA,rfl,dG (cD.flat ⟨a.bf,a.dT⟩),rfl,rfl,rfl,rfl,rfl,rfl,rfl,rfl,rfl,rfl,rfl,w0,w1,kA,rfl,aa⟩)
   (Rz ⟨dU,aa⟩)
  rcases l with⟨_,h1,_,U⟩ | ⟨i,a,aj,hp,_,h1,_,U⟩
  ·have e:lT c w=(c,false):=by unfold lT;simp only[h1]
   rw[e];simp only[fj,cG];exact Jx ⟨U,aa⟩
  obtain⟨x,ag⟩:=RY cG aj hp;rw[adH h1 cG aj ag]at Cf ⊢;simp only[ag]at U;simp only[fj,cG,Cf];exact acT ⟨U,aa⟩
end Go.Proofs.YtdchjefneblpgaaGreat
namespace Go.Proofs.YtdchjefneblpgaaGreat
open Go.Sx Go.RowKit Go.Proofs.Tryz
theorem Wa(a b:Nat):(((a:Int)+(b:Int))==0)=(a+b==0):=by
 rw[Bool.eq_iff_iff];simp only[dY];omega
theorem adJ(w:aP)(e:Int)(hw:w.sz<=8388608):av 342 [.agg w.e,.one (I e)] [.one (B (AH w e))]:=by
 have ak:w.b8.length<=8388608:=by simp only[aP.sz]at hw;omega
 have l:=hh (P:=prog) (c:=(ar f342 0)) w.b8 (fun r=>decide (r.bx.bf<=e)) (fun i=>vw (w.queue.map aA.e) (w.cg.map aA.e) (w.b8.map aA.e) (w.cells.map Cell.e) (w.bH.map a8) (w.bU.map cu) (w.bK.map cu) (w.b'.map cD.e) e i) (X:=fun _ _=>Jy true) fi (cM 0)
  (fun i a aj h=>aeG ⟨cf (a6 aj),bG,bL (a6 aj),bF aA.e aj,h,dw (a6 aj) ak,aa⟩)
  (fun i a aj h=>aeF ⟨cf (a6 aj),bG,bL (a6 aj),bF aA.e aj,h,aa⟩)
  (aeH ⟨dU,aa⟩)
 unfold AH;rcases l with⟨_,_,h1,U⟩ | ⟨i,a,_,_,_,_,h1,U⟩
 ·rw[h1];exact aeJ ⟨U,aa⟩
 rw[h1];exact aeI ⟨U,aa⟩
theorem adK(w:aP)(e:Int)(hw:w.sz<=8388608):av 343 [.agg w.e,.one (I e)] [.one (I ((↑((p4 e w.queue).map aA.e).length:Int)+(↑((p4 e w.cg).map aA.e).length:Int)))]:=by
 simp only[aP.sz]at hw;have cV:(p4 e w.queue).length<=w.queue.length:=ud _ _;have cA:(p4 e w.cg).length<=w.cg.length:=ud _ _;exact aeM ⟨QZ w.queue e (by omega),QZ w.cg e (by omega),⟨by simp only[bm];omega,by simp only[bm];omega⟩,aa⟩
theorem adL(w:aP)(e:Int)(hw:w.sz<=8388608):av 316 [.agg w.e,.one (I e)] [.one (B (kX w e))]:=by
 have o:=adJ w e hw;unfold kX;cases h:AH w e with
 | true=>rw[h]at o;exact aeL ⟨o,rfl,aa⟩
 | false=>
  rw[h]at o;have a:=adK w e hw;rw[bm,bm]at a;have b:=aeK ⟨o,rfl,a,aa⟩;rw[Wa]at b;exact b
theorem RZ(w:aP)(e:Int)(r:Bool)(h:kX w e=r)(hw:w.sz<=8388608):av 316 [.agg w.e,.one (I e)] [.one (B r)]:=h▸adL w e hw
end Go.Proofs.YtdchjefneblpgaaGreat
namespace Go.Proofs.YtdchjefneblpgaaGreat
open Go.Sx Go.RowKit Go.Proofs.Tryz
variable{c:bb}
theorem adM{i:Int}{t:b2}(h:je c i=some t):0<=i/\i<(↑(c.tokens.map b2.e).length:Int)/\(c.tokens.map b2.e)[i.toNat]?=some t.e:=by
 obtain⟨h1,U,ax⟩:=D2 h;exact⟨h1,by rw[bm];omega,bM b2.e ax⟩
variable{e:Int}
theorem zj{xs:List Int}(aK:xs.length=4)(he:0<=e/\e<=3):e<(↑(xs.map a8).length:Int)/\(xs.map a8)[e.toNat]?=some [I (xs.getD e.toNat 0)]:=by
 have ak:e.toNat<xs.length:=by omega
 refine⟨by rw[bm];omega,?_⟩;rw[dd,gp ak,ik,gp ak];rfl
theorem uK{xs:List Bool}(aK:xs.length=4)(he:0<=e/\e<=3):e<(↑(xs.map cu).length:Int)/\(xs.map cu)[e.toNat]?=some [B (xs.getD e.toNat false)]:=by
 have ak:e.toNat<xs.length:=by omega
 refine⟨by rw[bm];omega,?_⟩;rw[dd,gp ak,ik,gp ak];rfl
theorem rD{l:List (List D)}{i:Int}{a:List D}(bJ:0<=i)(h:i<(↑l.length:Int)):(l.set i.toNat a)[i.toNat]?=some a:=List.getElem?_set_self (by omega)
theorem R0(x:aP)(e:Int):(gz x e).e=[.J 5 (x.queue.map aA.e),.J 5 (x.cg.map aA.e),.J 5 (x.b8.map aA.e),.J 4 (x.cells.map Cell.e),.J 1 (x.bH.map a8),.J 1 ((x.bU.map cu).set e.toNat [B false]),.J 1 (x.bK.map cu),.J 2 (x.b'.map cD.e)]:=by
 simp only[gz,aP.e,iB];rfl
theorem adN(x:aP)(e:Int)(b:Bool):(told x e b).e=[.J 5 (x.queue.map aA.e),.J 5 (x.cg.map aA.e),.J 5 (x.b8.map aA.e),.J 4 (x.cells.map Cell.e),.J 1 (x.bH.map a8),.J 1 (x.bU.map cu),.J 1 (x.bK.map cu),.J 2 (x.b'.map cD.e++[[I e,B b]])]:=by
 simp only[told,aP.e,ha];rfl
theorem R1(c:bb)(e p:Int)(t:b2)(y:aP)(b:Bool):lq (setW (er c e t) p y) b=[.J 4 (c.aF.nodes.map Node.e),I c.aF.ay,I c.aF.cap,.J 8 ((c.ay.map aP.e).set p.toNat y.e),.J 6 (c.bV.map bt.e),.J 5 ((c.tokens.map b2.e).set e.toNat t.e),.J 3 (c.news.map cb.e),B b]:=by
 simp only[setW,er,lq,iB]
theorem adO(c:bb)(e:Int)(t:b2)(b:Bool):lq (er c e t) b=[.J 4 (c.aF.nodes.map Node.e),I c.aF.ay,I c.aF.cap,.J 8 (c.ay.map aP.e),.J 6 (c.bV.map bt.e),.J 5 ((c.tokens.map b2.e).set e.toNat t.e),.J 3 (c.news.map cb.e),B b]:=by
 simp only[er,lq,iB]
theorem adP(n:Nat)(e:Int)(b:Bool):jb (n+1) e b=jb n e b++[⟨(n:Int)+1,e,b⟩]:=by simp[jb,List.range_succ]
theorem acY(n:Nat)(e:Int)(b:Bool):(jb n e b).length=n:=by simp[jb]
theorem acZ{gZ x:aP}{t:b2}(ok:cL c=true)(he:ap e 0 3=true)(bJ:c4 c 0=some gZ)(bR:je c e=some t)(aE:i' gZ e=false)(ag:c4 c t.place=some x):kY c e=fD c e t x:=by
 unfold kY;simp only[ok,he,Bool.and_self,gL,bJ,bR,aE,rc,mY,ag]
theorem ac0(ok:cL c=true)(he:ap e 0 3=true):∃gZ t x,c4 c 0=some gZ/\je c e=some t/\c4 c t.place=some x/\0<c.ay.length/\c.ay.length<=4/\
  (0<=t.place/\t.place<=3)/\(t.going=false->t.place=0)/\(-1000000<=t.sum/\t.sum<=1000000)/\x.bH.length=4/\x.bU.length=4/\x.bK.length=4/\(-1000000<=x.bH.getD e.toNat 0/\x.bH.getD e.toNat 0<=1000000):=by
 obtain⟨h1,U,ax,aK,aV,bw,bX,c8⟩:=hn.1 ok;have aT:=lm h1;obtain⟨gZ,bJ⟩:=AI (c:=c) (i:=0) (by omega) (by omega);obtain⟨t,bR⟩:=abS ok he;obtain⟨t1,t2,t3⟩:=xR.1 (Jr ok bR);obtain⟨x,ag⟩:=AI (c:=c) (i:=t.place) (by omega) (by omega);obtain⟨_,_,_,_,jv,nz,jT,_,r1,_⟩:=jc.1 (ln ok ag);refine⟨gZ,t,x,bJ,bR,ag,by omega,by omega,by omega,t2,t3,jv,nz,jT,?_⟩;simp only[ap,cK]at he;have ak:e.toNat<x.bH.length:=by omega
 rw[hr]at r1;have:=r1 _ (x9 ak);rw[ik,gp ak,iA];simpa only[mM,g',kD,ap,cK,uf,Bool.not_not,Bool.not_eq_eq_eq_not,jJ,ki,Classical.not_not]using this
theorem R2(c:bb)(e:Int)(x:aP)(r:Bool)(bJ:c4 c 0=some x)(aE:i' x e=r)(ah:c.sz<=8388608):av 315 [.agg c.e,.one (I e)] [.one (B r)]:=by
 obtain⟨w0,w1,kA⟩:=nX bJ;exact aeE ⟨dZ (by omega),w0,w1,kA,JI x e r aE (p6 bJ ah),aa⟩
theorem ac1(c:bb)(b:Bool)(x:aP)(e:Int)(cap:Bool)(bJ:c4 c 0=some x)(aK:c.ay.length<=4)(ah:c.sz<=8388608):
  bT prog 317 [.ref (lq c b) (lq (jF (setW c 0 (told x e cap)) (c.news++jb (c.ay.length-1) e cap)) b),.ro (.one (I e)),.ro (.one (B cap))] (.vals []):=by
 obtain⟨w0,w1,kA⟩:=nX bJ;have aT:=D0 ah;have ai:=p6 bJ ah;have rM:x.b'.length<=8388608:=by simp only[aP.sz]at ai;omega
 have hlen:=(jW bJ).2.1;have sU:((setW c 0 (told x e cap)).ay.map aP.e).length=c.ay.length:=by simp[setW]
 have l:=e7 (P:=prog) (c:=(ar f317 0)) (cM 0) (c.ay.length-1) (fun i:Nat=>zW e cap ((i:Int)+1) (c.aF.nodes.map Node.e) c.aF.ay c.aF.cap ((setW c 0 (told x e cap)).ay.map aP.e) (c.bV.map bt.e) (c.tokens.map b2.e) ((c.news++jb i e cap).map cb.e) b) (fun i hi=>by
  have hm:=acY i e cap;rw[adP,<-re,ha (l₂:=[_])];exact acU ⟨dZ (by rw[sU];omega),by simp;omega,by simp;omega,dG (cb.flat ⟨(i:Int)+1,e,cap⟩),⟨by omega,by omega⟩,aa⟩) (acV ⟨eD (by rw[sU];omega),aa⟩)
 have e2:(setW c 0 (told x e cap)).ay.map aP.e=(c.ay.map aP.e).set 0 [.J 5 (x.queue.map aA.e),.J 5 (x.cg.map aA.e),.J 5 (x.b8.map aA.e),.J 4 (x.cells.map Cell.e),.J 1 (x.bH.map a8),.J 1 (x.bU.map cu),.J 1 (x.bK.map cu),.J 2 (x.b'.map cD.e++[[I e,B cap]])]:=by
  rw[<-adN];exact RW.symm
 have bz:jb 0 e cap=[]:=rfl;rw[e2,bz,lu]at l;have gQ:lq (jF (setW c 0 (told x e cap)) (c.news++jb (c.ay.length-1) e cap)) b=[.J 4 (c.aF.nodes.map Node.e),I c.aF.ay,I c.aF.cap,.J 8 ((setW c 0 (told x e cap)).ay.map aP.e),.J 6 (c.bV.map bt.e),.J 5 (c.tokens.map b2.e),.J 3 ((c.news++jb (c.ay.length-1) e cap).map cb.e),B b]:=rfl;rw[gQ,e2];exact acW ⟨by omega,w1,kA,by simp;omega,by simp;omega,kA,rfl,dG (cD.flat ⟨e,cap⟩),rfl,rfl,rfl,rfl,rfl,rfl,rfl,by omega,w1,kA,rfl,l,aa⟩
theorem ac2(c:bb)(e:Int)(ah:c.sz<=8388608):bT prog 246 [.ref (fj c) (fj (kY c e).1),.ro (.one (I e))] (.vals [.one (B (kY c e).2)]):=by
 have post:=fun h=>adw (c:=c) (e:=e) h
 cases ok:cL c with
 | false=>
  rw[show kY c e=(c,false) by unfold kY;simp[ok]];simp only[fj,ok];exact acX ⟨rfl,aa⟩
 | true=>
 replace post:=post ok;cases he:ap e 0 3 with
 | false=>
  rw[show kY c e=(c,false) by unfold kY;simp[he]];simp only[fj,ok];exact aeq ⟨rfl,fu _ he,rfl,aa⟩
 | true=>
 have he:=he;obtain⟨gZ,t,x,bJ,bR,ag,Cb,yR,yX,Xf,atI,rU,B6,wH,wW⟩:=ac0 ok he;have uU:0<=e/\e<=3:=by simpa only[ap,cK]using he
 obtain⟨eG,jf,jg⟩:=adM bR;obtain⟨c',c6,dm⟩:=nX ag;obtain⟨auf,aug,auh⟩:=nX bJ;obtain⟨qd,qe⟩:=zj rU uU;obtain⟨pM,nB⟩:=uK B6 uU;obtain⟨BP,BQ⟩:=uK wH uU;have ek:=p6 ag ah;have rM:x.b'.length<=8388608:=by simp only[aP.sz]at ek;omega
 have Nw:(↑(c.ay.map aP.e).length:Int)=(c.ay.length:Int):=by rw[bm]
 cases aE:i' gZ e with
 | true=>
  rw[show kY c e=(c,false) by unfold kY;simp only[ok,he,Bool.and_self,gL,bJ,bR,aE]];simp only[fj,ok];exact aer ⟨rfl,fu _ he,rfl,R2 c e gZ true bJ aE ah,rfl,aa⟩
 | false=>
 rw[acZ ok he bJ bR aE ag]at post ⊢;have rd:=R2 c e gZ false bJ aE ah;have o3:=fu _ he;cases hp:kX x e with
 | false=>
  rw[show fD c e t x=(c,false) by unfold fD;simp[hp]];simp only[fj,ok];exact aes ⟨rfl,o3,rfl,rd,rfl,eG,jf,jg,c',c6,dm,RZ x e _ hp ek,rfl,aa⟩
 | true=>
 have pU:=RZ x e _ hp ek;have lE:az .i64 (t.sum+x.bH.getD e.toNat 0):=⟨by omega,by omega⟩
 simp only[fj,ok,post];clear post;obtain⟨Un,t',ts,tb,gn⟩:=t;dsimp only at*;cases Un with
 | false=>
  obtain rfl:t'=0:=Xf rfl;rw[show fD c e ⟨false,0,ts,tb,gn⟩ x=(setW (er c e ⟨true,(c.ay.length:Int)-1,0,false,x.bK.getD e.toNat false⟩) 0 (gz x e),true) by simp only[fD,hp,gL,o8]];dsimp only;rw[R1,R0,<-Nw];exact aet ⟨rfl,o3,rfl,rd,rfl,eG,jf,jg,c',c6,dm,pU,rfl,eG,qd,qe,lE,rfl,⟨by omega,by omega⟩,eG,BP,BQ,eG,jf,jg,by omega,c6,dm,eG,pM,nB,dm,rfl,rfl,rfl,rfl,rfl,aa⟩
 | true=>
 by_cases lJ:0<t'
 case pos=>
  have ph:decide (t'>0)=true:=dZ lJ;cases aD:ap (ts+x.bH.getD e.toNat 0) (-1000000) 1000000 with
  | false=>
   rw[show fD c e ⟨true,t',ts,tb,gn⟩ x=(c,false) by simp only[fD,hp,gL,jJ,rc,mY,lJ,aD]];exact aeu ⟨rfl,o3,rfl,rd,rfl,eG,jf,jg,c',c6,dm,pU,rfl,eG,qd,qe,lE,rfl,ph,fu _ aD,rfl,aa⟩
  | true=>
   have e1:fD c e ⟨true,t',ts,tb,gn⟩ x=(setW (er c e ⟨true,t'-1,ts+x.bH.getD e.toNat 0,tb||x.bU.getD e.toNat false,gn||x.bK.getD e.toNat false⟩) t' (gz x e),true):=by
    simp only[fD,hp,gL,jJ,rc,mY,lJ,aD]
   rw[e1];dsimp only;rw[R1,R0];have wr:=fu _ aD;cases tb with
   | true=>
    cases gn with
    | true=>exact aev ⟨rfl,o3,rfl,rd,rfl,eG,jf,jg,c',c6,dm,pU,rfl,eG,qd,qe,lE,rfl,ph,wr,rfl,⟨by omega,by omega⟩,rfl,rfl,eG,jf,jg,c',c6,dm,eG,pM,nB,dm,rfl,rfl,rfl,rfl,rfl,aa⟩
    | false=>exact aew ⟨rfl,o3,rfl,rd,rfl,eG,jf,jg,c',c6,dm,pU,rfl,eG,qd,qe,lE,rfl,ph,wr,rfl,⟨by omega,by omega⟩,rfl,rfl,eG,BP,BQ,eG,jf,jg,c',c6,dm,eG,pM,nB,dm,rfl,rfl,rfl,rfl,rfl,aa⟩
   | false=>
    cases gn with
    | true=>exact aex ⟨rfl,o3,rfl,rd,rfl,eG,jf,jg,c',c6,dm,pU,rfl,eG,qd,qe,lE,rfl,ph,wr,rfl,⟨by omega,by omega⟩,rfl,eG,pM,nB,rfl,eG,jf,jg,c',c6,dm,eG,pM,nB,dm,rfl,rfl,rfl,rfl,rfl,rfl,rfl,aa⟩
    | false=>exact aey ⟨rfl,o3,rfl,rd,rfl,eG,jf,jg,c',c6,dm,pU,rfl,eG,qd,qe,lE,rfl,ph,wr,rfl,⟨by omega,by omega⟩,rfl,eG,pM,nB,rfl,eG,BP,BQ,eG,jf,jg,c',c6,dm,eG,pM,nB,dm,rfl,rfl,rfl,rfl,rfl,rfl,rfl,aa⟩
 case neg=>
  obtain rfl:t'=0:=by omega
  have ph:decide ((0:Int)>0)=false:=rfl;have e1:=fun b=>adO c e ⟨false,0,ts,tb,gn⟩ b
  have ends:=fun cap=>ac1 (er c e ⟨false,0,ts,tb,gn⟩) true x e cap (AJ.trans ag) yR (by rw[D6];exact ah)
  rw[e1]at ends;cases tb with
  | true=>
   rw[show fD c e ⟨true,0,ts,true,gn⟩ x=(er c e ⟨false,0,ts,true,gn⟩,true) by simp[fD,hp]];dsimp only;rw[e1];exact aeD ⟨rfl,o3,rfl,rd,rfl,eG,jf,jg,c',c6,dm,pU,rfl,eG,qd,qe,lE,rfl,ph,eG,jf,jg,rfl,aa⟩
  | false=>
  cases hk:x.bU.getD e.toNat false with
  | true=>
   rw[hk]at nB;rw[show fD c e ⟨true,0,ts,false,gn⟩ x=(er c e ⟨false,0,ts,false,gn⟩,true) by unfold fD;simp only[hp,hk];rfl];dsimp only;rw[e1];exact aeC ⟨rfl,o3,rfl,rd,rfl,eG,jf,jg,c',c6,dm,pU,rfl,eG,qd,qe,lE,rfl,ph,eG,jf,jg,rfl,eG,pM,nB,rfl,aa⟩
  | false=>
  rw[hk]at nB;cases bd:(ts+x.bH.getD e.toNat 0==0) with
  | false=>
   rw[show fD c e ⟨true,0,ts,false,gn⟩ x=(er c e ⟨false,0,ts,false,gn⟩,true) by unfold fD;simp only[hp,hk,bd];rfl];dsimp only;rw[e1];exact aeB ⟨rfl,o3,rfl,rd,rfl,eG,jf,jg,c',c6,dm,pU,rfl,eG,qd,qe,lE,rfl,ph,eG,jf,jg,rfl,eG,pM,nB,rfl,bd,aa⟩
  | true=>
  rw[show fD c e ⟨true,0,ts,false,gn⟩ x=(jF (setW (er c e ⟨false,0,ts,false,gn⟩) 0 (told x e (gn||x.bK.getD e.toNat false))) (c.news++jb (c.ay.length-1) e (gn||x.bK.getD e.toNat false)),true) by unfold fD;simp only[hp,hk,bd];rfl];cases gn with
  | true=>exact aez ⟨rfl,o3,rfl,rd,rfl,eG,jf,jg,c',c6,dm,pU,rfl,eG,qd,qe,lE,rfl,ph,eG,jf,jg,rfl,eG,pM,nB,rfl,bd,rfl,ends true,aa⟩
  | false=>exact aeA ⟨rfl,o3,rfl,rd,rfl,eG,jf,jg,c',c6,dm,pU,rfl,eG,qd,qe,lE,rfl,ph,eG,jf,jg,rfl,eG,pM,nB,rfl,bd,rfl,eG,BP,BQ,ends _,aa⟩
