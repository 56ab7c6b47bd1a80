import Derived.Test.YtdchjefneblpgaaGreatP31
import Derived.Test.YtdchjefneblpgaaGreatP43
set_option linter.unusedVariables false
set_option linter.unusedSimpArgs false
namespace Go.Proofs.YtdchjefneblpgaaGreat
open Go.Sx Go.RowKit Go.Proofs.Tryz
variable{l:bD}
theorem tJ:jm l=true<->ap l.cap 1 4=true/\ap l.e0 0 l.cap=true/\ap l.back 0 l.cap=true/\l.e0+l.back+l.queue.length=l.cap/\ap l.fs 0 1000000000=true/\0<=l.du/\l.du=l.fs-l.queue.length/\(l.queue.any fun r=>!e4 r)=false:=by
 simp only[jm,cx,hv,eD,cU,and_assoc]
variable{g:bX}
theorem xH{i:Nat}:jn g i l=false<->jm l=true/\l.cap=g.cap/\fQ g l.queue=true/\((i:Int).tdiv g.az=(i:Int).tmod g.az->l.queue=[]):=by
 simp only[jn,gz,kF,bne_eq_false_iff_eq,Bool.and_eq_false_imp,eD,mU];refine and_congr_right fun _=>and_congr_right fun _=>and_congr_right fun _=>imp_congr_right fun _=>?_
 cases l.queue with
 | nil=>simp
 | cons a q=>simp
variable{r:aG}
theorem ada{i:Nat}(h:jn g i l=false)(aA:kX g r=false)(aj:(fh l r).2=true)(aD:(i:Int).tdiv g.az≠(i:Int).tmod g.az):jn g i (fh l r).1=false:=by
 obtain⟨h1,U,aw,aH⟩:=xH.1 h;unfold fh at aj ⊢;split
 ·rename_i ai;simp only[cx,bne_iff_ne,hZ,cU]at ai;obtain⟨⟨⟨_,kN⟩,oh⟩,Co⟩:=ai;obtain⟨cT,b5,fq,pC,jI,ny,jh,nz⟩:=tJ.1 h1;refine xH.2 ⟨tJ.2 ⟨cT,?_,fq,?_,?_,ny,?_,?_⟩,U,J5.2 ⟨aw,aA⟩,fun e=>(aD e).elim⟩
  ·simp only[ap,cU]at b5 ⊢;omega
  ·simp only[km,dN,bW];omega
  ·simp only[ap,cU]at jI ⊢;omega
  ·simp only[km,dN,bW];omega
  simp only[List.any_append,nz,ud,List.any_nil,kN,iW,Bool.or_false]
 rename_i ai;rw[bh ai]at aj;cases aj
theorem J8{i:Nat}(h:jn g i l=false)(aj:(eB l).2.2=true):jn g i (eB l).1=false/\kX g (eB l).2.1=false:=by
 obtain⟨h1,U,aw,aH⟩:=xH.1 h;obtain⟨cT,b5,fq,pC,jI,ny,jh,nz⟩:=tJ.1 h1;unfold eB at aj ⊢;rw[br h1]at aj ⊢;split
 ·rename_i aE;rw[aE]at aj;cases aj
 rename_i r q aE;rw[aE]at aw nz pC jh aH;rw[sa]at aw;rw[ud,gz]at nz;simp only[dN]at pC jh;refine⟨xH.2 ⟨tJ.2 ⟨cT,b5,?_,?_,jI,?_,?_,nz.2⟩,U,aw.2,fun e=>absurd (aH e) (by simp)⟩,aw.1⟩
 ·simp only[ap,cU]at b5 fq ⊢;omega
 ·dsimp only;omega
 ·dsimp only;omega
 dsimp only;omega
theorem adb{i:Nat}(h:jn g i l=false):jn g i (gw l).1=false:=by
 obtain⟨h1,U,aw,aH⟩:=xH.1 h;obtain⟨cT,b5,fq,pC,jI,ny,jh,nz⟩:=tJ.1 h1;unfold gw;split
 ·rename_i ai;simp only[cx,bne_iff_ne,hZ]at ai;refine xH.2 ⟨tJ.2 ⟨cT,?_,?_,?_,jI,ny,jh,nz⟩,U,aw,aH⟩
  ·simp only[ap,cU]at b5 fq ⊢;omega
  ·simp only[ap,cU]at b5 fq ⊢;omega
  dsimp only;omega
 exact h
theorem J9{a b:Int}(aW:1<=g.az/\g.az<=4)(ah:ap a 0 (g.az-1)=true)(ar:ap b 0 (g.az-1)=true):
  fi g a b=a*g.az+b/\0<=a*g.az+b/\a*g.az+b<g.az*g.az/\(a*g.az+b).tdiv g.az=a/\(a*g.az+b).tmod g.az=b:=by
 have e:fi g a b=a*g.az+b:=by unfold fi;rw[ah,ar];rfl
 simp only[ap,cU]at ah ar;generalize g.az=n at*;have bN:0<=a*n+b:=by have:=Int.mul_nonneg ah.1 (show 0<=n by omega);omega
 rw[Int.tdiv_eq_ediv_of_nonneg bN,Int.tmod_eq_emod_of_nonneg bN];have yO:n=1\/n=2\/n=3\/n=4:=by omega
 refine⟨e,bN,?_⟩;rcases yO with rfl | rfl | rfl | rfl<;>omega
variable{b:Int}
theorem Aw{a:Int}(h:(ap a 0 (g.az-1)&&ap b 0 (g.az-1))=false):fi g a b=-1:=by
 unfold fi;rw[h];rfl
variable{n:Int}
theorem ade(key:Int)(aW:1<=n):ap (j5 key n) 0 (n-1)=true:=by
 have h1:=QJ key n (by omega);have U:=Int.tmod_lt_of_pos key (show 0<n by omega);unfold j5;rw[bh (by omega)];simp only[ap,cU];split<;>omega
variable{c:bd}
theorem J'(h:cQ c=true){a:Int}(ah:ap a 0 (c.aF.az-1)=true)(ar:ap b 0 (c.aF.az-1)=true):∃l,hb c (fi c.aF a b)=some l:=by
 obtain⟨h1,U,aw,_⟩:=iT.1 h;obtain⟨e,bN,bz,_⟩:=J9 (nV h1) ah ar;rw[e];unfold hb;rw[br bN];exact c0 (by omega)
variable{i:Int}
theorem adf(h:hb c i=some l):((i.toNat:Nat):Int)=i:=by have:=(qO h).1;omega
theorem D2{c:bd}{i:Int}(bN:0<=i)(h1:i<c.az.length):∃x,c9 c i=some x:=by
 unfold c9;rw[br bN];exact c0 (by omega)
variable{e:Int}
theorem adg(h:cQ c=true)(he:ap e 0 3=true):∃t,js c e=some t:=by
 have aH:=(iT.1 h).2.2.2.1;simp only[ap,cU]at he;unfold js;rw[br he.1];exact c0 (by omega)
variable{t:b0}
theorem xb:kz n t=false<->(0<=t.place/\t.place<=n-1)/\(t.going=false->t.place=0)/\(-1000000<=t.sum/\t.sum<=1000000):=by
 simp only[kz,ap,gz,kF,cU,Bool.and_eq_false_imp,hv,bne_eq_false_iff_eq]
theorem Ax{j:Int}:c9 (eb c i l) j=c9 c j:=rfl
theorem Ay{j:Int}:c9 (ev c i t) j=c9 c j:=rfl
theorem RS:(eb c i l).aF=c.aF:=rfl
theorem RT:(ev c i t).aF=c.aF:=rfl
variable{x:aS}
theorem adh:(setW c i x).aF=c.aF:=rfl
theorem adi{w o:Int}{t:List aG}(h:cQ c=true)(ag:c9 c w=some x)(aj:x.cm=r::t)
  (aZ:ap o 0 (c.aF.az-1)=true) (cB:o≠w) (al:hb c (fi c.aF w o)=some l) (hsend:(fh l r).2=true):
  cQ (setW (eb c (fi c.aF w o) (fh l r).1) w (mL (j6 x t) r.bw.bc))=ap (x.bK.getD r.bw.bc.toNat 0+1) (-1000000) 1000000:=by
 obtain⟨h1,U,_⟩:=iT.1 h;obtain⟨w0,w1,_⟩:=j7 ag;obtain⟨ok,aA⟩:=J6 (l0 h ag) aj;obtain⟨e,kx,HO,Ov,YR⟩:=J9 (nV h1) (a:=w) (b:=o) (by simp only[ap,cU];omega) aZ;have cw:cQ (eb c (fi c.aF w o) (fh l r).1)=true:=by
  rw[J3 h al,ada (Av h al) aA hsend]
  ·rfl
  rw[adf al,e,Ov,YR];exact fun q=>cB q.symm
 rw[tc cw (Ax.trans ag),RS,adR ok (sb aA)];rfl
theorem adj{w:Int}{t:List aG}(h:cQ c=true)(ag:c9 c w=some x)(aj:x.cm=r::t):cQ (setW c w (kept (j6 x t) r))=true:=by
 obtain⟨ok,aA⟩:=J6 (l0 h ag) aj;rw[tc h ag,adO ok aA]
theorem adk{k:Int}(h:cQ c=true)(al:hb c k=some l)(ag:c9 c b=some x)(bQ:(eB l).2.2=true):
  cQ (setW (eb c k (eB l).1) b (iA x (eB l).2.1))=ap (x.bK.getD (eB l).2.1.bw.bc.toNat 0+-1) (-1000000) 1000000:=by
 obtain⟨cT,b5⟩:=J8 (Av h al) bQ;have cw:cQ (eb c k (eB l).1)=true:=by rw[J3 h al,cT];rfl
 rw[tc cw (Ax.trans ag),RS,adS (l0 h ag) b5]
theorem adl{c:bd}{w:Int}(h:cQ c=true):cQ (fH c w).1=true:=by
 unfold fH;rw[br h];split
 ·rename_i x ag;rw[tc h ag,ac9 (l0 h ag)]
 exact h
theorem adm{c:bd}{w:Int}(h:cQ c=true):cQ (hr c w).1=true:=by
 unfold hr;rw[br h];split
 ·rename_i x ag;rw[tc h ag,adT (l0 h ag)]
 exact h
theorem adn{c:bd}{a b:Int}(h:cQ c=true):cQ (kZ c a b).1=true:=by
 unfold kZ;split
 ·split
  ·rename_i l al;rw[J3 h al,adb (Av h al)];rfl
  exact h
 exact h
theorem RU{b:Bool}{m:Nat}(hm:(m:Int)=n-1)(he:ap e 0 3=true):(jo m e b).any (kA n)=false:=by
 rw[hj];intro x ag;simp only[jo,k5,List.mem_range]at ag;obtain⟨k,hk,rfl⟩:=ag;have h1:ap ((k:Int)+1) 0 (n-1)=true:=by simp only[ap,cU];omega
 simp only[kA,h1,he,iW,Bool.or_false,oU,not_false_eq_true]
theorem ado{hg:aS}(h:cQ c=true)(he:ap e 0 3=true)(bQ:js c e=some t)(ag:c9 c t.place=some x)(bN:c9 c 0=some hg)(aD:jl hg e=false):cQ (fI c e t x).1=true:=by
 obtain⟨h1,U,aw,aH,aU,bA,bP,c'⟩:=iT.1 h;have aW:=nV h1;obtain⟨t1,t2,t3⟩:=xb.1 (J4 h bQ);have ok:=l0 h ag;have T':∀c6:b0,kz c.aF.az c6=false->cQ (ev c e c6)=true:=fun c6 k=>by rw[adK h bQ,k];rfl
 have both:∀c6:b0,kz c.aF.az c6=false->cQ (setW (ev c e c6) t.place (gG x e))=true:=fun c6 k=>by
  rw[tc (T' c6 k) (Ay.trans ag),RT,adP ok]
 unfold fI;split
 ·split
  ·exact both _ (xb.2 ⟨by dsimp only;omega,by simp,by simp⟩)
  rename_i au;split
  ·split
   ·rename_i hp aA;simp only[ap,cU]at aA;exact both _ (xb.2 ⟨by dsimp only;omega,by simp,aA⟩)
   exact h
  rename_i hp;have bE:t.place=0:=by omega
  have Of:=T' ⟨false,t.place,t.sum,t.bS,t.dq⟩ (xb.2 ⟨t1,fun _=>bE,t3⟩);split
  ·rw[bE]at ag;have Yo:hg=x:=by rw[bN]at ag;exact eN ag
   have kw:cQ (setW (ev c e ⟨false,t.place,t.sum,t.bS,t.dq⟩) 0 (told x e (t.dq||x.bC.getD e.toNat false)))=true:=by
    rw[tc Of (Ay.trans ag),RT];exact SC ok he (Yo▸aD)
   rw[SB kw,List.any_append];have e1:(setW (ev c e ⟨false,t.place,t.sum,t.bS,t.dq⟩) 0 (told x e (t.dq||x.bC.getD e.toNat false))).aF=c.aF:=rfl;rw[e1,c',RU (by omega) he];rfl
  exact Of
 exact h
theorem adp{c:bd}{e:Int}(h:cQ c=true):cQ (k0 c e).1=true:=by
 unfold k0;split
 ·rename_i ai;rw[cx]at ai;split
  ·rename_i hg t bN bQ;split
   ·exact h
   rename_i aD;split
   ·rename_i x ag;exact ado h ai.2 bQ ag bN (by simpa using aD)
   exact h
  exact h
 exact h
theorem RV{k:Nat}{n:ca}(h:cQ c=true)(aW:c.news[k]?=some n):kA c.aF.az n=false:=by
 have c':=(iT.1 h).2.2.2.2.2.2.2;rw[hj]at c';simpa using c' n (eA aW)
theorem adq{α:Type}{p:α->Bool}{xs:List α}{k:Nat}(h:xs.any p=false):(cutAt xs k).any p=false:=by
 rw[hj]at h ⊢;intro a ah;rcases lB.1 ah with ah | ah
 ·exact h a (xV ah)
 exact h a (Bq ah)
theorem adr{c:bd}{w:Int}(h:cQ c=true):cQ (lZ c w).1=true:=by
 unfold lZ;split
 ·rw[br h];split
  ·rename_i n x aW ag;have ar:=RV h aW;simp only[kA,gz,kF]at ar;have kw:cQ (setW c w (h5 x n))=true:=by rw[tc h ag,adQ (l0 h ag) ar.2]
   rw[SB kw,adh,adq (iT.1 h).2.2.2.2.2.2.2];rfl
  exact h
 exact h
theorem vo{α:Type}{sz:α->Nat}{y:α}(x:α):∀{xs:List α} {i:Nat},xs[i]?=some y->fb sz (xs.set i x)+sz y=fb sz xs+sz x
 | [],i,h=>by simp at h
 | a::xs,0,h=>by
  obtain rfl:a=y:=by simpa using h
  simp only[fb,List.set_cons_zero,dN,k4,v'];omega
 | a::xs,i+1,h=>by
  have:=vo (sz:=sz) x (xs:=xs) (i:=i) (by simpa using h);simp only[fb,List.set_cons_succ,dN,k4,v']at this ⊢;omega
theorem tK{c:bd}{x y:aS}(h:c9 c i=some y):(setW c i x).sz+y.sz=c.sz+x.sz:=by
 have:=vo (sz:=aS.sz) x (j7 h).2.2;simp only[setW,bd.sz];omega
theorem Ka{x y:bD}(h:hb c i=some y):(eb c i x).sz+y.sz=c.sz+x.sz:=by
 have:=vo (sz:=bD.sz) x (qO h).2.2;simp only[eb,bd.sz];omega
theorem D3{x:b0}:(ev c i x).sz=c.sz:=by
 simp only[ev,bd.sz,e5]
theorem RW{c:bd}{x:List ca}:(jP c x).sz+c.news.length=c.sz+x.length:=by
 simp only[jP,bd.sz];omega
theorem JC(g:bX)(w:aS):(eo g w).1.sz<=w.sz+2:=by
 unfold eo;split
 ·rename_i ai;rw[cx]at ai;split
  ·rename_i r q h1 U;have:=ab3 ai.1 w.cells r;simp only[aS.sz,h1,U,dN,bW];split<;>(try simp only[e5])<;>omega
  exact Nat.le_add_right _ _
 exact Nat.le_add_right _ _
theorem RX(g:bX)(w:aS):(eC g w).1.sz<=w.sz:=by
 unfold eC;split
 ·split
  ·rename_i r t h1 U aw;simp only[aS.sz,h1,U,aw,dN,bW];omega
  exact fk _
 exact fk _
theorem RY{w:aS}{t:List aG}(h:w.cm=r::t):(j6 w t).sz+1=w.sz:=by
 simp only[j6,aS.sz,h,dN];omega
theorem ads(w:aS)(r:aG):(kept w r).sz=w.sz+1:=by
 simp only[kept,aS.sz,km,dN,bW];omega
theorem adt(w:aS)(e:Int):(mL w e).sz=w.sz:=by
 simp only[mL,lT,aS.sz,e5]
theorem RZ(w:aS)(r:aG):(iA w r).sz=w.sz+1:=by
 simp only[iA,lT,aS.sz,e5,km,dN,bW];omega
theorem adu(w:aS)(e:Int):(gG w e).sz=w.sz:=by
 simp only[gG,aS.sz,e5]
theorem R0(w:aS)(e:Int)(b:Bool):(told w e b).sz=w.sz+1:=by
 simp only[told,aS.sz,km,dN,bW];omega
theorem adv(w:aS)(n:ca):(h5 w n).sz<=w.sz+1:=by
 unfold h5;split
 ·omega
 rw[R0];omega
theorem R1(l:bD)(r:aG):(fh l r).1.sz<=l.sz+1:=by
 unfold fh;split<;>simp[bD.sz]
theorem R2(l:bD):(eB l).1.sz<=l.sz:=by
 unfold eB;split
 ·split
  ·exact fk _
  rename_i h;simp[bD.sz,h]
 exact fk _
theorem R3(l:bD):(gw l).1.sz=l.sz:=by
 unfold gw;split<;>rfl
theorem adw{α:Type}(xs:List α)(k:Nat):(cutAt xs k).length<=xs.length:=by
 simp only[cutAt,km,oV,List.length_drop];omega
theorem adx(hw:c.az.length<=4)(ag:c9 c t.place=some x)(bN:0<=t.place):(fI c e t x).1.sz<=c.sz+4:=by
 unfold fI;have w1:∀c6,(setW (ev c e c6) t.place (gG x e)).sz+x.sz=c.sz+x.sz:=fun c6=>by
  have:=tK (c:=ev c e c6) (x:=gG x e) (Ay.trans ag);rwa[D3,adu]at this
 split
 ·split
  ·have:=w1 ⟨true,(c.az.length:Int)-1,0,false,x.bC.getD e.toNat false⟩;dsimp only;omega
  split
  ·split
   ·have:=w1 ⟨true,t.place-1,t.sum+x.bK.getD e.toNat 0,t.bS||x.bS.getD e.toNat false,t.dq||x.bC.getD e.toNat false⟩;dsimp only;omega
   dsimp only;omega
  rename_i hp;have bE:t.place=0:=by omega
  split
  ·rw[bE]at ag;have a:=tK (c:=ev c e ⟨false,t.place,t.sum,t.bS,t.dq⟩) (x:=told x e (t.dq||x.bC.getD e.toNat false)) (Ay.trans ag);rw[D3,R0]at a;have b:=RW (c:=setW (ev c e ⟨false,t.place,t.sum,t.bS,t.dq⟩) 0 (told x e (t.dq||x.bC.getD e.toNat false))) (x:=c.news++jo (c.az.length-1) e (t.dq||x.bC.getD e.toNat false));have d:(setW (ev c e ⟨false,t.place,t.sum,t.bS,t.dq⟩) 0 (told x e (t.dq||x.bC.getD e.toNat false))).news=c.news:=rfl;rw[d]at b;simp only[km,jo,bk,xY]at b;dsimp only;simp only[jo];omega
  dsimp only;rw[D3];omega
 dsimp only;omega
theorem ady(h:cQ c=true):c.az.length<=4:=by
 obtain⟨h1,U,_⟩:=iT.1 h;have:=nV h1;omega
theorem JD(c:bd)(p:dd):(eJ c p).1.sz<=c.sz+4:=by
 have da:c.sz<=c.sz+4:=by omega
 unfold eJ;split
 ·unfold fH;split
  ·split
   ·rename_i x ag;have:=tK (x:=(eo c.aF x).1) ag;have:=JC c.aF x;dsimp only;omega
   exact da
  exact da
 split
 ·unfold hr;split
  ·split
   ·rename_i x ag;have:=tK (x:=(eC c.aF x).1) ag;have:=RX c.aF x;dsimp only;omega
   exact da
  exact da
 split
 ·unfold lX;split
  ·split
   ·rename_i x ag;split
    ·rename_i r t aj;have hu:=RY aj;unfold ta;split
     ·have:=tK (x:=kept (j6 x t) r) ag;rw[ads]at this;dsimp only;omega
     split
     ·rename_i l al;split
      ·have a:=Ka (x:=(fh l r).1) al;have b:=tK (c:=eb c (fi c.aF p.a (j5 r.key c.aF.az)) (fh l r).1) (x:=mL (j6 x t) r.bw.bc) (Ax.trans ag);rw[adt]at b;have:=R1 l r;dsimp only;omega
      exact da
     exact da
    exact da
   exact da
  exact da
 split
 ·unfold lY;split
  ·split
   ·rename_i l x al ag;split
    ·have a:=Ka (x:=(eB l).1) al;have b:=tK (c:=eb c (fi c.aF p.a p.b) (eB l).1) (x:=iA x (eB l).2.1) (Ax.trans ag);rw[RZ]at b;have:=R2 l;dsimp only;omega
    exact da
   exact da
  exact da
 split
 ·unfold kZ;split
  ·split
   ·rename_i l al;have a:=Ka (x:=(gw l).1) al;have:=R3 l;dsimp only;omega
   exact da
  exact da
 split
 ·unfold k0;split
  ·rename_i ai;rw[cx]at ai;split
   ·rename_i hg t bN bQ;split
    ·exact da
    split
    ·rename_i x ag;exact adx (ady ai.1) ag (j7 ag).1
    exact da
   exact da
  exact da
 split
 ·unfold lZ;split
  ·rename_i k hk;split
   ·split
    ·rename_i n x aW ag;have a:=tK (x:=h5 x n) ag;have b:=RW (c:=setW c p.a (h5 x n)) (x:=cutAt c.news k);have d:(setW c p.a (h5 x n)).news=c.news:=rfl;rw[d]at b;have:=adv x n;have:=adw c.news k;dsimp only;omega
    exact da
   exact da
  exact da
 exact da
end Go.Proofs.YtdchjefneblpgaaGreat
namespace Go.Proofs.YtdchjefneblpgaaGreat
open Go.Sx Go.RowKit Go.Proofs.Tryz
def lx(c:bd)(b:Bool):List D:=[.J 4 (c.aF.nodes.map Node.e),I c.aF.az,I c.aF.cap,.J 8 (c.az.map aS.e),.J 6 (c.bZ.map bD.e),.J 5 (c.tokens.map b0.e),.J 3 (c.news.map ca.e),B b]
abbrev fp(c:bd):List D:=lx c (cQ c)
theorem Az(c:bd)(ai:c.sz<=8388608)(hw:gA c):bY prog 127 [.ro (.agg c.e)] (.new (fp c)):=
 ad9 ⟨afz c ai,adE c ai hw,aa⟩
variable{i:Nat}
theorem R4{α:Type}{f:α->List D}{xs:List α}{a:α}:(xs.map f).set i (f a)=(xs.set i a).map f:=List.map_set.symm
variable{c:bd}{x:aS}
theorem nW{i:Int}(h:c9 c i=some x):0<=i/\i<(↑(c.az.map aS.e).length:Int)/\(c.az.map aS.e)[i.toNat]?=some x.e:=by
 obtain⟨h1,U,aw⟩:=j7 h;exact⟨h1,by rw[bk];omega,bH aS.e aw⟩
theorem qP{i:Int}(h:c9 c i=some x)(ai:c.sz<=8388608):x.sz<=8388608:=bd.AQ ai (eA (j7 h).2.2)
theorem acX{l:List ca}(hi:i<l.length):([]++((l.map ca.e).drop 0).take (((some (i:Int)).getD (↑(l.map ca.e).length:Int)).toNat-0)++((l.map ca.e).drop ((some ((i:Int)+1)).getD 0).toNat).take ((l.map ca.e).length-((some ((i:Int)+1)).getD 0).toNat))=(cutAt l i).map ca.e:=by
 have e1:((i:Int)+1).toNat=i+1:=by omega
 simp only[cutAt,ij,oR,Nat.sub_zero,v7,List.nil_append,e1,hx,q6,List.map_drop]
 congr 1
 rw[vX (by simp)]
theorem R5{l:List ca}:((l.map ca.e).drop ((some ((i:Int)+1)).getD 0).toNat).take ((l.map ca.e).length-((some ((i:Int)+1)).getD 0).toNat)=(l.drop (i+1)).map ca.e:=by
 have e1:((i:Int)+1).toNat=i+1:=by omega
 simp only[ij,e1,List.map_drop];rw[vX (by simp)]
theorem R6(h:cQ c=true){n:ca}(aW:c.news[i]?=some n){w:Int}(hw:(n.dest==w)=true):∃x,c9 c w=some x:=by
 have ar:=RV h aW;simp only[kA,ap,gz,kF,cU]at ar;have U:=(iT.1 h).2.1;have e:=eq_of_beq hw;exact D2 (by omega) (by omega)
theorem D4{α:Type}{f:α->List D}(h:∀a,∀d∈f a,∃x,d=.v x){l:List (List D)}{xs:List α}(al:l=xs.map f):Flat l:=al▸cf f h xs
theorem acY{w:Int}{n:ca}(h1:c.news.findIdx? (fun n=>n.dest==w)=some i)(cJ:cQ c=true)(aW:c.news[i]?=some n)(ag:c9 c w=some x):lZ c w=(jP (setW c w (h5 x n)) (cutAt c.news i),true):=by
 unfold lZ;simp only[h1,cJ,gy,aW,ag]
theorem acZ(c:bd)(w:Int)(ai:c.sz<=8388608):bY prog 247 [.ref (fp c) (fp (lZ c w).1),.ro (.one (I w))] (.vals [.one (B (lZ c w).2)]):=by
 have al:=DZ ai;have Ci:=fun h=>adr (c:=c) (w:=w) h
 cases cJ:cQ c with
 | false=>
  have e:lZ c w=(c,false):=by
   unfold lZ;split<;>simp[cJ]
  rw[e];simp only[fp,cJ];cases aW:c.news with
  | nil=>
   have l:c3 prog (aq f247 0) (pX w 0 (c.aF.nodes.map Node.e) c.aF.az c.aF.cap (c.az.map aS.e) (c.bZ.map bD.e) (c.tokens.map b0.e) (c.news.map ca.e) false) (.exit 0) _:=.last (cM 0) (Sg ⟨by simp[aW],aa⟩);exact JF ⟨l,aa⟩
  | cons a l=>
   have l:c3 prog (aq f247 0) (pX w 0 (c.aF.nodes.map Node.e) c.aF.az c.aF.cap (c.az.map aS.e) (c.bZ.map bD.e) (c.tokens.map b0.e) (c.news.map ca.e) false) (.exit 0) _:=.last (cM 0) (aed ⟨dW (by simp[aW]<;>omega),rfl,aa⟩);exact JF ⟨l,aa⟩
 | true=>
  have Ci:=Ci cJ;have l:=gN (P:=prog) (c:=(aq f247 0)) c.news (fun n=>n.dest==w) (fun i=>pX w i (c.aF.nodes.map Node.e) c.aF.az c.aF.cap (c.az.map aS.e) (c.bZ.map bD.e) (c.tokens.map b0.e) (c.news.map ca.e) true)
   (X:=fun i n=>match c9 c w with
    | some x=>D5 true (c.aF.nodes.map Node.e) c.aF.az c.aF.cap ((setW c w (h5 x n)).az.map aS.e) (c.bZ.map bD.e) (c.tokens.map b0.e) ((cutAt c.news i).map ca.e) true
    | none=>⟨[],[]⟩) fg (cM 0)
   (fun i a ah h=>aea ⟨b' (a8 ah),rfl,bF,bI (a8 ah),bG ca.e ah,by simp only[bne,h];rfl,df (a8 ah) al,aa⟩)
   (fun i a ah h=>by
    obtain⟨x,ag⟩:=R6 cJ ah h;have hi:=a8 ah;obtain⟨w0,w1,j9⟩:=nW ag;have aj:=qP ag ai;simp only[ag];rw[<-acX hi];cases aD:jl x a.bc with
    | true=>
     rw[show h5 x a=x by unfold h5;rw[aD];rfl,td ag];exact aec ⟨b' hi,rfl,bF,bI hi,bG ca.e ah,by simp only[bne,h];rfl,by simp,by simp,by simp;omega,by simp;omega,by simp;omega,D4 (xs:=c.news.take i) ca.flat (by simp),df hi al,by simp;omega,by simp;omega,by simp,by simp;omega,by simp;omega,D4 (xs:=c.news.drop (i+1)) ca.flat R5,w0,w1,j9,JM x a.bc true aD aj,rfl,aa⟩
    | false=>
     have rv:x.b4.length<=8388608:=by simp only[aS.sz]at aj;omega
     have e2:(setW c w (h5 x a)).az.map aS.e=(c.az.map aS.e).set w.toNat (told x a.bc a.dq).e:=by
      rw[show h5 x a=told x a.bc a.dq by unfold h5;rw[aD];rfl];exact R4.symm
     rw[e2];have cb:(told x a.bc a.dq).e=[.J 5 (x.queue.map aG.e),.J 5 (x.cm.map aG.e),.J 5 (x.b8.map aG.e),.J 4 (x.cells.map Cell.e),.J 1 (x.bK.map a'),.J 1 (x.bS.map cv),.J 1 (x.bC.map cv),.J 2 (x.b4.map cD.e++[[I a.bc,B a.dq]])]:=by
      simp only[told,aS.e,hx];rfl
     rw[cb];exact aeb ⟨b' hi,rfl,bF,bI hi,bG ca.e ah,by simp only[bne,h];rfl,by simp,by simp,by simp;omega,by simp;omega,by simp;omega,D4 (xs:=c.news.take i) ca.flat (by simp),df hi al,by simp;omega,by simp;omega,by simp,by simp;omega,by simp;omega,D4 (xs:=c.news.drop (i+1)) ca.flat R5,w0,w1,j9,JM x a.bc false aD aj,rfl,w0,w1,j9,by simp;omega,by simp;omega,j9,rfl,dL (cD.flat ⟨a.bc,a.dq⟩),rfl,rfl,rfl,rfl,rfl,rfl,rfl,rfl,rfl,rfl,rfl,w0,w1,j9,rfl,aa⟩)
   (Sg ⟨dG,aa⟩)
  rcases l with⟨_,h1,_,U⟩ | ⟨i,a,ah,hp,_,h1,_,U⟩
  ·have e:lZ c w=(c,false):=by unfold lZ;simp only[h1]
   rw[e];simp only[fp,cJ];exact JF ⟨U,aa⟩
  obtain⟨x,ag⟩:=R6 cJ ah hp;rw[acY h1 cJ ah ag]at Ci ⊢;simp only[ag]at U;simp only[fp,cJ,Ci];exact aee ⟨U,aa⟩
end Go.Proofs.YtdchjefneblpgaaGreat
namespace Go.Proofs.YtdchjefneblpgaaGreat
open Go.Sx Go.RowKit Go.Proofs.Tryz
theorem V5(a b:Nat):(((a:Int)+(b:Int))==0)=(a+b==0):=by
 rw[Bool.eq_iff_iff];simp only[eD];omega
theorem ac0(w:aS)(e:Int)(hw:w.sz<=8388608):av 342 [.agg w.e,.one (I e)] [.one (B (Au w e))]:=by
 have al:w.b8.length<=8388608:=by simp only[aS.sz]at hw;omega
 have l:=gN (P:=prog) (c:=(aq f342 0)) w.b8 (fun r=>decide (r.bw.bc<=e)) (fun i=>vp (w.queue.map aG.e) (w.cm.map aG.e) (w.b8.map aG.e) (w.cells.map Cell.e) (w.bK.map a') (w.bS.map cv) (w.bC.map cv) (w.b4.map cD.e) e i) (X:=fun _ _=>JG true) fg (cM 0)
  (fun i a ah h=>adZ ⟨b' (a8 ah),bF,bI (a8 ah),bG aG.e ah,h,df (a8 ah) al,aa⟩)
  (fun i a ah h=>aey ⟨b' (a8 ah),bF,bI (a8 ah),bG aG.e ah,h,aa⟩)
  (ad0 ⟨dG,aa⟩)
 unfold Au;rcases l with⟨_,_,h1,U⟩ | ⟨i,a,_,_,_,_,h1,U⟩
 ·rw[h1];exact ad2 ⟨U,aa⟩
 rw[h1];exact ad1 ⟨U,aa⟩
theorem ac1(w:aS)(e:Int)(hw:w.sz<=8388608):av 343 [.agg w.e,.one (I e)] [.one (I ((↑((pV e w.queue).map aG.e).length:Int)+(↑((pV e w.cm).map aG.e).length:Int)))]:=by
 simp only[aS.sz]at hw;have cT:(pV e w.queue).length<=w.queue.length:=q2 _ _;have b5:(pV e w.cm).length<=w.cm.length:=q2 _ _;exact ad5 ⟨Rc w.queue e (by omega),Rc w.cm e (by omega),⟨by simp only[bk];omega,by simp only[bk];omega⟩,aa⟩
theorem ac2(w:aS)(e:Int)(hw:w.sz<=8388608):av 316 [.agg w.e,.one (I e)] [.one (B (kY w e))]:=by
 have o:=ac0 w e hw;unfold kY;cases h:Au w e with
 | true=>rw[h]at o;exact ad4 ⟨o,rfl,aa⟩
 | false=>
  rw[h]at o;have a:=ac1 w e hw;rw[bk,bk]at a;have b:=ad3 ⟨o,rfl,a,aa⟩;rw[V5]at b;exact b
theorem R7(w:aS)(e:Int)(r:Bool)(h:kY w e=r)(hw:w.sz<=8388608):av 316 [.agg w.e,.one (I e)] [.one (B r)]:=h▸ac2 w e hw
end Go.Proofs.YtdchjefneblpgaaGreat
namespace Go.Proofs.YtdchjefneblpgaaGreat
open Go.Sx Go.RowKit Go.Proofs.Tryz
variable{c:bd}
theorem ac3{i:Int}{t:b0}(h:js c i=some t):0<=i/\i<(↑(c.tokens.map b0.e).length:Int)/\(c.tokens.map b0.e)[i.toNat]?=some t.e:=by
 obtain⟨h1,U,aw⟩:=D1 h;exact⟨h1,by rw[bk];omega,bH b0.e aw⟩
variable{e:Int}
theorem Ho{xs:List Int}(aH:xs.length=4)(he:0<=e/\e<=3):e<(↑(xs.map a').length:Int)/\(xs.map a')[e.toNat]?=some [I (xs.getD e.toNat 0)]:=by
 have al:e.toNat<xs.length:=by omega
 refine⟨by rw[bk];omega,?_⟩;rw[dj,gU al,ii,gU al];rfl
theorem uv{xs:List Bool}(aH:xs.length=4)(he:0<=e/\e<=3):e<(↑(xs.map cv).length:Int)/\(xs.map cv)[e.toNat]?=some [B (xs.getD e.toNat false)]:=by
 have al:e.toNat<xs.length:=by omega
 refine⟨by rw[bk];omega,?_⟩;rw[dj,gU al,ii,gU al];rfl
theorem rj{l:List (List D)}{i:Int}{a:List D}(bN:0<=i)(h:i<(↑l.length:Int)):(l.set i.toNat a)[i.toNat]?=some a:=List.getElem?_set_self (by omega)
theorem R8(x:aS)(e:Int):(gG x e).e=[.J 5 (x.queue.map aG.e),.J 5 (x.cm.map aG.e),.J 5 (x.b8.map aG.e),.J 4 (x.cells.map Cell.e),.J 1 (x.bK.map a'),.J 1 ((x.bS.map cv).set e.toNat [B false]),.J 1 (x.bC.map cv),.J 2 (x.b4.map cD.e)]:=by
 simp only[gG,aS.e,jw];rfl
theorem ac4(x:aS)(e:Int)(b:Bool):(told x e b).e=[.J 5 (x.queue.map aG.e),.J 5 (x.cm.map aG.e),.J 5 (x.b8.map aG.e),.J 4 (x.cells.map Cell.e),.J 1 (x.bK.map a'),.J 1 (x.bS.map cv),.J 1 (x.bC.map cv),.J 2 (x.b4.map cD.e++[[I e,B b]])]:=by
 simp only[told,aS.e,hx];rfl
theorem R9(c:bd)(e p:Int)(t:b0)(y:aS)(b:Bool):lx (setW (ev c e t) p y) b=[.J 4 (c.aF.nodes.map Node.e),I c.aF.az,I c.aF.cap,.J 8 ((c.az.map aS.e).set p.toNat y.e),.J 6 (c.bZ.map bD.e),.J 5 ((c.tokens.map b0.e).set e.toNat t.e),.J 3 (c.news.map ca.e),B b]:=by
 simp only[setW,ev,lx,jw]
theorem ac5(c:bd)(e:Int)(t:b0)(b:Bool):lx (ev c e t) b=[.J 4 (c.aF.nodes.map Node.e),I c.aF.az,I c.aF.cap,.J 8 (c.az.map aS.e),.J 6 (c.bZ.map bD.e),.J 5 ((c.tokens.map b0.e).set e.toNat t.e),.J 3 (c.news.map ca.e),B b]:=by
 simp only[ev,lx,jw]
theorem ac6(n:Nat)(e:Int)(b:Bool):jo (n+1) e b=jo n e b++[⟨(n:Int)+1,e,b⟩]:=by simp[jo,List.range_succ]
theorem aez(n:Nat)(e:Int)(b:Bool):(jo n e b).length=n:=by simp[jo]
theorem aeA{hg x:aS}{t:b0}(ok:cQ c=true)(he:ap e 0 3=true)(bN:c9 c 0=some hg)(bQ:js c e=some t)(aD:jl hg e=false)(ag:c9 c t.place=some x):k0 c e=fI c e t x:=by
 unfold k0;simp only[ok,he,Bool.and_self,gy,bN,bQ,aD,oU,lD,ag]
theorem aeB(ok:cQ c=true)(he:ap e 0 3=true):∃hg t x,c9 c 0=some hg/\js c e=some t/\c9 c t.place=some x/\0<c.az.length/\c.az.length<=4/\
  (0<=t.place/\t.place<=3)/\(t.going=false->t.place=0)/\(-1000000<=t.sum/\t.sum<=1000000)/\x.bK.length=4/\x.bS.length=4/\x.bC.length=4/\(-1000000<=x.bK.getD e.toNat 0/\x.bK.getD e.toNat 0<=1000000):=by
 obtain⟨h1,U,aw,aH,aU,bA,bP,c'⟩:=iT.1 ok;have aW:=nV h1;obtain⟨hg,bN⟩:=D2 (c:=c) (i:=0) (by omega) (by omega);obtain⟨t,bQ⟩:=adg ok he;obtain⟨t1,t2,t3⟩:=xb.1 (J4 ok bQ);obtain⟨x,ag⟩:=D2 (c:=c) (i:=t.place) (by omega) (by omega);obtain⟨_,_,_,_,jI,ny,jh,_,rP,_⟩:=iU.1 (l0 ok ag);refine⟨hg,t,x,bN,bQ,ag,by omega,by omega,by omega,t2,t3,jI,ny,jh,?_⟩;simp only[ap,cU]at he;have al:e.toNat<x.bK.length:=by omega
 rw[hj]at rP;have:=rP _ (q3 al);rw[ii,gU al,ij];simpa only[mK,hv,kF,ap,cU,ub,Bool.not_not,Bool.not_eq_eq_eq_not,iW,mU,Classical.not_not]using this
theorem R'(c:bd)(e:Int)(x:aS)(r:Bool)(bN:c9 c 0=some x)(aD:jl x e=r)(ai:c.sz<=8388608):av 315 [.agg c.e,.one (I e)] [.one (B r)]:=by
 obtain⟨w0,w1,j9⟩:=nW bN;exact aex ⟨dW (by omega),w0,w1,j9,JM x e r aD (qP bN ai),aa⟩
theorem aeC(c:bd)(b:Bool)(x:aS)(e:Int)(cap:Bool)(bN:c9 c 0=some x)(aH:c.az.length<=4)(ai:c.sz<=8388608):
  bY prog 317 [.ref (lx c b) (lx (jP (setW c 0 (told x e cap)) (c.news++jo (c.az.length-1) e cap)) b),.ro (.one (I e)),.ro (.one (B cap))] (.vals []):=by
 obtain⟨w0,w1,j9⟩:=nW bN;have aW:=DZ ai;have aj:=qP bN ai;have rv:x.b4.length<=8388608:=by simp only[aS.sz]at aj;omega
 have hlen:=(j7 bN).2.1;have sN:((setW c 0 (told x e cap)).az.map aS.e).length=c.az.length:=by simp[setW]
 have l:=eY (P:=prog) (c:=(aq f317 0)) (cM 0) (c.az.length-1) (fun i:Nat=>zP e cap ((i:Int)+1) (c.aF.nodes.map Node.e) c.aF.az c.aF.cap ((setW c 0 (told x e cap)).az.map aS.e) (c.bZ.map bD.e) (c.tokens.map b0.e) ((c.news++jo i e cap).map ca.e) b) (fun i hi=>by
  have hm:=aez i e cap;rw[ac6,<-t',hx (l₂:=[_])];exact aef ⟨dW (by rw[sN];omega),by simp;omega,by simp;omega,dL (ca.flat ⟨(i:Int)+1,e,cap⟩),⟨by omega,by omega⟩,aa⟩) (aeg ⟨eT (by rw[sN];omega),aa⟩)
 have e2:(setW c 0 (told x e cap)).az.map aS.e=(c.az.map aS.e).set 0 [.J 5 (x.queue.map aG.e),.J 5 (x.cm.map aG.e),.J 5 (x.b8.map aG.e),.J 4 (x.cells.map Cell.e),.J 1 (x.bK.map a'),.J 1 (x.bS.map cv),.J 1 (x.bC.map cv),.J 2 (x.b4.map cD.e++[[I e,B cap]])]:=by
  rw[<-ac4];exact R4.symm
 have bE:jo 0 e cap=[]:=rfl;rw[e2,bE,lz]at l;have gY:lx (jP (setW c 0 (told x e cap)) (c.news++jo (c.az.length-1) e cap)) b=[.J 4 (c.aF.nodes.map Node.e),I c.aF.az,I c.aF.cap,.J 8 ((setW c 0 (told x e cap)).az.map aS.e),.J 6 (c.bZ.map bD.e),.J 5 (c.tokens.map b0.e),.J 3 ((c.news++jo (c.az.length-1) e cap).map ca.e),B b]:=rfl;rw[gY,e2];exact aeh ⟨by omega,w1,j9,by simp;omega,by simp;omega,j9,rfl,dL (cD.flat ⟨e,cap⟩),rfl,rfl,rfl,rfl,rfl,rfl,rfl,by omega,w1,j9,rfl,l,aa⟩
theorem aeD(c:bd)(e:Int)(ai:c.sz<=8388608):bY prog 246 [.ref (fp c) (fp (k0 c e).1),.ro (.one (I e))] (.vals [.one (B (k0 c e).2)]):=by
 have post:=fun h=>adp (c:=c) (e:=e) h
 cases ok:cQ c with
 | false=>
  rw[show k0 c e=(c,false) by unfold k0;simp[ok]];simp only[fp,ok];exact aei ⟨rfl,aa⟩
 | true=>
 replace post:=post ok;cases he:ap e 0 3 with
 | false=>
  rw[show k0 c e=(c,false) by unfold k0;simp[he]];simp only[fp,ok];exact aej ⟨rfl,fz _ he,rfl,aa⟩
 | true=>
 have he:=he;obtain⟨hg,t,x,bN,bQ,ag,Ce,yK,XW,Xh,aur,rG,yz,wB,wO⟩:=aeB ok he;have uL:0<=e/\e<=3:=by simpa only[ap,cU]using he
 obtain⟨eG,jt,ju⟩:=ac3 bQ;obtain⟨dD,dA,dQ⟩:=nW ag;obtain⟨auX,auY,auZ⟩:=nW bN;obtain⟨p4,p5⟩:=Ho rG uL;obtain⟨pD,nA⟩:=uv yz uL;obtain⟨BP,BQ⟩:=uv wB uL;have di:=qP ag ai;have rv:x.b4.length<=8388608:=by simp only[aS.sz]at di;omega
 have Nz:(↑(c.az.map aS.e).length:Int)=(c.az.length:Int):=by rw[bk]
 cases aD:jl hg e with
 | true=>
  rw[show k0 c e=(c,false) by unfold k0;simp only[ok,he,Bool.and_self,gy,bN,bQ,aD]];simp only[fp,ok];exact aek ⟨rfl,fz _ he,rfl,R' c e hg true bN aD ai,rfl,aa⟩
 | false=>
 rw[aeA ok he bN bQ aD ag]at post ⊢;have rd:=R' c e hg false bN aD ai;have oP:=fz _ he;cases hp:kY x e with
 | false=>
  rw[show fI c e t x=(c,false) by unfold fI;simp[hp]];simp only[fp,ok];exact ael ⟨rfl,oP,rfl,rd,rfl,eG,jt,ju,dD,dA,dQ,R7 x e _ hp di,rfl,aa⟩
 | true=>
 have pK:=R7 x e _ hp di;have lK:ay .i64 (t.sum+x.bK.getD e.toNat 0):=⟨by omega,by omega⟩
 simp only[fp,ok,post];clear post;obtain⟨Ue,tU,ts,tb,gx⟩:=t;dsimp only at*;cases Ue with
 | false=>
  obtain rfl:tU=0:=Xh rfl;rw[show fI c e ⟨false,0,ts,tb,gx⟩ x=(setW (ev c e ⟨true,(c.az.length:Int)-1,0,false,x.bC.getD e.toNat false⟩) 0 (gG x e),true) by simp only[fI,hp,gy,n1]];dsimp only;rw[R9,R8,<-Nz];exact aem ⟨rfl,oP,rfl,rd,rfl,eG,jt,ju,dD,dA,dQ,pK,rfl,eG,p4,p5,lK,rfl,⟨by omega,by omega⟩,eG,BP,BQ,eG,jt,ju,by omega,dA,dQ,eG,pD,nA,dQ,rfl,rfl,rfl,rfl,rfl,aa⟩
 | true=>
 by_cases lQ:0<tU
 case pos=>
  have o5:decide (tU>0)=true:=dW lQ;cases aA:ap (ts+x.bK.getD e.toNat 0) (-1000000) 1000000 with
  | false=>
   rw[show fI c e ⟨true,tU,ts,tb,gx⟩ x=(c,false) by simp only[fI,hp,gy,iW,oU,lD,lQ,aA]];exact aen ⟨rfl,oP,rfl,rd,rfl,eG,jt,ju,dD,dA,dQ,pK,rfl,eG,p4,p5,lK,rfl,o5,fz _ aA,rfl,aa⟩
  | true=>
   have e1:fI c e ⟨true,tU,ts,tb,gx⟩ x=(setW (ev c e ⟨true,tU-1,ts+x.bK.getD e.toNat 0,tb||x.bS.getD e.toNat false,gx||x.bC.getD e.toNat false⟩) tU (gG x e),true):=by
    simp only[fI,hp,gy,iW,oU,lD,lQ,aA]
   rw[e1];dsimp only;rw[R9,R8];have wr:=fz _ aA;cases tb with
   | true=>
    cases gx with
    | true=>exact aeo ⟨rfl,oP,rfl,rd,rfl,eG,jt,ju,dD,dA,dQ,pK,rfl,eG,p4,p5,lK,rfl,o5,wr,rfl,⟨by omega,by omega⟩,rfl,rfl,eG,jt,ju,dD,dA,dQ,eG,pD,nA,dQ,rfl,rfl,rfl,rfl,rfl,aa⟩
    | false=>exact aep ⟨rfl,oP,rfl,rd,rfl,eG,jt,ju,dD,dA,dQ,pK,rfl,eG,p4,p5,lK,rfl,o5,wr,rfl,⟨by omega,by omega⟩,rfl,rfl,eG,BP,BQ,eG,jt,ju,dD,dA,dQ,eG,pD,nA,dQ,rfl,rfl,rfl,rfl,rfl,aa⟩
   | false=>
    cases gx with
    | true=>exact aeq ⟨rfl,oP,rfl,rd,rfl,eG,jt,ju,dD,dA,dQ,pK,rfl,eG,p4,p5,lK,rfl,o5,wr,rfl,⟨by omega,by omega⟩,rfl,eG,pD,nA,rfl,eG,jt,ju,dD,dA,dQ,eG,pD,nA,dQ,rfl,rfl,rfl,rfl,rfl,rfl,rfl,aa⟩
    | false=>exact aer ⟨rfl,oP,rfl,rd,rfl,eG,jt,ju,dD,dA,dQ,pK,rfl,eG,p4,p5,lK,rfl,o5,wr,rfl,⟨by omega,by omega⟩,rfl,eG,pD,nA,rfl,eG,BP,BQ,eG,jt,ju,dD,dA,dQ,eG,pD,nA,dQ,rfl,rfl,rfl,rfl,rfl,rfl,rfl,aa⟩
 case neg=>
  obtain rfl:tU=0:=by omega
  have o5:decide ((0:Int)>0)=false:=rfl;have e1:=fun b=>ac5 c e ⟨false,0,ts,tb,gx⟩ b
  have ends:=fun cap=>aeC (ev c e ⟨false,0,ts,tb,gx⟩) true x e cap (Ay.trans ag) yK (by rw[D3];exact ai)
  rw[e1]at ends;cases tb with
  | true=>
   rw[show fI c e ⟨true,0,ts,true,gx⟩ x=(ev c e ⟨false,0,ts,true,gx⟩,true) by simp[fI,hp]];dsimp only;rw[e1];exact aew ⟨rfl,oP,rfl,rd,rfl,eG,jt,ju,dD,dA,dQ,pK,rfl,eG,p4,p5,lK,rfl,o5,eG,jt,ju,rfl,aa⟩
  | false=>
  cases hk:x.bS.getD e.toNat false with
  | true=>
   rw[hk]at nA;rw[show fI c e ⟨true,0,ts,false,gx⟩ x=(ev c e ⟨false,0,ts,false,gx⟩,true) by unfold fI;simp only[hp,hk];rfl];dsimp only;rw[e1];exact aev ⟨rfl,oP,rfl,rd,rfl,eG,jt,ju,dD,dA,dQ,pK,rfl,eG,p4,p5,lK,rfl,o5,eG,jt,ju,rfl,eG,pD,nA,rfl,aa⟩
  | false=>
  rw[hk]at nA;cases bf:(ts+x.bK.getD e.toNat 0==0) with
  | false=>
   rw[show fI c e ⟨true,0,ts,false,gx⟩ x=(ev c e ⟨false,0,ts,false,gx⟩,true) by unfold fI;simp only[hp,hk,bf];rfl];dsimp only;rw[e1];exact aeu ⟨rfl,oP,rfl,rd,rfl,eG,jt,ju,dD,dA,dQ,pK,rfl,eG,p4,p5,lK,rfl,o5,eG,jt,ju,rfl,eG,pD,nA,rfl,bf,aa⟩
  | true=>
  rw[show fI c e ⟨true,0,ts,false,gx⟩ x=(jP (setW (ev c e ⟨false,0,ts,false,gx⟩) 0 (told x e (gx||x.bC.getD e.toNat false))) (c.news++jo (c.az.length-1) e (gx||x.bC.getD e.toNat false)),true) by unfold fI;simp only[hp,hk,bf];rfl];cases gx with
  | true=>exact aes ⟨rfl,oP,rfl,rd,rfl,eG,jt,ju,dD,dA,dQ,pK,rfl,eG,p4,p5,lK,rfl,o5,eG,jt,ju,rfl,eG,pD,nA,rfl,bf,rfl,ends true,aa⟩
  | false=>exact aet ⟨rfl,oP,rfl,rd,rfl,eG,jt,ju,dD,dA,dQ,pK,rfl,eG,p4,p5,lK,rfl,o5,eG,jt,ju,rfl,eG,pD,nA,rfl,bf,rfl,eG,BP,BQ,ends _,aa⟩
