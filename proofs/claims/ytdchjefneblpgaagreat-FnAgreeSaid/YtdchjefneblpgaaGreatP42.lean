import Derived.Test.YtdchjefneblpgaaGreatP31
set_option linter.unusedVariables false
set_option linter.unusedSimpArgs false
namespace Go.Proofs.YtdchjefneblpgaaGreat
open Go.Sx Go.RowKit
variable{l:bt}
theorem nR:jm l=true<->ap l.cap 1 4=true/\ap l.eC 0 l.cap=true/\ap l.back 0 l.cap=true/\l.eC+l.back+l.queue.length=l.cap/\ap l.eF 0 1000000000=true/\0<=l.dZ/\l.dZ=l.eF-l.queue.length/\(l.queue.any fun r=>!eD r)=false:=by
 simp only[jm,b8,gy,dp,b',and_assoc]
variable{g:b0}
theorem oE{i:Nat}:kz g i l=false<->jm l=true/\l.cap=g.cap/\gu g l.queue=true/\((i:Int).tdiv g.aq=(i:Int).tmod g.aq->l.queue=[]):=by
 simp only[kz,fR,jW,bne_eq_false_iff_eq,Bool.and_eq_false_imp,dp,lr];refine and_congr_right fun _=>and_congr_right fun _=>and_congr_right fun _=>imp_congr_right fun _=>?_
 cases l.queue with
 | nil=>simp
 | cons a q=>simp
variable{r:aE}
theorem ag3{i:Nat}(h:kz g i l=false)(az:kj g r=false)(ai:(ei l r).2=true)(aB:(i:Int).tdiv g.aq≠(i:Int).tmod g.aq):kz g i (ei l r).1=false:=by
 obtain⟨h1,U,ax,aF⟩:=oE.1 h;unfold ei at ai ⊢;split
 ·rename_i af;simp only[b8,bne_iff_ne,fM,b']at af;obtain⟨⟨⟨_,mj⟩,oi⟩,En⟩:=af;obtain⟨cy,bw,fc,mP,kb,pa,kU,pb⟩:=nR.1 h1;refine oE.2 ⟨nR.2 ⟨cy,?_,fc,?_,?_,pa,?_,?_⟩,U,L4.2 ⟨ax,az⟩,fun e=>(aB e).elim⟩
  ·simp only[ap,b']at bw ⊢;omega
  ·simp only[k7,dJ,bY];omega
  ·simp only[ap,b']at kb ⊢;omega
  ·simp only[k7,dJ,bY];omega
  simp only[List.any_append,pb,vY,List.any_nil,mj,iu,Bool.or_false]
 rename_i af;rw[a6 af]at ai;cases ai
theorem Fb{i:Nat}(h:kz g i l=false)(ai:(dI l).2.2=true):kz g i (dI l).1=false/\kj g (dI l).2.1=false:=by
 obtain⟨h1,U,ax,aF⟩:=oE.1 h;obtain⟨cy,bw,fc,mP,kb,pa,kU,pb⟩:=nR.1 h1;unfold dI at ai ⊢;rw[aZ h1]at ai ⊢;split
 ·rename_i aA;rw[aA]at ai;cases ai
 rename_i r q aA;rw[aA]at ax pb mP kU aF;rw[ru]at ax;rw[vY,fR]at pb;simp only[dJ]at mP kU;refine⟨oE.2 ⟨nR.2 ⟨cy,bw,?_,?_,kb,?_,?_,pb.2⟩,U,ax.2,fun e=>absurd (aF e) (by simp)⟩,ax.1⟩
 ·simp only[ap,b']at bw fc ⊢;omega
 ·dsimp only;omega
 ·dsimp only;omega
 dsimp only;omega
theorem ag4{i:Nat}(h:kz g i l=false):kz g i (fT l).1=false:=by
 obtain⟨h1,U,ax,aF⟩:=oE.1 h;obtain⟨cy,bw,fc,mP,kb,pa,kU,pb⟩:=nR.1 h1;unfold fT;split
 ·rename_i af;simp only[b8,bne_iff_ne,fM]at af;refine oE.2 ⟨nR.2 ⟨cy,?_,?_,?_,kb,pa,kU,pb⟩,U,ax,aF⟩
  ·simp only[ap,b']at bw fc ⊢;omega
  ·simp only[ap,b']at bw fc ⊢;omega
  dsimp only;omega
 exact h
theorem vE{a b:Int}(aK:1<=g.aq/\g.aq<=4)(ad:ap a 0 (g.aq-1)=true)(ao:ap b 0 (g.aq-1)=true):
  dX g a b=a*g.aq+b/\0<=a*g.aq+b/\a*g.aq+b<g.aq*g.aq/\(a*g.aq+b).tdiv g.aq=a/\(a*g.aq+b).tmod g.aq=b:=by
 have e:dX g a b=a*g.aq+b:=by unfold dX;rw[ad,ao];rfl
 simp only[ap,b']at ad ao;generalize g.aq=n at*;have bl:0<=a*n+b:=by have:=Int.mul_nonneg ad.1 (show 0<=n by omega);omega
 rw[Int.tdiv_eq_ediv_of_nonneg bl,Int.tmod_eq_emod_of_nonneg bl];have A2:n=1\/n=2\/n=3\/n=4:=by omega
 refine⟨e,bl,?_⟩;rcases A2 with rfl | rfl | rfl | rfl<;>omega
variable{b:Int}
theorem t'{a:Int}(h:(ap a 0 (g.aq-1)&&ap b 0 (g.aq-1))=false):dX g a b=-1:=by
 unfold dX;rw[h];rfl
variable{n:Int}
theorem Co(key:Int)(aK:1<=n):ap (eJ key n) 0 (n-1)=true:=by
 have h1:=L1 key n (by omega);have U:=Int.tmod_lt_of_pos key (show 0<n by omega);unfold eJ;rw[a6 (by omega)];simp only[ap,b'];split<;>omega
variable{c:aU}
theorem xI(h:cq c=true){a:Int}(ad:ap a 0 (c.ay.aq-1)=true)(ao:ap b 0 (c.ay.aq-1)=true):∃l,eB c (dX c.ay a b)=some l:=by
 obtain⟨h1,U,ax,_⟩:=e7.1 h;obtain⟨e,bl,bu,_⟩:=vE (ii h1) ad ao;rw[e];unfold eB;rw[aZ bl];exact dm (by omega)
variable{i:Int}
theorem Cp(h:eB c i=some l):((i.toNat:Nat):Int)=i:=by have:=(iT h).1;omega
theorem oF{c:aU}{i:Int}(bl:0<=i)(h1:i<c.aq.length):∃x,b3 c i=some x:=by
 unfold b3;rw[aZ bl];exact dm (by omega)
theorem Ux(h:cq c=true){e:Int}(he:ap e 0 3=true):∃t,hE c e=some t:=by
 have aF:=(e7.1 h).2.2.2.1;simp only[ap,b']at he;unfold hE;rw[aZ he.1];exact dm (by omega)
variable{t:bQ}
theorem sE:lM n t=false<->(0<=t.place/\t.place<=n-1)/\(t.going=false->t.place=0)/\(-1000000<=t.sum/\t.sum<=1000000):=by
 simp only[lM,ap,fR,jW,b',Bool.and_eq_false_imp,gy,bne_eq_false_iff_eq]
theorem Cq{j:Int}:b3 (db c i l) j=b3 c j:=rfl
theorem Cr{j:Int}:b3 (cM c i t) j=b3 c j:=rfl
theorem Uy:(db c i l).ay=c.ay:=rfl
theorem Uz:(cM c i t).ay=c.ay:=rfl
variable{x:aL}
theorem ag5:(setW c i x).ay=c.ay:=rfl
theorem UA{w o:Int}{t:List aE}(h:cq c=true)(aa:b3 c w=some x)(ai:x.cp=r::t)
  (aN:ap o 0 (c.ay.aq-1)=true) (cf:o≠w) (aj:eB c (dX c.ay w o)=some l) (hsend:(ei l r).2=true):
  cq (setW (db c (dX c.ay w o) (ei l r).1) w (my (iB x t) r.bh.a7))=ap (x.bM.getD r.bh.a7.toNat 0+1) (-1000000) 1000000:=by
 obtain⟨h1,U,_⟩:=e7.1 h;obtain⟨w0,w1,_⟩:=eK aa;obtain⟨ok,az⟩:=Fa (jr h aa) ai;obtain⟨e,iz,tK,EE,u4⟩:=vE (ii h1) (a:=w) (b:=o) (by simp only[ap,b'];omega) aN;have cz:cq (db c (dX c.ay w o) (ei l r).1)=true:=by
  rw[L3 h aj,ag3 (rr h aj) az hsend]
  ·rfl
  rw[Cp aj,e,EE,u4];exact fun q=>cf q.symm
 rw[vC cz (Cq.trans aa),Uy,afr ok (sD az)];rfl
theorem UB{w:Int}{t:List aE}(h:cq c=true)(aa:b3 c w=some x)(ai:x.cp=r::t):cq (setW c w (kept (iB x t) r))=true:=by
 obtain⟨ok,az⟩:=Fa (jr h aa) ai;rw[vC h aa,afo ok az]
theorem UC{k:Int}(h:cq c=true)(aj:eB c k=some l)(aa:b3 c b=some x)(bq:(dI l).2.2=true):
  cq (setW (db c k (dI l).1) b (k1 x (dI l).2.1))=ap (x.bM.getD (dI l).2.1.bh.a7.toNat 0+-1) (-1000000) 1000000:=by
 obtain⟨cy,bw⟩:=Fb (rr h aj) bq;have cz:cq (db c k (dI l).1)=true:=by rw[L3 h aj,cy];rfl
 rw[vC cz (Cq.trans aa),Uy,agT (jr h aa) bw]
theorem UD{c:aU}{w:Int}(h:cq c=true):cq (jn c w).1=true:=by
 unfold jn;rw[aZ h];split
 ·rename_i x aa;rw[vC h aa,ag2 (jr h aa)]
 exact h
theorem UE{c:aU}{w:Int}(h:cq c=true):cq (jo c w).1=true:=by
 unfold jo;rw[aZ h];split
 ·rename_i x aa;rw[vC h aa,agU (jr h aa)]
 exact h
theorem UF{c:aU}{a b:Int}(h:cq c=true):cq (jq c a b).1=true:=by
 unfold jq;split
 ·split
  ·rename_i l aj;rw[L3 h aj,ag4 (rr h aj)];rfl
  exact h
 exact h
variable{e:Int}
theorem UG{b:Bool}{m:Nat}(hm:(m:Int)=n-1)(he:ap e 0 3=true):(fU m e b).any (lN n)=false:=by
 rw[ff];intro x aa;simp only[fU,jZ,List.mem_range]at aa;obtain⟨k,hk,rfl⟩:=aa;have h1:ap ((k:Int)+1) 0 (n-1)=true:=by simp only[ap,b'];omega
 simp only[lN,h1,he,iu,Bool.or_false,ng,not_false_eq_true]
theorem ag6{cm:aL}(h:cq c=true)(he:ap e 0 3=true)(bq:hE c e=some t)(aa:b3 c t.place=some x)(bl:b3 c 0=some cm)(aB:ew cm e=false):cq (dx c e t x).1=true:=by
 obtain⟨h1,U,ax,aF,aQ,bb,bN,dj⟩:=e7.1 h;have aK:=ii h1;obtain⟨t1,t2,t3⟩:=sE.1 (zh h bq);have ok:=jr h aa;have Wa:∀dc:bQ,lM c.ay.aq dc=false->cq (cM c e dc)=true:=fun dc k=>by rw[afk h bq,k];rfl
 have both:∀dc:bQ,lM c.ay.aq dc=false->cq (setW (cM c e dc) t.place (er x e))=true:=fun dc k=>by
  rw[vC (Wa dc k) (Cr.trans aa),Uz,afp ok]
 unfold dx;split
 ·split
  ·exact both _ (sE.2 ⟨by dsimp only;omega,by simp,by simp⟩)
  rename_i ar;split
  ·split
   ·rename_i hp az;simp only[ap,b']at az;exact both _ (sE.2 ⟨by dsimp only;omega,by simp,az⟩)
   exact h
  rename_i hp;have cc:t.place=0:=by omega
  have Qb:=Wa ⟨false,t.place,t.sum,t.bV,t.ca⟩ (sE.2 ⟨t1,fun _=>cc,t3⟩);split
  ·rw[cc]at aa;have Jb:cm=x:=by rw[bl]at aa;exact eQ aa
   have kw:cq (setW (cM c e ⟨false,t.place,t.sum,t.bV,t.ca⟩) 0 (told x e (t.ca||x.bm.getD e.toNat false)))=true:=by
    rw[vC Qb (Cr.trans aa),Uz];exact Uq ok he (Jb▸aB)
   rw[Up kw,List.any_append];have e1:(setW (cM c e ⟨false,t.place,t.sum,t.bV,t.ca⟩) 0 (told x e (t.ca||x.bm.getD e.toNat false))).ay=c.ay:=rfl;rw[e1,dj,UG (by omega) he];rfl
  exact Qb
 exact h
theorem UH{c:aU}{e:Int}(h:cq c=true):cq (ij c e).1=true:=by
 unfold ij;split
 ·rename_i af;rw[b8]at af;split
  ·rename_i cm t bl bq;split
   ·exact h
   rename_i aB;split
   ·rename_i x aa;exact ag6 h af.2 bq aa bl (by simpa using aB)
   exact h
  exact h
 exact h
theorem L6{k:Nat}{n:bT}(h:cq c=true)(aK:c.news[k]?=some n):lN c.ay.aq n=false:=by
 have dj:=(e7.1 h).2.2.2.2.2.2.2;rw[ff]at dj;simpa using dj n (cG aK)
theorem ag7{α:Type}{p:α->Bool}{xs:List α}{k:Nat}(h:xs.any p=false):(cutAt xs k).any p=false:=by
 rw[ff]at h ⊢;intro a ad;rcases gV.1 ad with ad | ad
 ·exact h a (rN ad)
 exact h a (ur ad)
theorem UI{c:aU}{w:Int}(h:cq c=true):cq (jN c w).1=true:=by
 unfold jN;split
 ·rw[aZ h];split
  ·rename_i n x aK aa;have ao:=L6 h aK;simp only[lN,fR,jW]at ao;have kw:cq (setW c w (ea x n))=true:=by rw[vC h aa,afq (jr h aa) ao.2]
   rw[Up kw,ag5,ag7 (e7.1 h).2.2.2.2.2.2.2];rfl
  exact h
 exact h
theorem Fc{α:Type}{sz:α->Nat}{y:α}(x:α):∀{xs:List α} {i:Nat},xs[i]?=some y->iV sz (xs.set i x)+sz y=iV sz xs+sz x
 | [],i,h=>by simp at h
 | a::xs,0,h=>by
  obtain rfl:a=y:=by simpa using h
  simp only[iV,List.set_cons_zero,dJ,k8,rO];omega
 | a::xs,i+1,h=>by
  have:=Fc (sz:=sz) x (xs:=xs) (i:=i) (by simpa using h);simp only[iV,List.set_cons_succ,dJ,k8,rO]at this ⊢;omega
theorem vF{c:aU}{x y:aL}(h:b3 c i=some y):(setW c i x).sz+y.sz=c.sz+x.sz:=by
 have:=Fc (sz:=aL.sz) x (eK h).2.2;simp only[setW,aU.sz];omega
theorem L7{x y:bt}(h:eB c i=some y):(db c i x).sz+y.sz=c.sz+x.sz:=by
 have:=Fc (sz:=bt.sz) x (iT h).2.2;simp only[db,aU.sz];omega
theorem Fe{x:bQ}:(cM c i x).sz=c.sz:=by
 simp only[cM,aU.sz,fN]
theorem UJ{c:aU}{x:List bT}:(hg c x).sz+c.news.length=c.sz+x.length:=by
 simp only[hg,aU.sz];omega
theorem ag8(g:b0)(w:aL):(gJ g w).1.sz<=w.sz+2:=by
 unfold gJ;split
 ·rename_i af;rw[b8]at af;split
  ·rename_i r q h1 U;have:=acz af.1 w.cells r;simp only[aL.sz,h1,U,dJ,bY];split<;>(try simp only[fN])<;>omega
  exact Nat.le_add_right _ _
 exact Nat.le_add_right _ _
theorem ag9(g:b0)(w:aL):(gK g w).1.sz<=w.sz:=by
 unfold gK;split
 ·split
  ·rename_i r t h1 U ax;simp only[aL.sz,h1,U,ax,dJ,bY];omega
  exact dN _
 exact dN _
theorem UK{w:aL}{t:List aE}(h:w.cp=r::t):(iB w t).sz+1=w.sz:=by
 simp only[iB,aL.sz,h,dJ];omega
theorem aha(w:aL)(r:aE):(kept w r).sz=w.sz+1:=by
 simp only[kept,aL.sz,k7,dJ,bY];omega
theorem ahb(w:aL)(e:Int):(my w e).sz=w.sz:=by
 simp only[my,mO,aL.sz,fN]
theorem ahc(w:aL)(r:aE):(k1 w r).sz=w.sz+1:=by
 simp only[k1,mO,aL.sz,fN,k7,dJ,bY];omega
theorem ahd(w:aL)(e:Int):(er w e).sz=w.sz:=by
 simp only[er,aL.sz,fN]
theorem UL(w:aL)(e:Int)(b:Bool):(told w e b).sz=w.sz+1:=by
 simp only[told,aL.sz,k7,dJ,bY];omega
theorem ahe(w:aL)(n:bT):(ea w n).sz<=w.sz+1:=by
 unfold ea;split
 ·omega
 rw[UL];omega
theorem ahf(l:bt)(r:aE):(ei l r).1.sz<=l.sz+1:=by
 unfold ei;split<;>simp[bt.sz]
theorem ahg(l:bt):(dI l).1.sz<=l.sz:=by
 unfold dI;split
 ·split
  ·exact dN _
  rename_i h;simp[bt.sz,h]
 exact dN _
theorem ahh(l:bt):(fT l).1.sz=l.sz:=by
 unfold fT;split<;>rfl
theorem UM{α:Type}(xs:List α)(k:Nat):(cutAt xs k).length<=xs.length:=by
 simp only[cutAt,k7,qs,List.length_drop];omega
theorem ahi(hw:c.aq.length<=4)(aa:b3 c t.place=some x)(bl:0<=t.place):(dx c e t x).1.sz<=c.sz+4:=by
 unfold dx;have w1:∀dc,(setW (cM c e dc) t.place (er x e)).sz+x.sz=c.sz+x.sz:=fun dc=>by
  have:=vF (c:=cM c e dc) (x:=er x e) (Cr.trans aa);rwa[Fe,ahd]at this
 split
 ·split
  ·have:=w1 ⟨true,(c.aq.length:Int)-1,0,false,x.bm.getD e.toNat false⟩;dsimp only;omega
  split
  ·split
   ·have:=w1 ⟨true,t.place-1,t.sum+x.bM.getD e.toNat 0,t.bV||x.bV.getD e.toNat false,t.ca||x.bm.getD e.toNat false⟩;dsimp only;omega
   dsimp only;omega
  rename_i hp;have cc:t.place=0:=by omega
  split
  ·rw[cc]at aa;have a:=vF (c:=cM c e ⟨false,t.place,t.sum,t.bV,t.ca⟩) (x:=told x e (t.ca||x.bm.getD e.toNat false)) (Cr.trans aa);rw[Fe,UL]at a;have b:=UJ (c:=setW (cM c e ⟨false,t.place,t.sum,t.bV,t.ca⟩) 0 (told x e (t.ca||x.bm.getD e.toNat false))) (x:=c.news++fU (c.aq.length-1) e (t.ca||x.bm.getD e.toNat false));have d:(setW (cM c e ⟨false,t.place,t.sum,t.bV,t.ca⟩) 0 (told x e (t.ca||x.bm.getD e.toNat false))).news=c.news:=rfl;rw[d]at b;simp only[k7,fU,bk,vZ]at b;dsimp only;simp only[fU];omega
  dsimp only;rw[Fe];omega
 dsimp only;omega
theorem L8(h:cq c=true):c.aq.length<=4:=by
 obtain⟨h1,U,_⟩:=e7.1 h;have:=ii h1;omega
theorem agt(c:aU)(p:b9):(cY c p).1.sz<=c.sz+4:=by
 have dw:c.sz<=c.sz+4:=by omega
 unfold cY;split
 ·unfold jn;split
  ·split
   ·rename_i x aa;have:=vF (x:=(gJ c.ay x).1) aa;have:=ag8 c.ay x;dsimp only;omega
   exact dw
  exact dw
 split
 ·unfold jo;split
  ·split
   ·rename_i x aa;have:=vF (x:=(gK c.ay x).1) aa;have:=ag9 c.ay x;dsimp only;omega
   exact dw
  exact dw
 split
 ·unfold iS;split
  ·split
   ·rename_i x aa;split
    ·rename_i r t ai;have hu:=UK ai;unfold rq;split
     ·have:=vF (x:=kept (iB x t) r) aa;rw[aha]at this;dsimp only;omega
     split
     ·rename_i l aj;split
      ·have a:=L7 (x:=(ei l r).1) aj;have b:=vF (c:=db c (dX c.ay p.a (eJ r.key c.ay.aq)) (ei l r).1) (x:=my (iB x t) r.bh.a7) (Cq.trans aa);rw[ahb]at b;have:=ahf l r;dsimp only;omega
      exact dw
     exact dw
    exact dw
   exact dw
  exact dw
 split
 ·unfold jM;split
  ·split
   ·rename_i l x aj aa;split
    ·have a:=L7 (x:=(dI l).1) aj;have b:=vF (c:=db c (dX c.ay p.a p.b) (dI l).1) (x:=k1 x (dI l).2.1) (Cq.trans aa);rw[ahc]at b;have:=ahg l;dsimp only;omega
    exact dw
   exact dw
  exact dw
 split
 ·unfold jq;split
  ·split
   ·rename_i l aj;have a:=L7 (x:=(fT l).1) aj;have:=ahh l;dsimp only;omega
   exact dw
  exact dw
 split
 ·unfold ij;split
  ·rename_i af;rw[b8]at af;split
   ·rename_i cm t bl bq;split
    ·exact dw
    split
    ·rename_i x aa;exact ahi (L8 af.1) aa (eK aa).1
    exact dw
   exact dw
  exact dw
 split
 ·unfold jN;split
  ·rename_i k hk;split
   ·split
    ·rename_i n x aK aa;have a:=vF (x:=ea x n) aa;have b:=UJ (c:=setW c p.a (ea x n)) (x:=cutAt c.news k);have d:(setW c p.a (ea x n)).news=c.news:=rfl;rw[d]at b;have:=ahe x n;have:=UM c.news k;dsimp only;omega
    exact dw
   exact dw
  exact dw
 exact dw
end Go.Proofs.YtdchjefneblpgaaGreat
namespace Go.Proofs.YtdchjefneblpgaaGreat
open Go.Sx Go.RowKit
theorem agu(l:bt)(r:aE)(h:l.dZ<=9223372036854775807):(ei l r).1.dZ<=9223372036854775807:=by
 unfold ei;split<;>exact h
theorem agv(l:bt)(h:l.dZ<=9223372036854775807):(fT l).1.dZ<=9223372036854775807:=by
 unfold fT;split<;>exact h
theorem agw(l:bt)(h:l.dZ<=9223372036854775807):(dI l).1.dZ<=9223372036854775807:=by
 unfold dI;split
 ·rename_i hk;obtain⟨_,_,_,_,kb,_,kU,_⟩:=nR.1 hk;simp only[ap,b']at kb;split
  ·exact h
  dsimp only;omega
 exact h
theorem fF.db{c:aU}{i:Int}{l:bt}(h:fF c)(aj:l.dZ<=9223372036854775807):fF (db c i l):=by
 intro x aa;rcases h8 aa with h1 | rfl
 ·exact h x h1
 exact aj
variable{c:aU}
theorem fF.at{i:Int}{x:bt}(h:eB c i=some x)(hw:fF c):x.dZ<=9223372036854775807:=hw _ (cG (iT h).2.2)
structure oO (c d:aU):Prop where
 ay:d.ay=c.ay
 dZ:fF c->fF d
 x4:d.aq.length=c.aq.length
theorem oO.rfl:oO c c:=⟨Eq.refl _,id,Eq.refl _⟩
theorem oO.bK{d:aU}(h1:d.ay=c.ay)(U:d.bK=c.bK)(ax:d.aq.length=c.aq.length:=by simp[setW,hg,cM,db,told,er]):oO c d:=⟨h1,fun h x aa=>h x (U▸aa),ax⟩
theorem agx(c:aU)(e:Int)(t:bQ)(x:aL):oO c (dx c e t x).1:=by
 unfold dx;split
 ·split
  ·exact .bK rfl rfl
  split
  ·split
   ·exact .bK rfl rfl
   exact .rfl
  split
  ·exact .bK rfl rfl
  exact .bK rfl rfl
 exact .rfl
theorem L9(c:aU)(p:b9):oO c (cY c p).1:=by
 unfold cY;split
 ·unfold jn;split
  ·split
   ·exact .bK rfl rfl
   exact .rfl
  exact .rfl
 split
 ·unfold jo;split
  ·split
   ·exact .bK rfl rfl
   exact .rfl
  exact .rfl
 split
 ·unfold iS;split
  ·split
   ·split
    ·unfold rq;split
     ·exact .bK rfl rfl
     split
     ·rename_i l aj;split
      ·exact⟨rfl,fun h=>fF.db h (agu l _ (fF.at aj h)),by simp[setW,db]⟩
      exact .rfl
     exact .rfl
    exact .rfl
   exact .rfl
  exact .rfl
 split
 ·unfold jM;split
  ·split
   ·rename_i l x aj aa;split
    ·exact⟨rfl,fun h=>fF.db h (agw l (fF.at aj h)),by simp[setW,db]⟩
    exact .rfl
   exact .rfl
  exact .rfl
 split
 ·unfold jq;split
  ·split
   ·rename_i l aj;exact⟨rfl,fun h=>fF.db h (agv l (fF.at aj h)),by simp[setW,db]⟩
   exact .rfl
  exact .rfl
 split
 ·unfold ij;split
  ·split
   ·split
    ·exact .rfl
    split
    ·exact agx c _ _ _
    exact .rfl
   exact .rfl
  exact .rfl
 split
 ·unfold jN;split
  ·split
   ·split
    ·exact .bK rfl rfl
    exact .rfl
   exact .rfl
  exact .rfl
 exact .rfl
theorem Ff{α:Type}{f:α->List D}{xs:List α}{a:α}:(xs++[a]).map f=xs.map f++[f a]:=by simp
def cS:aU->List b9->aU×List Bool
 | c,[]=>(c,[])
 | c,p::l=>((cS (cY c p).1 l).1,(cY c p).2::(cS (cY c p).1 l).2)
theorem TY(p:b9):∀(l:List b9) (c:aU),cS c (l++[p])=((cY (cS c l).1 p).1,(cS c l).2++[(cY (cS c l).1 p).2])
 | [],c=>rfl
 | q::l,c=>by
  have dk:=TY p l (cY c q).1;simp only[List.cons_append,cS,dk]
theorem Ma{l:List b9}{i:Nat}{p:b9}(c:aU)(h:l[i]?=some p):cS c (l.take (i+1))=((cY (cS c (l.take i)).1 p).1,(cS c (l.take i)).2++[(cY (cS c (l.take i)).1 p).2]):=by
 rw[sS,h,yc,TY]
theorem Cs:∀(l:List b9) (c:aU),(cS c l).2.length=l.length
 | [],_=>rfl
 | q::l,c=>by simp only[cS,dJ,Cs l]
theorem Fg:∀(l:List b9) (c:aU),(cS c l).1.sz<=c.sz+4*l.length
 | [],c=>dN _
 | q::l,c=>by
  have:=Fg l (cY c q).1;have:=agt c q;simp only[cS,dJ];omega
theorem oO.trans{d e:aU}(h:oO c d)(k:oO d e):oO c e:=⟨k.ay.trans h.ay,fun x=>k.dZ (h.dZ x),k.x4.trans h.x4⟩
theorem Ct:∀(l:List b9) (c:aU),oO c (cS c l).1
 | [],_=>.rfl
 | q::l,c=>(L9 c q).trans (Ct l _)
theorem Gd{α:Type}(i:Nat)(l:List α):(l.take i).length<=l.length:=by rw[qs];omega
theorem Mb(c:aU)(l:List b9)(i:Nat):(cS c (l.take i)).1.sz<=c.sz+4*l.length:=by
 have:=Fg (l.take i) c;have:=Gd i l;omega
def mI(l:List Bool):Nat:=(l.filter id).length
theorem TZ(l:List Bool):mI l<=l.length:=qq _ _
theorem T0(l:List Bool)(b:Bool):mI (l++[b])=mI l+(if b then 1 else 0):=by
 cases b<;>simp[mI]
end Go.Proofs.YtdchjefneblpgaaGreat
namespace Go.Proofs.YtdchjefneblpgaaGreat
open Go.Sx Go.RowKit
inductive Step (c:aU) (p:b9):aU->Prop
 | work (x:aL) (r:aE) (q:List aE) (hk:p.kind=1) (aa:b3 c p.a=some x) (ai:x.cp=[]) (aA:x.queue=r::q):
   Step c p (setW c p.a ⟨q,(dW c.ay x.cells r).2.1,x.bZ,(dW c.ay x.cells r).1,x.bM,x.bV,(if ca c.ay r then x.bm.set r.bh.a7.toNat true else x.bm),x.b1⟩)
 | input (x:aL) (r:aE) (t:List aE) (hk:p.kind=2) (aa:b3 c p.a=some x) (ai:x.cp=[]) (aA:x.queue=[]) (hi:x.bZ=r::t):
   Step c p (setW c p.a ⟨[r],[],t,x.cells,x.bM,x.bV,x.bm,x.b1⟩)
 | eW (x:aL) (r:aE) (t:List aE) (hk:p.kind=3) (aa:b3 c p.a=some x) (ai:x.cp=r::t) (aN:eJ r.key c.ay.aq=p.a):
   Step c p (setW c p.a (kept (iB x t) r))
 | send (x:aL) (r:aE) (t:List aE) (l:bt) (hk:p.kind=3) (aa:b3 c p.a=some x) (ai:x.cp=r::t) (aN:eJ r.key c.ay.aq≠p.a)
   (aj:eB c (dX c.ay p.a (eJ r.key c.ay.aq))=some l) (h:(ei l r).2=true):
   Step c p (setW (db c (dX c.ay p.a (eJ r.key c.ay.aq)) (ei l r).1) p.a (my (iB x t) r.bh.a7))
 | take (l:bt) (x:aL) (hk:p.kind=4) (dD:p.a≠p.b) (aj:eB c (dX c.ay p.a p.b)=some l) (aa:b3 c p.b=some x) (h:(dI l).2.2=true):
   Step c p (setW (db c (dX c.ay p.a p.b) (dI l).1) p.b (k1 x (dI l).2.1))
 | qC (l:bt) (hk:p.kind=5) (dD:p.a≠p.b) (aj:eB c (dX c.ay p.a p.b)=some l) (h:(fT l).2=true):
   Step c p (db c (dX c.ay p.a p.b) (fT l).1)
 | token (t:bQ) (x cm:aL) (hk:p.kind=6) (he:ap p.a 0 3=true) (bl:b3 c 0=some cm) (aB:ew cm p.a=false) (bq:hE c p.a=some t) (aa:b3 c t.place=some x) (h:(dx c p.a t x).2=true):
   Step c p (dx c p.a t x).1
 | qZ (k:Nat) (n:bT) (x:aL) (hk:p.kind=7) (aK:c.news[k]?=some n) (aB:n.dest=p.a) (aa:b3 c p.a=some x):
   Step c p (hg (setW c p.a (ea x n)) (cutAt c.news k))
theorem agy(g:b0)(w:aL):((gJ g w).2=false/\(gJ g w).1=w)\/
  ((gJ g w).2=true/\∃r q,w.cp=[]/\w.queue=r::q/\(gJ g w).1=⟨q,(dW g w.cells r).2.1,w.bZ,(dW g w.cells r).1,w.bM,w.bV,(if ca g r then w.bm.set r.bh.a7.toNat true else w.bm),w.b1⟩):=by
 unfold gJ;split
 ·split
  ·rename_i r q ai aA;exact .inr ⟨rfl,r,q,ai,aA,rfl⟩
  exact .inl ⟨rfl,rfl⟩
 exact .inl ⟨rfl,rfl⟩
theorem agz(g:b0)(w:aL):((gK g w).2=false/\(gK g w).1=w)\/
  ((gK g w).2=true/\∃r t,w.cp=[]/\w.queue=[]/\w.bZ=r::t/\(gK g w).1=⟨[r],[],t,w.cells,w.bM,w.bV,w.bm,w.b1⟩):=by
 unfold gK;split
 ·split
  ·rename_i r t ai aA hi;exact .inr ⟨rfl,r,t,ai,aA,hi,rfl⟩
  exact .inl ⟨rfl,rfl⟩
 exact .inl ⟨rfl,rfl⟩
theorem Cu{l:bt}{r:aE}(h:(ei l r).2=true):jm l=true/\l.eC≠0/\l.eF<1000000000/\(ei l r).1=⟨l.cap,l.queue++[r],l.eC-1,l.back,l.eF+1,l.dZ⟩:=by
 unfold ei at h ⊢;split
 ·rename_i af;simp only[b8,bne_iff_ne,fM,b']at af;exact⟨af.1.1.1,af.1.2,af.2,rfl⟩
 rename_i af;rw[a6 af]at h;cases h
theorem xJ{l:bt}(h:(dI l).2.2=true):jm l=true/\∃r q,l.queue=r::q/\(dI l).2.1=r/\(dI l).1=⟨l.cap,q,l.eC,l.back+1,l.eF,l.dZ+1⟩:=by
 unfold dI at h ⊢;split
 ·rename_i af;rw[aZ af]at h;refine⟨af,?_⟩;cases aA:l.queue with
  | nil=>rw[aA]at h;cases h
  | cons r q=>exact⟨r,q,rfl,rfl,rfl⟩
 rename_i af;rw[a6 af]at h;cases h
theorem xK(l:bt):((fT l).2=false/\(fT l).1=l)\/((fT l).2=true/\jm l=true/\l.back≠0/\(fT l).1=⟨l.cap,l.queue,l.eC+1,l.back-1,l.eF,l.dZ⟩):=by
 unfold fT;split
 ·rename_i af;simp only[b8,bne_iff_ne,fM]at af;exact .inr ⟨rfl,af.1,af.2,rfl⟩
 exact .inl ⟨rfl,rfl⟩
theorem qh (c : aU) (e : Int) (t : bQ) (x : aL) : ((dx c e t x).2 = false /\ (dx c e t x).1 = c) \/ ((dx c e t x).2 = true /\ kA x e = true /\
    ((t.going = false /\ (dx c e t x).1 = setW (cM c e ⟨true, (c.aq.length : Int) - 1, 0, false, x.bm.getD e.toNat false⟩) t.place (er x e)) \/
     (t.going = true /\ 0 < t.place /\ (dx c e t x).1 = setW (cM c e ⟨true, t.place - 1, t.sum + x.bM.getD e.toNat 0, t.bV || x.bV.getD e.toNat false, t.ca || x.bm.getD e.toNat false⟩) t.place (er x e)) \/
     (t.going = true /\ ¬ 0 < t.place /\ (t.bV = false /\ x.bV.getD e.toNat false = false /\ t.sum + x.bM.getD e.toNat 0 = 0) /\
       (dx c e t x).1 = hg (setW (cM c e ⟨false, t.place, t.sum, t.bV, t.ca⟩) 0 (told x e (t.ca || x.bm.getD e.toNat false))) (c.news ++ fU (c.aq.length - 1) e (t.ca || x.bm.getD e.toNat false))) \/
     (t.going = true /\ ¬ 0 < t.place /\ ¬ (t.bV = false /\ x.bV.getD e.toNat false = false /\ t.sum + x.bM.getD e.toNat 0 = 0) /\ (dx c e t x).1 = cM c e ⟨false, t.place, t.sum, t.bV, t.ca⟩))) := by
  unfold dx;split
  case isFalse => exact .inl ⟨rfl, rfl⟩
  rename_i hp;cases ar : t.going with
  | false => exact .inr ⟨rfl, hp, .inl ⟨rfl, rfl⟩⟩
  | true =>
    rw [a6 (by simp)];split
    · rename_i bl;split
      · exact .inr ⟨rfl, hp, .inr (.inl ⟨rfl, bl, rfl⟩)⟩
      exact .inl ⟨rfl, rfl⟩
    rename_i bl;split
    · rename_i af;simp only [b8, gy, dp] at af;exact .inr ⟨rfl, hp, .inr (.inr (.inl ⟨rfl, bl, ⟨af.1.1, af.1.2, af.2⟩, rfl⟩))⟩
    rename_i af;refine .inr ⟨rfl, hp, .inr (.inr (.inr ⟨rfl, bl, fun aK => af ?_, rfl⟩))⟩;simp only [b8, gy, dp];exact ⟨⟨aK.1, aK.2.1⟩, aK.2.2⟩
theorem xL(c:aU)(p:b9):((cY c p).2=false/\(cY c p).1=c)\/(cq c=true/\(cY c p).2=true/\Step c p (cY c p).1):=by
 unfold cY;split
 ·rename_i hk;unfold jn;split
  case isFalse=>exact .inl ⟨rfl,rfl⟩
  rename_i bD;cases aa:b3 c p.a with
  | none=>exact .inl ⟨rfl,rfl⟩
  | some x=>
   rcases agy c.ay x with⟨h1,U⟩ | ⟨h1,r,q,ai,aA,U⟩
   ·exact .inl ⟨h1,by dsimp only;rw[U];exact tZ aa⟩
   refine .inr ⟨bD,h1,?_⟩;dsimp only;rw[U];exact .work x r q hk aa ai aA
 split
 ·rename_i hk;unfold jo;split
  case isFalse=>exact .inl ⟨rfl,rfl⟩
  rename_i bD;cases aa:b3 c p.a with
  | none=>exact .inl ⟨rfl,rfl⟩
  | some x=>
   rcases agz c.ay x with⟨h1,U⟩ | ⟨h1,r,t,ai,aA,hi,U⟩
   ·exact .inl ⟨h1,by dsimp only;rw[U];exact tZ aa⟩
   refine .inr ⟨bD,h1,?_⟩;dsimp only;rw[U];exact .input x r t hk aa ai aA hi
 split
 ·rename_i hk;unfold iS;split
  case isFalse=>exact .inl ⟨rfl,rfl⟩
  rename_i bD;cases aa:b3 c p.a with
  | none=>exact .inl ⟨rfl,rfl⟩
  | some x=>
   dsimp only;cases ai:x.cp with
   | nil=>exact .inl ⟨rfl,rfl⟩
   | cons r t=>
    dsimp only;unfold rq;split
    ·rename_i aN;exact .inr ⟨bD,rfl,.eW x r t hk aa ai aN⟩
    rename_i aN;cases aj:eB c (dX c.ay p.a (eJ r.key c.ay.aq)) with
    | none=>exact .inl ⟨rfl,rfl⟩
    | some l=>
     dsimp only;split
     ·rename_i h;exact .inr ⟨bD,rfl,.send x r t l hk aa ai aN aj h⟩
     exact .inl ⟨rfl,rfl⟩
 split
 ·rename_i hk;unfold jM;split
  case isFalse=>exact .inl ⟨rfl,rfl⟩
  rename_i af;simp only[b8,bne_iff_ne,fM]at af;cases aj:eB c (dX c.ay p.a p.b) with
  | none=>exact .inl ⟨rfl,rfl⟩
  | some l=>
   cases aa:b3 c p.b with
   | none=>exact .inl ⟨rfl,rfl⟩
   | some x=>
    dsimp only;split
    ·rename_i h;exact .inr ⟨af.1,rfl,.take l x hk af.2 aj aa h⟩
    exact .inl ⟨rfl,rfl⟩
 split
 ·rename_i hk;unfold jq;split
  case isFalse=>exact .inl ⟨rfl,rfl⟩
  rename_i af;simp only[b8,bne_iff_ne,fM]at af;cases aj:eB c (dX c.ay p.a p.b) with
  | none=>exact .inl ⟨rfl,rfl⟩
  | some l=>
   rcases xK l with⟨h1,U⟩ | ⟨h1,_⟩
   ·exact .inl ⟨h1,by dsimp only;rw[U];exact afl aj⟩
   exact .inr ⟨af.1,h1,.qC l hk af.2 aj h1⟩
 split
 ·rename_i hk;unfold ij;split
  case isFalse=>exact .inl ⟨rfl,rfl⟩
  rename_i af;simp only[b8]at af;cases bl:b3 c 0 with
  | none=>exact .inl ⟨rfl,rfl⟩
  | some cm=>
   cases bq:hE c p.a with
   | none=>exact .inl ⟨rfl,rfl⟩
   | some t=>
    dsimp only;cases aB:ew cm p.a with
    | true=>exact .inl ⟨rfl,rfl⟩
    | false=>
     rw[a6 (by simp)];cases aa:b3 c t.place with
     | none=>exact .inl ⟨rfl,rfl⟩
     | some x=>
      dsimp only;rcases qh c p.a t x with h1 | ⟨h1,_⟩
      ·exact .inl h1
      exact .inr ⟨af.1,h1,.token t x cm hk af.2 bl aB bq aa h1⟩
 split
 ·rename_i hk;unfold jN;cases bg:c.news.findIdx? (fun n=>n.dest==p.a) with
  | none=>exact .inl ⟨rfl,rfl⟩
  | some k=>
   dsimp only;split
   case isFalse=>exact .inl ⟨rfl,rfl⟩
   rename_i bD;cases aK:c.news[k]? with
   | none=>exact .inl ⟨rfl,rfl⟩
   | some n=>
    cases aa:b3 c p.a with
    | none=>exact .inl ⟨rfl,rfl⟩
    | some x=>
     dsimp only;have aB:n.dest=p.a:=by
      have:=uq.1 bg;obtain⟨aj,hp,_⟩:=this;rw[gz aj]at aK;rw[eQ aK]at hp;simpa using hp
     exact .inr ⟨bD,rfl,.qZ k n x hk aK aB aa⟩
 exact .inl ⟨rfl,rfl⟩
theorem agA{c:aU}{p:b9}(h:(cY c p).2=false):(cY c p).1=c:=by
 rcases xL c p with⟨_,U⟩ | ⟨_,U,_⟩
 ·exact U
 rw[h]at U;cases U
end Go.Proofs.YtdchjefneblpgaaGreat
namespace Go.Proofs.YtdchjefneblpgaaGreat
open Go.Sx Go.RowKit Go.Sort
def c4{α:Type}(f:α->Nat)(xs:List α):Nat:=(xs.map f).sum
theorem Ge{α:Type}{f:α->Nat}{y:α}(x:α){xs:List α}{i:Nat}(h:xs[i]?=some y):c4 f (xs.set i x)+f y=c4 f xs+f x:=by
 have:=Fc (sz:=f) x h;simp only[iV,fN]at this;unfold c4;omega
