import Derived.Test.YthfnndblgbjniaaGreatP31
set_option linter.unusedVariables false
set_option linter.unusedSimpArgs false
namespace Go.Proofs.YthfnndblgbjniaaGreat
open Go.Sx Go.RowKit
variable{l:bj}
theorem n4:jt l=true<->ax l.cap 1 4=true/\ax l.eb 0 l.cap=true/\ax l.back 0 l.cap=true/\l.eb+l.back+l.queue.length=l.cap/\ax l.ek 0 1000000000=true/\0<=l.db/\l.db=l.ek-l.queue.length/\(l.queue.any fun r=>!eO r)=false:=by
 simp only[jt,cu,gp,kq,cj,and_assoc]
variable{g:bX}
theorem oO{i:Nat}:kF g i l=false<->jt l=true/\l.cap=g.cap/\gJ g l.queue=true/\((i:Int).tdiv g.aq=(i:Int).tmod g.aq->l.queue=[]):=by
 simp only[kF,fC,jC,bne_eq_false_iff_eq,Bool.and_eq_false_imp,kq,kK];simp_all
variable{r:az}
theorem asw{i:Nat}(h:kF g i l=false)(aC:kl g r=false)(ao:(eh l r).2=true)(aE:(i:Int).tdiv g.aq≠(i:Int).tmod g.aq):kF g i (eh l r).1=false:=by
 obtain⟨h1,U,aA,aJ⟩:=oO.1 h;unfold eh at ao ⊢;split
 ·rename_i ai;simp only[cu,bne_iff_ne,lZ,cj]at ai;obtain⟨⟨⟨_,oH⟩,pt⟩,SQ⟩:=ai;obtain⟨cA,bm,eK,pD,ke,pE,k0,qC⟩:=n4.1 h1;refine oO.2 ⟨n4.2 ⟨cA,?_,eK,?_,?_,pE,?_,?_⟩,U,Po.2 ⟨aA,aC⟩,fun e=>(aE e).elim⟩
  ·simp only[ax,cj]at bm ⊢;omega
  ·grind
  ·simp only[ax,cj]at ke ⊢;omega
  ·grind
  grind
 grind
theorem H5{i:Nat}(h:kF g i l=false)(ao:(dH l).2.2=true):kF g i (dH l).1=false/\kl g (dH l).2.1=false:=by
 obtain⟨h1,U,aA,aJ⟩:=oO.1 h;obtain⟨cA,bm,eK,pD,ke,pE,k0,qC⟩:=n4.1 h1;unfold dH at ao ⊢;rw[bq h1]at ao ⊢;split
 ·grind
 rename_i r q aH;rw[aH]at aA qC pD k0 aJ;rw[qI]at aA;rw[EP,fC]at qC;simp only[gT]at pD k0;refine⟨oO.2 ⟨n4.2 ⟨cA,bm,?_,?_,ke,?_,?_,qC.2⟩,U,aA.2,fun e=>absurd (aJ e) (by simp)⟩,aA.1⟩
 ·simp only[ax,cj]at bm eK ⊢;omega
 ·grind
 ·grind
 grind
theorem asx{i:Nat}(h:kF g i l=false):kF g i (fQ l).1=false:=by
 obtain⟨h1,U,aA,aJ⟩:=oO.1 h;obtain⟨cA,bm,eK,pD,ke,pE,k0,qC⟩:=n4.1 h1;unfold fQ;split
 ·rename_i ai;simp only[cu,bne_iff_ne,lZ]at ai;refine oO.2 ⟨n4.2 ⟨cA,?_,?_,?_,ke,pE,k0,qC⟩,U,aA,aJ⟩
  ·simp only[ax,cj]at bm eK ⊢;omega
  ·simp only[ax,cj]at bm eK ⊢;omega
  grind
 exact h
theorem x9{a b:Int}(aW:1<=g.aq/\g.aq<=4)(ah:ax a 0 (g.aq-1)=true)(aw:ax b 0 (g.aq-1)=true):
  d' g a b=a*g.aq+b/\0<=a*g.aq+b/\a*g.aq+b<g.aq*g.aq/\(a*g.aq+b).tdiv g.aq=a/\(a*g.aq+b).tmod g.aq=b:=by
 have e:d' g a b=a*g.aq+b:=by grind[d']
 simp only[ax,cj]at ah aw;generalize g.aq=n at*;have bJ:0<=a*n+b:=by have:=Int.mul_nonneg ah.1 (show 0<=n by omega);omega
 rw[Int.tdiv_eq_ediv_of_nonneg bJ,Int.tmod_eq_emod_of_nonneg bJ];have FG:n=1\/n=2\/n=3\/n=4:=by omega
 grind
variable{b:Int}
theorem uE{a:Int}(h:(ax a 0 (g.aq-1)&&ax b 0 (g.aq-1))=false):d' g a b=-1:=by
 grind[d']
variable{n:Int}
theorem DK(key:Int)(aW:1<=n):ax (eZ key n) 0 (n-1)=true:=by
 have h1:=Pj key n (by omega);have U:=Int.tmod_lt_of_pos key (show 0<n by omega);unfold eZ;rw[bD (by omega)];simp only[ax,cj];grind
variable{c:aO}
theorem x'(h:cx c=true){a:Int}(ah:ax a 0 (c.au.aq-1)=true)(aw:ax b 0 (c.au.aq-1)=true):∃l,eF c (d' c.au a b)=some l:=by
 obtain⟨h1,U,aA,_⟩:=fp.1 h;obtain⟨e,bJ,bR,_⟩:=x9 (iz h1) ah aw;simp_all[eF,bq,c5]
variable{i:Int}
theorem Pq(h:eF c i=some l):((i.toNat:Nat):Int)=i:=by have:=(iK h).1;omega
theorem pY{c:aO}{i:Int}(bJ:0<=i)(h1:i<c.aq.length):∃x,cd c i=some x:=by
 simp_all[cd,bq,c5]
theorem Yu(h:cx c=true){e:Int}(he:ax e 0 3=true):∃t,hZ c e=some t:=by
 have aJ:=(fp.1 h).2.2.2.1;simp only[ax,cj]at he;unfold hZ;rw[bq he.1];exact c5 (by omega)
variable{t:bQ}
theorem s7:lP n t=false<->(0<=t.place/\t.place<=n-1)/\(t.going=false->t.place=0)/\(-1000000<=t.sum/\t.sum<=1000000):=by
 simp only[lP,ax,fC,jC,cj,Bool.and_eq_false_imp,gp,bne_eq_false_iff_eq]
theorem DL{j:Int}:cd (dd c i l) j=cd c j:=rfl
theorem DM{j:Int}:cd (cL c i t) j=cd c j:=rfl
theorem Yv:(dd c i l).au=c.au:=rfl
theorem Yw:(cL c i t).au=c.au:=rfl
variable{x:aK}
theorem asy:(setW c i x).au=c.au:=rfl
theorem Yx{w o:Int}{t:List az}(h:cx c=true)(ag:cd c w=some x)(ao:x.b9=r::t)
  (a8:ax o 0 (c.au.aq-1)=true) (cZ:o≠w) (al:eF c (d' c.au w o)=some l) (hsend:(eh l r).2=true):
  cx (setW (dd c (d' c.au w o) (eh l r).1) w (mF (hX x t) r.bl.ba))=ax (x.bB.getD r.bl.ba.toNat 0+1) (-1000000) 1000000:=by
 obtain⟨h1,U,_⟩:=fp.1 h;obtain⟨w0,w1,_⟩:=eR ag;obtain⟨ok,aC⟩:=H4 (jU h ag) ao;obtain⟨e,ic,sZ,LS,F3⟩:=x9 (iz h1) (a:=w) (b:=o) (by simp only[ax,cj];omega) a8;have cJ:cx (dd c (d' c.au w o) (eh l r).1)=true:=by
  grind[Pn,asw,r6,Pq]
 rw[vY cJ (DL.trans ag),Yv,ars ok (r7 aC)];rfl
theorem Yy{w:Int}{t:List az}(h:cx c=true)(ag:cd c w=some x)(ao:x.b9=r::t):cx (setW c w (kept (hX x t) r))=true:=by
 grind[H4,jU,vY,aro]
theorem Yz{k:Int}(h:cx c=true)(al:eF c k=some l)(ag:cd c b=some x)(bK:(dH l).2.2=true):
  cx (setW (dd c k (dH l).1) b (ii x (dH l).2.1))=ax (x.bB.getD (dH l).2.1.bl.ba.toNat 0+-1) (-1000000) 1000000:=by
 obtain⟨cA,bm⟩:=H5 (r6 h al) bK;have cJ:cx (dd c k (dH l).1)=true:=by grind[Pn]
 rw[vY cJ (DL.trans ag),Yv,art (jU h ag) bm]
theorem YA{c:aO}{w:Int}(h:cx c=true):cx (ju c w).1=true:=by
 unfold ju;rw[bq h];grind[vY,asv,jU]
theorem YB{c:aO}{w:Int}(h:cx c=true):cx (jv c w).1=true:=by
 unfold jv;rw[bq h];grind[vY,aqR,jU]
theorem YC{c:aO}{a b:Int}(h:cx c=true):cx (jw c a b).1=true:=by
 grind[jw,Pn,asx,r6]
variable{e:Int}
theorem YD{b:Bool}{m:Nat}(hm:(m:Int)=n-1)(he:ax e 0 3=true):(gv m e b).any (lQ n)=false:=by
 rw[fx];intro x ag;simp only[gv,kr,List.mem_range]at ag;obtain⟨k,hk,rfl⟩:=ag;have h1:ax ((k:Int)+1) 0 (n-1)=true:=by simp only[ax,cj];omega
 simp_all[lQ,hy,Bool.or_false,oc,not_false_eq_true]
theorem asz{cE:aK}(h:cx c=true)(he:ax e 0 3=true)(bK:hZ c e=some t)(ag:cd c t.place=some x)(bJ:cd c 0=some cE)(aE:eD cE e=false):cx (dF c e t x).1=true:=by
 obtain⟨h1,U,aA,aJ,a7,bw,b1,dA⟩:=fp.1 h;have aW:=iz h1;obtain⟨t1,t2,t3⟩:=s7.1 (Am h bK);have ok:=jU h ag;have aaE:∀dx:bQ,lP c.au.aq dx=false->cx (cL c e dx)=true:=fun dx k=>by grind[ark]
 have both:∀dx:bQ,lP c.au.aq dx=false->cx (setW (cL c e dx) t.place (eB x e))=true:=fun dx k=>by
  rw[vY (aaE dx k) (DM.trans ag),Yw,arp ok]
 unfold dF;split
 ·split
  ·exact both _ (s7.2 ⟨by grind,by simp,by simp⟩)
  rename_i ay;split
  ·split
   ·rename_i hp aC;simp only[ax,cj]at aC;exact both _ (s7.2 ⟨by grind,by simp,aC⟩)
   exact h
  rename_i hp;have bE:t.place=0:=by omega
  have Td:=aaE ⟨false,t.place,t.sum,t.bN,t.cr⟩ (s7.2 ⟨t1,fun _=>bE,t3⟩);split
  ·rw[bE]at ag;have S3:cE=x:=by grind
   have kw:cx (setW (cL c e ⟨false,t.place,t.sum,t.bN,t.cr⟩) 0 (told x e (t.cr||x.bk.getD e.toNat false)))=true:=by
    rw[vY Td (DM.trans ag),Yw];grind[Yp]
   rw[Yo kw,List.any_append];have e1:(setW (cL c e ⟨false,t.place,t.sum,t.bN,t.cr⟩) 0 (told x e (t.cr||x.bk.getD e.toNat false))).au=c.au:=rfl;grind[YD]
  exact Td
 exact h
theorem YE{c:aO}{e:Int}(h:cx c=true):cx (iA c e).1=true:=by
 unfold iA;split
 ·rename_i ai;rw[cu]at ai;grind[asz]
 exact h
theorem OA{k:Nat}{n:bT}(h:cx c=true)(aW:c.news[k]?=some n):lQ c.au.aq n=false:=by
 have dA:=(fp.1 h).2.2.2.2.2.2.2;grind
theorem asA{α:Type}{p:α->Bool}{xs:List α}{k:Nat}(h:xs.any p=false):(cutAt xs k).any p=false:=by
 rw[fx]at h ⊢;intro a ah;rcases hM.1 ah with ah | ah
 ·grind
 grind
theorem YF{c:aO}{w:Int}(h:cx c=true):cx (jT c w).1=true:=by
 unfold jT;split
 ·rw[bq h];split
  ·rename_i n x aW ag;have aw:=OA h aW;simp only[lQ,fC,jC]at aw;have kw:cx (setW c w (eg x n))=true:=by grind[vY,arq,jU]
   rw[Yo kw,asy,asA (fp.1 h).2.2.2.2.2.2.2];rfl
  exact h
 exact h
theorem ya{α:Type}{sz:α->Nat}{y:α}(x:α):∀{xs:List α} {i:Nat},xs[i]?=some y->fw sz (xs.set i x)+sz y=fw sz xs+sz x
 | [],i,h=>by simp at h
 | a::xs,0,h=>by
  grind[fw,gT]
 | a::xs,i+1,h=>by
  have:=ya (sz:=sz) x (xs:=xs) (i:=i) (by simpa using h);simp only[fw,List.set_cons_succ,gT,mg,w4]at this ⊢;omega
theorem v7{c:aO}{x y:aK}(h:cd c i=some y):(setW c i x).sz+y.sz=c.sz+x.sz:=by
 have:=ya (sz:=aK.sz) x (eR h).2.2;grind[setW,aO.sz]
theorem OB{x y:bj}(h:eF c i=some y):(dd c i x).sz+y.sz=c.sz+x.sz:=by
 have:=ya (sz:=bj.sz) x (iK h).2.2;grind[dd,aO.sz]
theorem H6{x:bQ}:(cL c i x).sz=c.sz:=by
 grind[cL,aO.sz,ho]
theorem YG{c:aO}{x:List bT}:(gg c x).sz+c.news.length=c.sz+x.length:=by
 grind[gg,aO.sz]
theorem YH(g:bX)(w:aK):(e0 g w).1.sz<=w.sz+2:=by
 unfold e0;split
 ·rename_i ai;rw[cu]at ai;split
  ·grind[ap3,aK.sz,gT,ew,ho]
  grind
 grind
theorem YI(g:bX)(w:aK):(e3 g w).1.sz<=w.sz:=by
 unfold e3;split
 ·split
  ·grind[aK.sz,gT,ew]
  grind
 grind
theorem OC{w:aK}{t:List az}(h:w.b9=r::t):(hX w t).sz+1=w.sz:=by
 grind[hX,aK.sz,gT]
theorem asB(w:aK)(r:az):(kept w r).sz=w.sz+1:=by
 grind[kept,aK.sz,f',gT,ew]
theorem asC(w:aK)(e:Int):(mF w e).sz=w.sz:=by
 grind[mF,l7,aK.sz,ho]
theorem YJ(w:aK)(r:az):(ii w r).sz=w.sz+1:=by
 simp only[ii,l7,aK.sz,ho,f',gT,ew];omega
theorem asD(w:aK)(e:Int):(eB w e).sz=w.sz:=by
 grind[eB,aK.sz,ho]
theorem YK(w:aK)(e:Int)(b:Bool):(told w e b).sz=w.sz+1:=by
 grind[told,aK.sz,f',gT,ew]
theorem asE(w:aK)(n:bT):(eg w n).sz<=w.sz+1:=by
 grind[eg,YK]
theorem YL(l:bj)(r:az):(eh l r).1.sz<=l.sz+1:=by
 grind[eh,bj.sz]
theorem YM(l:bj):(dH l).1.sz<=l.sz:=by
 unfold dH;split
 ·split
  ·grind
  grind[bj.sz]
 grind
theorem XY(l:bj):(fQ l).1.sz=l.sz:=by
 unfold fQ;split<;>rfl
theorem XZ{α:Type}(xs:List α)(k:Nat):(cutAt xs k).length<=xs.length:=by
 grind[cutAt,f',nC,List.length_drop]
theorem asF(hw:c.aq.length<=4)(ag:cd c t.place=some x)(bJ:0<=t.place):(dF c e t x).1.sz<=c.sz+4:=by
 unfold dF;have w1:∀dx,(setW (cL c e dx) t.place (eB x e)).sz+x.sz=c.sz+x.sz:=fun dx=>by
  have:=v7 (c:=cL c e dx) (x:=eB x e) (DM.trans ag);grind[H6,asD]
 split
 ·split
  ·grind
  split
  ·grind
  rename_i hp;have bE:t.place=0:=by omega
  split
  ·rw[bE]at ag;have a:=v7 (c:=cL c e ⟨false,t.place,t.sum,t.bN,t.cr⟩) (x:=told x e (t.cr||x.bk.getD e.toNat false)) (DM.trans ag);rw[H6,YK]at a;have b:=YG (c:=setW (cL c e ⟨false,t.place,t.sum,t.bN,t.cr⟩) 0 (told x e (t.cr||x.bk.getD e.toNat false))) (x:=c.news++gv (c.aq.length-1) e (t.cr||x.bk.getD e.toNat false));have d:(setW (cL c e ⟨false,t.place,t.sum,t.bN,t.cr⟩) 0 (told x e (t.cr||x.bk.getD e.toNat false))).news=c.news:=rfl;grind[f',gv,b',w3]
  grind[H6]
 grind
theorem OD(h:cx c=true):c.aq.length<=4:=by
 obtain⟨h1,U,_⟩:=fp.1 h;have:=iz h1;omega
theorem asG(c:aO)(p:b7):(cX c p).1.sz<=c.sz+4:=by
 have dw:c.sz<=c.sz+4:=by omega
 unfold cX;split
 ·grind[ju,v7,e0,YH]
 split
 ·grind[jv,v7,e3,YI]
 split
 ·unfold je;split
  ·split
   ·rename_i x ag;split
    ·rename_i r t ao;have hu:=OC ao;unfold r5;split
     ·grind[v7,kept,hX,asB]
     split
     ·rename_i l al;split
      ·have a:=OB (x:=(eh l r).1) al;have b:=v7 (c:=dd c (d' c.au p.a (eZ r.key c.au.aq)) (eh l r).1) (x:=mF (hX x t) r.bl.ba) (DL.trans ag);grind[asC,YL]
      exact dw
     exact dw
    exact dw
   exact dw
  exact dw
 split
 ·unfold jS;split
  ·split
   ·rename_i l x al ag;split
    ·have a:=OB (x:=(dH l).1) al;have b:=v7 (c:=dd c (d' c.au p.a p.b) (dH l).1) (x:=ii x (dH l).2.1) (DL.trans ag);grind[YJ,YM]
    exact dw
   exact dw
  exact dw
 split
 ·grind[jw,OB,fQ,XY]
 split
 ·unfold iA;split
  ·rename_i ai;rw[cu]at ai;grind[asF,OD,eR]
  exact dw
 split
 ·unfold jT;split
  ·rename_i k hk;split
   ·split
    ·rename_i n x aW ag;have a:=v7 (x:=eg x n) ag;grind[YG,setW,eg,cutAt,asE,XZ]
    exact dw
   exact dw
  exact dw
 exact dw
end Go.Proofs.YthfnndblgbjniaaGreat
namespace Go.Proofs.YthfnndblgbjniaaGreat
open Go.Sx Go.RowKit
theorem X0(l:bj)(r:az)(h:l.db<=9223372036854775807):(eh l r).1.db<=9223372036854775807:=by
 unfold eh;split<;>exact h
theorem X1(l:bj)(h:l.db<=9223372036854775807):(fQ l).1.db<=9223372036854775807:=by
 unfold fQ;split<;>exact h
theorem X2(l:bj)(h:l.db<=9223372036854775807):(dH l).1.db<=9223372036854775807:=by
 unfold dH;split
 ·rename_i hk;obtain⟨_,_,_,_,ke,_,k0,_⟩:=n4.1 hk;simp only[ax,cj]at ke;split
  ·exact h
  dsimp only;omega
 exact h
theorem fE.dd{c:aO}{i:Int}{l:bj}(h:fE c)(al:l.db<=9223372036854775807):fE (dd c i l):=by
 intro x ag;rcases iD ag with h1 | rfl
 ·exact h x h1
 exact al
variable{c:aO}
theorem fE.at{i:Int}{x:bj}(h:eF c i=some x)(hw:fE c):x.db<=9223372036854775807:=hw _ (cD (iK h).2.2)
structure o' (c d:aO):Prop where
 au:d.au=c.au
 db:fE c->fE d
 qX:d.aq.length=c.aq.length
theorem o'.rfl:o' c c:=⟨Eq.refl _,id,Eq.refl _⟩
theorem o'.bn{d:aO}(h1:d.au=c.au)(U:d.bn=c.bn)(aA:d.aq.length=c.aq.length:=by simp[setW,gg,cL,dd,told,eB]):o' c d:=⟨h1,fun h x ag=>h x (U▸ag),aA⟩
theorem asH(c:aO)(e:Int)(t:bQ)(x:aK):o' c (dF c e t x).1:=by
 unfold dF;split
 ·split
  ·exact .bn rfl rfl
  split
  ·split
   ·exact .bn rfl rfl
   exact .rfl
  split
  ·exact .bn rfl rfl
  exact .bn rfl rfl
 exact .rfl
theorem OE(c:aO)(p:b7):o' c (cX c p).1:=by
 unfold cX;split
 ·unfold ju;split
  ·split
   ·exact .bn rfl rfl
   exact .rfl
  exact .rfl
 split
 ·unfold jv;split
  ·split
   ·exact .bn rfl rfl
   exact .rfl
  exact .rfl
 split
 ·unfold je;split
  ·split
   ·split
    ·unfold r5;split
     ·exact .bn rfl rfl
     split
     ·rename_i l al;split
      ·exact⟨rfl,fun h=>fE.dd h (X0 l _ (fE.at al h)),by simp[setW,dd]⟩
      exact .rfl
     exact .rfl
    exact .rfl
   exact .rfl
  exact .rfl
 split
 ·unfold jS;split
  ·split
   ·rename_i l x al ag;split
    ·exact⟨rfl,fun h=>fE.dd h (X2 l (fE.at al h)),by simp[setW,dd]⟩
    exact .rfl
   exact .rfl
  exact .rfl
 split
 ·unfold jw;split
  ·split
   ·rename_i l al;exact⟨rfl,fun h=>fE.dd h (X1 l (fE.at al h)),by simp[setW,dd]⟩
   exact .rfl
  exact .rfl
 split
 ·unfold iA;split
  ·split
   ·split
    ·exact .rfl
    split
    ·exact asH c _ _ _
    exact .rfl
   exact .rfl
  exact .rfl
 split
 ·unfold jT;split
  ·split
   ·split
    ·exact .bn rfl rfl
    exact .rfl
   exact .rfl
  exact .rfl
 exact .rfl
theorem OF{α:Type}{f:α->List D}{xs:List α}{a:α}:(xs++[a]).map f=xs.map f++[f a]:=by simp
def dg:aO->List b7->aO×List Bool
 | c,[]=>(c,[])
 | c,p::l=>((dg (cX c p).1 l).1,(cX c p).2::(dg (cX c p).1 l).2)
theorem X3(p:b7):∀(l:List b7) (c:aO),dg c (l++[p])=((cX (dg c l).1 p).1,(dg c l).2++[(cX (dg c l).1 p).2])
 | [],c=>rfl
 | q::l,c=>by
  have eA:=X3 p l (cX c q).1;simp only[List.cons_append,dg,eA]
theorem X4{l:List b7}{i:Nat}{p:b7}(c:aO)(h:l[i]?=some p):dg c (l.take (i+1))=((cX (dg c (l.take i)).1 p).1,(dg c (l.take i)).2++[(cX (dg c (l.take i)).1 p).2]):=by
 rw[o4,h,Bd,X3]
theorem OG:∀(l:List b7) (c:aO),(dg c l).2.length=l.length
 | [],_=>rfl
 | q::l,c=>by simp only[dg,gT,OG l]
theorem DN:∀(l:List b7) (c:aO),(dg c l).1.sz<=c.sz+4*l.length
 | [],c=>fi _
 | q::l,c=>by
  have:=DN l (cX c q).1;have:=asG c q;simp only[dg,gT];omega
theorem o'.trans{d e:aO}(h:o' c d)(k:o' d e):o' c e:=⟨k.au.trans h.au,fun x=>k.db (h.db x),k.qX.trans h.qX⟩
theorem DO:∀(l:List b7) (c:aO),o' c (dg c l).1
 | [],_=>.rfl
 | q::l,c=>(OE c q).trans (DO l _)
theorem OH{α:Type}(i:Nat)(l:List α):(l.take i).length<=l.length:=by rw[nC];omega
theorem X5(c:aO)(l:List b7)(i:Nat):(dg c (l.take i)).1.sz<=c.sz+4*l.length:=by
 have:=DN (l.take i) c;have:=OH i l;omega
def nO(l:List Bool):Nat:=(l.filter id).length
theorem asI(l:List Bool):nO l<=l.length:=o2 _ _
theorem asJ(l:List Bool)(b:Bool):nO (l++[b])=nO l+(if b then 1 else 0):=by
 cases b<;>simp[nO]
end Go.Proofs.YthfnndblgbjniaaGreat
namespace Go.Proofs.YthfnndblgbjniaaGreat
open Go.Sx Go.RowKit
inductive Step (c:aO) (p:b7):aO->Prop
 | work (x:aK) (r:az) (q:List az) (hk:p.kind=1) (ag:cd c p.a=some x) (ao:x.b9=[]) (aH:x.queue=r::q):
   Step c p (setW c p.a ⟨q,(du c.au x.cells r).2.1,x.bM,(du c.au x.cells r).1,x.bB,x.bN,(if cr c.au r then x.bk.set r.bl.ba.toNat true else x.bk),x.b0⟩)
 | input (x:aK) (r:az) (t:List az) (hk:p.kind=2) (ag:cd c p.a=some x) (ao:x.b9=[]) (aH:x.queue=[]) (hi:x.bM=r::t):
   Step c p (setW c p.a ⟨[r],[],t,x.cells,x.bB,x.bN,x.bk,x.b0⟩)
 | e9 (x:aK) (r:az) (t:List az) (hk:p.kind=3) (ag:cd c p.a=some x) (ao:x.b9=r::t) (a8:eZ r.key c.au.aq=p.a):
   Step c p (setW c p.a (kept (hX x t) r))
 | send (x:aK) (r:az) (t:List az) (l:bj) (hk:p.kind=3) (ag:cd c p.a=some x) (ao:x.b9=r::t) (a8:eZ r.key c.au.aq≠p.a)
   (al:eF c (d' c.au p.a (eZ r.key c.au.aq))=some l) (h:(eh l r).2=true):
   Step c p (setW (dd c (d' c.au p.a (eZ r.key c.au.aq)) (eh l r).1) p.a (mF (hX x t) r.bl.ba))
 | take (l:bj) (x:aK) (hk:p.kind=4) (ec:p.a≠p.b) (al:eF c (d' c.au p.a p.b)=some l) (ag:cd c p.b=some x) (h:(dH l).2.2=true):
   Step c p (setW (dd c (d' c.au p.a p.b) (dH l).1) p.b (ii x (dH l).2.1))
 | qc (l:bj) (hk:p.kind=5) (ec:p.a≠p.b) (al:eF c (d' c.au p.a p.b)=some l) (h:(fQ l).2=true):
   Step c p (dd c (d' c.au p.a p.b) (fQ l).1)
 | token (t:bQ) (x cE:aK) (hk:p.kind=6) (he:ax p.a 0 3=true) (bJ:cd c 0=some cE) (aE:eD cE p.a=false) (bK:hZ c p.a=some t) (ag:cd c t.place=some x) (h:(dF c p.a t x).2=true):
   Step c p (dF c p.a t x).1
 | qo (k:Nat) (n:bT) (x:aK) (hk:p.kind=7) (aW:c.news[k]?=some n) (aE:n.dest=p.a) (ag:cd c p.a=some x):
   Step c p (gg (setW c p.a (eg x n)) (cutAt c.news k))
theorem DP{l:bj}{r:az}(h:(eh l r).2=true):jt l=true/\l.eb≠0/\l.ek<1000000000/\(eh l r).1=⟨l.cap,l.queue++[r],l.eb-1,l.back,l.ek+1,l.db⟩:=by
 unfold eh at h ⊢;grind
theorem yb{l:bj}(h:(dH l).2.2=true):jt l=true/\∃r q,l.queue=r::q/\(dH l).2.1=r/\(dH l).1=⟨l.cap,q,l.eb,l.back+1,l.ek,l.db+1⟩:=by
 unfold dH at h ⊢;grind
theorem yc(l:bj):((fQ l).2=false/\(fQ l).1=l)\/((fQ l).2=true/\jt l=true/\l.back≠0/\(fQ l).1=⟨l.cap,l.queue,l.eb+1,l.back-1,l.ek,l.db⟩):=by
 unfold fQ;grind
theorem pZ (c : aO) (e : Int) (t : bQ) (x : aK) : ((dF c e t x).2 = false /\ (dF c e t x).1 = c) \/ ((dF c e t x).2 = true /\ kG x e = true /\
    ((t.going = false /\ (dF c e t x).1 = setW (cL c e ⟨true, (c.aq.length : Int) - 1, 0, false, x.bk.getD e.toNat false⟩) t.place (eB x e)) \/
     (t.going = true /\ 0 < t.place /\ (dF c e t x).1 = setW (cL c e ⟨true, t.place - 1, t.sum + x.bB.getD e.toNat 0, t.bN || x.bN.getD e.toNat false, t.cr || x.bk.getD e.toNat false⟩) t.place (eB x e)) \/
     (t.going = true /\ ¬ 0 < t.place /\ (t.bN = false /\ x.bN.getD e.toNat false = false /\ t.sum + x.bB.getD e.toNat 0 = 0) /\
       (dF c e t x).1 = gg (setW (cL c e ⟨false, t.place, t.sum, t.bN, t.cr⟩) 0 (told x e (t.cr || x.bk.getD e.toNat false))) (c.news ++ gv (c.aq.length - 1) e (t.cr || x.bk.getD e.toNat false))) \/
     (t.going = true /\ ¬ 0 < t.place /\ ¬ (t.bN = false /\ x.bN.getD e.toNat false = false /\ t.sum + x.bB.getD e.toNat 0 = 0) /\ (dF c e t x).1 = cL c e ⟨false, t.place, t.sum, t.bN, t.cr⟩))) := by
  unfold dF;split
  case isFalse => grind
  rename_i hp;cases ay : t.going with
  | false => grind
  | true =>
    rw [bD (by simp)];split
    · grind
    grind
theorem v8(c:aO)(p:b7):((cX c p).2=false/\(cX c p).1=c)\/(cx c=true/\(cX c p).2=true/\Step c p (cX c p).1):=by
 unfold cX;split
 ·rename_i hk;unfold ju;split
  case isFalse=>grind
  rename_i bY;cases ag:cd c p.a with
  | none=>grind
  | some x=>
   rcases WX c.au x with⟨h1,U⟩ | ⟨h1,r,q,ao,aH,U⟩
   ·grind[uD]
   refine .inr ⟨bY,h1,?_⟩;dsimp only;rw[U];exact .work x r q hk ag ao aH
 split
 ·rename_i hk;unfold jv;split
  case isFalse=>grind
  rename_i bY;cases ag:cd c p.a with
  | none=>grind
  | some x=>
   rcases WY c.au x with⟨h1,U⟩ | ⟨h1,r,t,ao,aH,hi,U⟩
   ·grind[uD]
   refine .inr ⟨bY,h1,?_⟩;dsimp only;rw[U];exact .input x r t hk ag ao aH hi
 split
 ·rename_i hk;unfold je;split
  case isFalse=>grind
  rename_i bY;cases ag:cd c p.a with
  | none=>grind
  | some x=>
   dsimp only;cases ao:x.b9 with
   | nil=>grind
   | cons r t=>
    dsimp only;unfold r5;split
    ·rename_i a8;exact .inr ⟨bY,rfl,.e9 x r t hk ag ao a8⟩
    rename_i a8;cases al:eF c (d' c.au p.a (eZ r.key c.au.aq)) with
    | none=>grind
    | some l=>
     dsimp only;split
     ·rename_i h;exact .inr ⟨bY,rfl,.send x r t l hk ag ao a8 al h⟩
     grind
 split
 ·rename_i hk;unfold jS;split
  case isFalse=>grind
  rename_i ai;simp only[cu,bne_iff_ne,lZ]at ai;cases al:eF c (d' c.au p.a p.b) with
  | none=>grind
  | some l=>
   cases ag:cd c p.b with
   | none=>grind
   | some x=>
    dsimp only;split
    ·rename_i h;exact .inr ⟨ai.1,rfl,.take l x hk ai.2 al ag h⟩
    grind
 split
 ·rename_i hk;unfold jw;split
  case isFalse=>grind
  rename_i ai;simp only[cu,bne_iff_ne,lZ]at ai;cases al:eF c (d' c.au p.a p.b) with
  | none=>grind
  | some l=>
   rcases yc l with⟨h1,U⟩ | ⟨h1,_⟩
   ·grind[arl]
   exact .inr ⟨ai.1,h1,.qc l hk ai.2 al h1⟩
 split
 ·rename_i hk;unfold iA;split
  case isFalse=>grind
  rename_i ai;simp only[cu]at ai;cases bJ:cd c 0 with
  | none=>grind
  | some cE=>
   cases bK:hZ c p.a with
   | none=>grind
   | some t=>
    dsimp only;cases aE:eD cE p.a with
    | true=>grind
    | false=>
     rw[bD (by simp)];cases ag:cd c t.place with
     | none=>grind
     | some x=>
      dsimp only;rcases pZ c p.a t x with h1 | ⟨h1,_⟩
      ·exact .inl h1
      exact .inr ⟨ai.1,h1,.token t x cE hk ai.2 bJ aE bK ag h1⟩
 split
 ·rename_i hk;unfold jT;cases bI:c.news.findIdx? (fun n=>n.dest==p.a) with
  | none=>grind
  | some k=>
   dsimp only;split
   case isFalse=>grind
   rename_i bY;cases aW:c.news[k]? with
   | none=>grind
   | some n=>
    cases ag:cd c p.a with
    | none=>grind
    | some x=>
     dsimp only;have aE:n.dest=p.a:=by
      have:=u9.1 bI;grind
     exact .inr ⟨bY,rfl,.qo k n x hk aW aE ag⟩
 grind
theorem asK{c:aO}{p:b7}(h:(cX c p).2=false):(cX c p).1=c:=by
 grind[v8]
end Go.Proofs.YthfnndblgbjniaaGreat
namespace Go.Proofs.YthfnndblgbjniaaGreat
open Go.Sx Go.RowKit Go.Sort
def da{α:Type}(f:α->Nat)(xs:List α):Nat:=(xs.map f).sum
theorem H7{α:Type}{f:α->Nat}{y:α}(x:α){xs:List α}{i:Nat}(h:xs[i]?=some y):da f (xs.set i x)+f y=da f xs+f x:=by
 have:=ya (sz:=f) x h;simp only[fw,ho]at this;unfold da;omega
