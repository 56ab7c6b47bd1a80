import Derived.Test.YtdchjefneblpgaaGreatP31
set_option linter.unusedVariables false
set_option linter.unusedSimpArgs false
namespace Go.Proofs.YtdchjefneblpgaaGreat
open Go.Sx Go.RowKit
variable{l:bm}
theorem pz:jf l=true<->av l.cap 1 4=true/\av l.eL 0 l.cap=true/\av l.back 0 l.cap=true/\l.eL+l.back+l.queue.length=l.cap/\av l.eo 0 1000000000=true/\0<=l.cW/\l.cW=l.eo-l.queue.length/\(l.queue.any fun r=>!eJ r)=false:=by
 simp only[jf,cw,hb,ka,ck,and_assoc]
variable{g:bV}
theorem qy{i:Nat}:kr g i l=false<->jf l=true/\l.cap=g.cap/\gw g l.queue=true/\((i:Int).tdiv g.ar=(i:Int).tmod g.ar->l.queue=[]):=by
 simp only[kr,gl,kd,bne_eq_false_iff_eq,Bool.and_eq_false_imp,ka,mG];simp_all
variable{r:az}
theorem aq2{i:Nat}(h:kr g i l=false)(aD:j6 g r=false)(ao:(ef l r).2=true)(aE:(i:Int).tdiv g.ar≠(i:Int).tmod g.ar):kr g i (ef l r).1=false:=by
 obtain⟨h1,U,aA,aJ⟩:=qy.1 h;unfold ef at ao ⊢;split
 ·rename_i ak;simp only[cw,bne_iff_ne,l6,ck]at ak;obtain⟨⟨⟨_,oi⟩,o0⟩,RJ⟩:=ak;obtain⟨cS,bt,fP,pa,kI,pb,k6,qk⟩:=pz.1 h1;refine qy.2 ⟨pz.2 ⟨cS,?_,fP,?_,?_,pb,?_,?_⟩,U,M7.2 ⟨aA,aD⟩,fun e=>(aE e).elim⟩
  ·simp only[av,ck]at bt ⊢;omega
  ·grind
  ·simp only[av,ck]at kI ⊢;omega
  ·grind
  grind
 grind
theorem G2{i:Nat}(h:kr g i l=false)(ao:(dG l).2.2=true):kr g i (dG l).1=false/\j6 g (dG l).2.1=false:=by
 obtain⟨h1,U,aA,aJ⟩:=qy.1 h;obtain⟨cS,bt,fP,pa,kI,pb,k6,qk⟩:=pz.1 h1;unfold dG at ao ⊢;rw[bn h1]at ao ⊢;split
 ·grind
 rename_i r q aH;rw[aH]at aA qk pa k6 aJ;rw[qx]at aA;rw[Er,gl]at qk;simp only[gQ]at pa k6;refine⟨qy.2 ⟨pz.2 ⟨cS,bt,?_,?_,kI,?_,?_,qk.2⟩,U,aA.2,fun e=>absurd (aJ e) (by simp)⟩,aA.1⟩
 ·simp only[av,ck]at bt fP ⊢;omega
 ·grind
 ·grind
 grind
theorem aq3{i:Nat}(h:kr g i l=false):kr g i (fF l).1=false:=by
 obtain⟨h1,U,aA,aJ⟩:=qy.1 h;obtain⟨cS,bt,fP,pa,kI,pb,k6,qk⟩:=pz.1 h1;unfold fF;split
 ·rename_i ak;simp only[cw,bne_iff_ne,l6]at ak;refine qy.2 ⟨pz.2 ⟨cS,?_,?_,?_,kI,pb,k6,qk⟩,U,aA,aJ⟩
  ·simp only[av,ck]at bt fP ⊢;omega
  ·simp only[av,ck]at bt fP ⊢;omega
  grind
 exact h
theorem xH{a b:Int}(aZ:1<=g.ar/\g.ar<=4)(ai:av a 0 (g.ar-1)=true)(aw:av b 0 (g.ar-1)=true):
  dZ g a b=a*g.ar+b/\0<=a*g.ar+b/\a*g.ar+b<g.ar*g.ar/\(a*g.ar+b).tdiv g.ar=a/\(a*g.ar+b).tmod g.ar=b:=by
 have e:dZ g a b=a*g.ar+b:=by grind[dZ]
 simp only[av,ck]at ai aw;generalize g.ar=n at*;have bO:0<=a*n+b:=by have:=Int.mul_nonneg ai.1 (show 0<=n by omega);omega
 rw[Int.tdiv_eq_ediv_of_nonneg bO,Int.tmod_eq_emod_of_nonneg bO];have Fa:n=1\/n=2\/n=3\/n=4:=by omega
 grind
variable{b:Int}
theorem uo{a:Int}(h:(av a 0 (g.ar-1)&&av b 0 (g.ar-1))=false):dZ g a b=-1:=by
 grind[dZ]
variable{n:Int}
theorem Cw(key:Int)(aZ:1<=n):av (eU key n) 0 (n-1)=true:=by
 have h1:=ND key n (by omega);have U:=Int.tmod_lt_of_pos key (show 0<n by omega);unfold eU;rw[bw (by omega)];simp only[av,ck];grind
variable{c:aT}
theorem xI(h:cB c=true){a:Int}(ai:av a 0 (c.ay.ar-1)=true)(aw:av b 0 (c.ay.ar-1)=true):∃l,ez c (dZ c.ay a b)=some l:=by
 obtain⟨h1,U,aA,_⟩:=fz.1 h;obtain⟨e,bO,bS,_⟩:=xH (iR h1) ai aw;simp_all[ez,bn,c4]
variable{i:Int}
theorem M9(h:ez c i=some l):((i.toNat:Nat):Int)=i:=by have:=(iA h).1;omega
theorem pA{c:aT}{i:Int}(bO:0<=i)(h1:i<c.ar.length):∃x,cc c i=some x:=by
 simp_all[cc,bn,c4]
theorem Wu(h:cB c=true){e:Int}(he:av e 0 3=true):∃t,hR c e=some t:=by
 have aJ:=(fz.1 h).2.2.2.1;simp only[av,ck]at he;unfold hR;rw[bn he.1];exact c4 (by omega)
variable{t:bP}
theorem sE:lD n t=false<->(0<=t.place/\t.place<=n-1)/\(t.going=false->t.place=0)/\(-1000000<=t.sum/\t.sum<=1000000):=by
 simp only[lD,av,gl,kd,ck,Bool.and_eq_false_imp,hb,bne_eq_false_iff_eq]
theorem Cx{j:Int}:cc (dc c i l) j=cc c j:=rfl
theorem Cy{j:Int}:cc (cJ c i t) j=cc c j:=rfl
theorem Wv:(dc c i l).ay=c.ay:=rfl
theorem Ww:(cJ c i t).ay=c.ay:=rfl
variable{x:aK}
theorem aq4:(setW c i x).ay=c.ay:=rfl
theorem Wx{w o:Int}{t:List az}(h:cB c=true)(af:cc c w=some x)(ao:x.b8=r::t)
  (a7:av o 0 (c.ay.ar-1)=true) (cX:o≠w) (al:ez c (dZ c.ay w o)=some l) (hsend:(ef l r).2=true):
  cB (setW (dc c (dZ c.ay w o) (ef l r).1) w (mv (hP x t) r.bi.a8))=av (x.bB.getD r.bi.a8.toNat 0+1) (-1000000) 1000000:=by
 obtain⟨h1,U,_⟩:=fz.1 h;obtain⟨w0,w1,_⟩:=eO af;obtain⟨ok,aD⟩:=G1 (j4 h af) ao;obtain⟨e,hq,sC,Le,FA⟩:=xH (iR h1) (a:=w) (b:=o) (by simp only[av,ck];omega) a7;have cH:cB (dc c (dZ c.ay w o) (ef l r).1)=true:=by
  grind[M6,aq2,rN,M9]
 rw[v7 cH (Cx.trans af),Wv,apZ ok (rO aD)];rfl
theorem Wy{w:Int}{t:List az}(h:cB c=true)(af:cc c w=some x)(ao:x.b8=r::t):cB (setW c w (kept (hP x t) r))=true:=by
 grind[G1,j4,v7,apW]
theorem Wz{k:Int}(h:cB c=true)(al:ez c k=some l)(af:cc c b=some x)(bG:(dG l).2.2=true):
  cB (setW (dc c k (dG l).1) b (h8 x (dG l).2.1))=av (x.bB.getD (dG l).2.1.bi.a8.toNat 0+-1) (-1000000) 1000000:=by
 obtain⟨cS,bt⟩:=G2 (rN h al) bG;have cH:cB (dc c k (dG l).1)=true:=by grind[M6]
 rw[v7 cH (Cx.trans af),Wv,ap0 (j4 h af) bt]
theorem WA{c:aT}{w:Int}(h:cB c=true):cB (jg c w).1=true:=by
 unfold jg;rw[bn h];grind[v7,aq1,j4]
theorem WB{c:aT}{w:Int}(h:cB c=true):cB (jh c w).1=true:=by
 unfold jh;rw[bn h];grind[v7,apr,j4]
theorem WC{c:aT}{a b:Int}(h:cB c=true):cB (ji c a b).1=true:=by
 grind[ji,M6,aq3,rN]
variable{e:Int}
theorem WD{b:Bool}{m:Nat}(hm:(m:Int)=n-1)(he:av e 0 3=true):(gh m e b).any (lE n)=false:=by
 rw[ft];intro x af;simp only[gh,lh,List.mem_range]at af;obtain⟨k,hk,rfl⟩:=af;have h1:av ((k:Int)+1) 0 (n-1)=true:=by simp only[av,ck];omega
 simp_all[lE,iU,Bool.or_false,nR,not_false_eq_true]
theorem aq5{cE:aK}(h:cB c=true)(he:av e 0 3=true)(bG:hR c e=some t)(af:cc c t.place=some x)(bO:cc c 0=some cE)(aE:ev cE e=false):cB (dE c e t x).1=true:=by
 obtain⟨h1,U,aA,aJ,a',bu,b1,dy⟩:=fz.1 h;have aZ:=iR h1;obtain⟨t1,t2,t3⟩:=sE.1 (zS h bG);have ok:=j4 h af;have Zt:∀du:bP,lD c.ay.ar du=false->cB (cJ c e du)=true:=fun du k=>by grind[apS]
 have both:∀du:bP,lD c.ay.ar du=false->cB (setW (cJ c e du) t.place (ew x e))=true:=fun du k=>by
  rw[v7 (Zt du k) (Cy.trans af),Ww,apX ok]
 unfold dE;split
 ·split
  ·exact both _ (sE.2 ⟨by grind,by simp,by simp⟩)
  rename_i ax;split
  ·split
   ·rename_i hp aD;simp only[av,ck]at aD;exact both _ (sE.2 ⟨by grind,by simp,aD⟩)
   exact h
  rename_i hp;have bE:t.place=0:=by omega
  have R5:=Zt ⟨false,t.place,t.sum,t.bL,t.cf⟩ (sE.2 ⟨t1,fun _=>bE,t3⟩);split
  ·rw[bE]at af;have RT:cE=x:=by grind
   have kw:cB (setW (cJ c e ⟨false,t.place,t.sum,t.bL,t.cf⟩) 0 (told x e (t.cf||x.bj.getD e.toNat false)))=true:=by
    rw[v7 R5 (Cy.trans af),Ww];grind[Wp]
   rw[Wo kw,List.any_append];have e1:(setW (cJ c e ⟨false,t.place,t.sum,t.bL,t.cf⟩) 0 (told x e (t.cf||x.bj.getD e.toNat false))).ay=c.ay:=rfl;grind[WD]
  exact R5
 exact h
theorem WE{c:aT}{e:Int}(h:cB c=true):cB (ij c e).1=true:=by
 unfold ij;split
 ·rename_i ak;rw[cw]at ak;grind[aq5]
 exact h
theorem M'{k:Nat}{n:bT}(h:cB c=true)(aZ:c.news[k]?=some n):lE c.ay.ar n=false:=by
 have dy:=(fz.1 h).2.2.2.2.2.2.2;grind
theorem aq6{α:Type}{p:α->Bool}{xs:List α}{k:Nat}(h:xs.any p=false):(cutAt xs k).any p=false:=by
 rw[ft]at h ⊢;intro a ai;rcases ia.1 ai with ai | ai
 ·grind
 grind
theorem WG{c:aT}{w:Int}(h:cB c=true):cB (jF c w).1=true:=by
 unfold jF;split
 ·rw[bn h];split
  ·rename_i n x aZ af;have aw:=M' h aZ;simp only[lE,gl,kd]at aw;have kw:cB (setW c w (ee x n))=true:=by grind[v7,apY,j4]
   rw[Wo kw,aq4,aq6 (fz.1 h).2.2.2.2.2.2.2];rfl
  exact h
 exact h
theorem xJ{α:Type}{sz:α->Nat}{y:α}(x:α):∀{xs:List α} {i:Nat},xs[i]?=some y->fs sz (xs.set i x)+sz y=fs sz xs+sz x
 | [],i,h=>by simp at h
 | a::xs,0,h=>by
  grind[fs,gQ]
 | a::xs,i+1,h=>by
  have:=xJ (sz:=sz) x (xs:=xs) (i:=i) (by simpa using h);simp only[fs,List.set_cons_succ,gQ,lN,wx]at this ⊢;omega
theorem v'{c:aT}{x y:aK}(h:cc c i=some y):(setW c i x).sz+y.sz=c.sz+x.sz:=by
 have:=xJ (sz:=aK.sz) x (eO h).2.2;grind[setW,aT.sz]
theorem Na{x y:bm}(h:ez c i=some y):(dc c i x).sz+y.sz=c.sz+x.sz:=by
 have:=xJ (sz:=bm.sz) x (iA h).2.2;grind[dc,aT.sz]
theorem G3{x:bP}:(cJ c i x).sz=c.sz:=by
 grind[cJ,aT.sz,hc]
theorem WH{c:aT}{x:List bT}:(fV c x).sz+c.news.length=c.sz+x.length:=by
 grind[fV,aT.sz]
theorem WI(g:bV)(w:aK):(eX g w).1.sz<=w.sz+2:=by
 unfold eX;split
 ·rename_i ak;rw[cw]at ak;split
  ·grind[aoC,aK.sz,gQ,et,hc]
  grind
 grind
theorem WJ(g:bV)(w:aK):(eY g w).1.sz<=w.sz:=by
 unfold eY;split
 ·split
  ·grind[aK.sz,gQ,et]
  grind
 grind
theorem Nb{w:aK}{t:List az}(h:w.b8=r::t):(hP w t).sz+1=w.sz:=by
 grind[hP,aK.sz,gQ]
theorem aq7(w:aK)(r:az):(kept w r).sz=w.sz+1:=by
 grind[kept,aK.sz,hs,gQ,et]
theorem aq8(w:aK)(e:Int):(mv w e).sz=w.sz:=by
 grind[mv,lY,aK.sz,hc]
theorem WK(w:aK)(r:az):(h8 w r).sz=w.sz+1:=by
 simp only[h8,lY,aK.sz,hc,hs,gQ,et];omega
theorem aq9(w:aK)(e:Int):(ew w e).sz=w.sz:=by
 grind[ew,aK.sz,hc]
theorem WL(w:aK)(e:Int)(b:Bool):(told w e b).sz=w.sz+1:=by
 grind[told,aK.sz,hs,gQ,et]
theorem ara(w:aK)(n:bT):(ee w n).sz<=w.sz+1:=by
 grind[ee,WL]
theorem WM(l:bm)(r:az):(ef l r).1.sz<=l.sz+1:=by
 grind[ef,bm.sz]
theorem WN(l:bm):(dG l).1.sz<=l.sz:=by
 unfold dG;split
 ·split
  ·grind
  grind[bm.sz]
 grind
theorem WO(l:bm):(fF l).1.sz=l.sz:=by
 unfold fF;split<;>rfl
theorem We{α:Type}(xs:List α)(k:Nat):(cutAt xs k).length<=xs.length:=by
 grind[cutAt,hs,nS,List.length_drop]
theorem arb(hw:c.ar.length<=4)(af:cc c t.place=some x)(bO:0<=t.place):(dE c e t x).1.sz<=c.sz+4:=by
 unfold dE;have w1:∀du,(setW (cJ c e du) t.place (ew x e)).sz+x.sz=c.sz+x.sz:=fun du=>by
  have:=v' (c:=cJ c e du) (x:=ew x e) (Cy.trans af);grind[G3,aq9]
 split
 ·split
  ·grind
  split
  ·grind
  rename_i hp;have bE:t.place=0:=by omega
  split
  ·rw[bE]at af;have a:=v' (c:=cJ c e ⟨false,t.place,t.sum,t.bL,t.cf⟩) (x:=told x e (t.cf||x.bj.getD e.toNat false)) (Cy.trans af);rw[G3,WL]at a;have b:=WH (c:=setW (cJ c e ⟨false,t.place,t.sum,t.bL,t.cf⟩) 0 (told x e (t.cf||x.bj.getD e.toNat false))) (x:=c.news++gh (c.ar.length-1) e (t.cf||x.bj.getD e.toNat false));have d:(setW (cJ c e ⟨false,t.place,t.sum,t.bL,t.cf⟩) 0 (told x e (t.cf||x.bj.getD e.toNat false))).news=c.news:=rfl;grind[hs,gh,ct,ww]
  grind[G3]
 grind
theorem Wf(h:cB c=true):c.ar.length<=4:=by
 obtain⟨h1,U,_⟩:=fz.1 h;have:=iR h1;omega
theorem arc(c:aT)(p:b'):(cY c p).1.sz<=c.sz+4:=by
 have dm:c.sz<=c.sz+4:=by omega
 unfold cY;split
 ·grind[jg,v',eX,WI]
 split
 ·grind[jh,v',eY,WJ]
 split
 ·unfold iS;split
  ·split
   ·rename_i x af;split
    ·rename_i r t ao;have hu:=Nb ao;unfold rM;split
     ·grind[v',kept,hP,aq7]
     split
     ·rename_i l al;split
      ·have a:=Na (x:=(ef l r).1) al;have b:=v' (c:=dc c (dZ c.ay p.a (eU r.key c.ay.ar)) (ef l r).1) (x:=mv (hP x t) r.bi.a8) (Cx.trans af);grind[aq8,WM]
      exact dm
     exact dm
    exact dm
   exact dm
  exact dm
 split
 ·unfold jE;split
  ·split
   ·rename_i l x al af;split
    ·have a:=Na (x:=(dG l).1) al;have b:=v' (c:=dc c (dZ c.ay p.a p.b) (dG l).1) (x:=h8 x (dG l).2.1) (Cx.trans af);grind[WK,WN]
    exact dm
   exact dm
  exact dm
 split
 ·grind[ji,Na,fF,WO]
 split
 ·unfold ij;split
  ·rename_i ak;rw[cw]at ak;grind[arb,Wf,eO]
  exact dm
 split
 ·unfold jF;split
  ·rename_i k hk;split
   ·split
    ·rename_i n x aZ af;have a:=v' (x:=ee x n) af;grind[WH,setW,ee,cutAt,ara,We]
    exact dm
   exact dm
  exact dm
 exact dm
end Go.Proofs.YtdchjefneblpgaaGreat
namespace Go.Proofs.YtdchjefneblpgaaGreat
open Go.Sx Go.RowKit
theorem Wg(l:bm)(r:az)(h:l.cW<=9223372036854775807):(ef l r).1.cW<=9223372036854775807:=by
 unfold ef;split<;>exact h
theorem Wh(l:bm)(h:l.cW<=9223372036854775807):(fF l).1.cW<=9223372036854775807:=by
 unfold fF;split<;>exact h
theorem Wi(l:bm)(h:l.cW<=9223372036854775807):(dG l).1.cW<=9223372036854775807:=by
 unfold dG;split
 ·rename_i hk;obtain⟨_,_,_,_,kI,_,k6,_⟩:=pz.1 hk;simp only[av,ck]at kI;split
  ·exact h
  dsimp only;omega
 exact h
theorem fa.dc{c:aT}{i:Int}{l:bm}(h:fa c)(al:l.cW<=9223372036854775807):fa (dc c i l):=by
 intro x af;rcases iq af with h1 | rfl
 ·exact h x h1
 exact al
variable{c:aT}
theorem fa.at{i:Int}{x:bm}(h:ez c i=some x)(hw:fa c):x.cW<=9223372036854775807:=hw _ (c9 (iA h).2.2)
structure nV (c d:aT):Prop where
 ay:d.ay=c.ay
 cW:fa c->fa d
 wj:d.ar.length=c.ar.length
theorem nV.rfl:nV c c:=⟨Eq.refl _,id,Eq.refl _⟩
theorem nV.bJ{d:aT}(h1:d.ay=c.ay)(U:d.bJ=c.bJ)(aA:d.ar.length=c.ar.length:=by simp[setW,fV,cJ,dc,told,ew]):nV c d:=⟨h1,fun h x af=>h x (U▸af),aA⟩
theorem ard(c:aT)(e:Int)(t:bP)(x:aK):nV c (dE c e t x).1:=by
 unfold dE;split
 ·split
  ·exact .bJ rfl rfl
  split
  ·split
   ·exact .bJ rfl rfl
   exact .rfl
  split
  ·exact .bJ rfl rfl
  exact .bJ rfl rfl
 exact .rfl
theorem Nc(c:aT)(p:b'):nV c (cY c p).1:=by
 unfold cY;split
 ·unfold jg;split
  ·split
   ·exact .bJ rfl rfl
   exact .rfl
  exact .rfl
 split
 ·unfold jh;split
  ·split
   ·exact .bJ rfl rfl
   exact .rfl
  exact .rfl
 split
 ·unfold iS;split
  ·split
   ·split
    ·unfold rM;split
     ·exact .bJ rfl rfl
     split
     ·rename_i l al;split
      ·exact⟨rfl,fun h=>fa.dc h (Wg l _ (fa.at al h)),by simp[setW,dc]⟩
      exact .rfl
     exact .rfl
    exact .rfl
   exact .rfl
  exact .rfl
 split
 ·unfold jE;split
  ·split
   ·rename_i l x al af;split
    ·exact⟨rfl,fun h=>fa.dc h (Wi l (fa.at al h)),by simp[setW,dc]⟩
    exact .rfl
   exact .rfl
  exact .rfl
 split
 ·unfold ji;split
  ·split
   ·rename_i l al;exact⟨rfl,fun h=>fa.dc h (Wh l (fa.at al h)),by simp[setW,dc]⟩
   exact .rfl
  exact .rfl
 split
 ·unfold ij;split
  ·split
   ·split
    ·exact .rfl
    split
    ·exact ard c _ _ _
    exact .rfl
   exact .rfl
  exact .rfl
 split
 ·unfold jF;split
  ·split
   ·split
    ·exact .bJ rfl rfl
    exact .rfl
   exact .rfl
  exact .rfl
 exact .rfl
theorem G4{α:Type}{f:α->List D}{xs:List α}{a:α}:(xs++[a]).map f=xs.map f++[f a]:=by simp
def cU:aT->List b'->aT×List Bool
 | c,[]=>(c,[])
 | c,p::l=>((cU (cY c p).1 l).1,(cY c p).2::(cU (cY c p).1 l).2)
theorem Wj(p:b'):∀(l:List b') (c:aT),cU c (l++[p])=((cY (cU c l).1 p).1,(cU c l).2++[(cY (cU c l).1 p).2])
 | [],c=>rfl
 | q::l,c=>by
  have eg:=Wj p l (cY c q).1;simp only[List.cons_append,cU,eg]
theorem Nd{l:List b'}{i:Nat}{p:b'}(c:aT)(h:l[i]?=some p):cU c (l.take (i+1))=((cY (cU c (l.take i)).1 p).1,(cU c (l.take i)).2++[(cY (cU c (l.take i)).1 p).2]):=by
 rw[qH,h,yD,Wj]
theorem Cz:∀(l:List b') (c:aT),(cU c l).2.length=l.length
 | [],_=>rfl
 | q::l,c=>by simp only[cU,gQ,Cz l]
theorem CA:∀(l:List b') (c:aT),(cU c l).1.sz<=c.sz+4*l.length
 | [],c=>fg _
 | q::l,c=>by
  have:=CA l (cY c q).1;have:=arc c q;simp only[cU,gQ];omega
theorem nV.trans{d e:aT}(h:nV c d)(k:nV d e):nV c e:=⟨k.ay.trans h.ay,fun x=>k.cW (h.cW x),k.wj.trans h.wj⟩
theorem zT:∀(l:List b') (c:aT),nV c (cU c l).1
 | [],_=>.rfl
 | q::l,c=>(Nc c q).trans (zT l _)
theorem G5{α:Type}(i:Nat)(l:List α):(l.take i).length<=l.length:=by rw[nS];omega
theorem OK(c:aT)(l:List b')(i:Nat):(cU c (l.take i)).1.sz<=c.sz+4*l.length:=by
 have:=CA (l.take i) c;have:=G5 i l;omega
def mM(l:List Bool):Nat:=(l.filter id).length
theorem Wk(l:List Bool):mM l<=l.length:=pT _ _
theorem Wl(l:List Bool)(b:Bool):mM (l++[b])=mM l+(if b then 1 else 0):=by
 cases b<;>simp[mM]
end Go.Proofs.YtdchjefneblpgaaGreat
namespace Go.Proofs.YtdchjefneblpgaaGreat
open Go.Sx Go.RowKit
inductive Step (c:aT) (p:b'):aT->Prop
 | work (x:aK) (r:az) (q:List az) (hk:p.kind=1) (af:cc c p.a=some x) (ao:x.b8=[]) (aH:x.queue=r::q):
   Step c p (setW c p.a ⟨q,(dq c.ay x.cells r).2.1,x.bR,(dq c.ay x.cells r).1,x.bB,x.bL,(if cf c.ay r then x.bj.set r.bi.a8.toNat true else x.bj),x.bZ⟩)
 | input (x:aK) (r:az) (t:List az) (hk:p.kind=2) (af:cc c p.a=some x) (ao:x.b8=[]) (aH:x.queue=[]) (hi:x.bR=r::t):
   Step c p (setW c p.a ⟨[r],[],t,x.cells,x.bB,x.bL,x.bj,x.bZ⟩)
 | e3 (x:aK) (r:az) (t:List az) (hk:p.kind=3) (af:cc c p.a=some x) (ao:x.b8=r::t) (a7:eU r.key c.ay.ar=p.a):
   Step c p (setW c p.a (kept (hP x t) r))
 | send (x:aK) (r:az) (t:List az) (l:bm) (hk:p.kind=3) (af:cc c p.a=some x) (ao:x.b8=r::t) (a7:eU r.key c.ay.ar≠p.a)
   (al:ez c (dZ c.ay p.a (eU r.key c.ay.ar))=some l) (h:(ef l r).2=true):
   Step c p (setW (dc c (dZ c.ay p.a (eU r.key c.ay.ar)) (ef l r).1) p.a (mv (hP x t) r.bi.a8))
 | take (l:bm) (x:aK) (hk:p.kind=4) (eb:p.a≠p.b) (al:ez c (dZ c.ay p.a p.b)=some l) (af:cc c p.b=some x) (h:(dG l).2.2=true):
   Step c p (setW (dc c (dZ c.ay p.a p.b) (dG l).1) p.b (h8 x (dG l).2.1))
 | p0 (l:bm) (hk:p.kind=5) (eb:p.a≠p.b) (al:ez c (dZ c.ay p.a p.b)=some l) (h:(fF l).2=true):
   Step c p (dc c (dZ c.ay p.a p.b) (fF l).1)
 | token (t:bP) (x cE:aK) (hk:p.kind=6) (he:av p.a 0 3=true) (bO:cc c 0=some cE) (aE:ev cE p.a=false) (bG:hR c p.a=some t) (af:cc c t.place=some x) (h:(dE c p.a t x).2=true):
   Step c p (dE c p.a t x).1
 | p' (k:Nat) (n:bT) (x:aK) (hk:p.kind=7) (aZ:c.news[k]?=some n) (aE:n.dest=p.a) (af:cc c p.a=some x):
   Step c p (fV (setW c p.a (ee x n)) (cutAt c.news k))
theorem Wm(g:bV)(w:aK):((eX g w).2=false/\(eX g w).1=w)\/
  ((eX g w).2=true/\∃r q,w.b8=[]/\w.queue=r::q/\(eX g w).1=⟨q,(dq g w.cells r).2.1,w.bR,(dq g w.cells r).1,w.bB,w.bL,(if cf g r then w.bj.set r.bi.a8.toNat true else w.bj),w.bZ⟩):=by
 grind[eX]
theorem Wn(g:bV)(w:aK):((eY g w).2=false/\(eY g w).1=w)\/
  ((eY g w).2=true/\∃r t,w.b8=[]/\w.queue=[]/\w.bR=r::t/\(eY g w).1=⟨[r],[],t,w.cells,w.bB,w.bL,w.bj,w.bZ⟩):=by
 grind[eY]
theorem CB{l:bm}{r:az}(h:(ef l r).2=true):jf l=true/\l.eL≠0/\l.eo<1000000000/\(ef l r).1=⟨l.cap,l.queue++[r],l.eL-1,l.back,l.eo+1,l.cW⟩:=by
 unfold ef at h ⊢;grind
theorem xK{l:bm}(h:(dG l).2.2=true):jf l=true/\∃r q,l.queue=r::q/\(dG l).2.1=r/\(dG l).1=⟨l.cap,q,l.eL,l.back+1,l.eo,l.cW+1⟩:=by
 unfold dG at h ⊢;grind
theorem xL(l:bm):((fF l).2=false/\(fF l).1=l)\/((fF l).2=true/\jf l=true/\l.back≠0/\(fF l).1=⟨l.cap,l.queue,l.eL+1,l.back-1,l.eo,l.cW⟩):=by
 unfold fF;grind
theorem pB (c : aT) (e : Int) (t : bP) (x : aK) : ((dE c e t x).2 = false /\ (dE c e t x).1 = c) \/ ((dE c e t x).2 = true /\ ks x e = true /\
    ((t.going = false /\ (dE c e t x).1 = setW (cJ c e ⟨true, (c.ar.length : Int) - 1, 0, false, x.bj.getD e.toNat false⟩) t.place (ew x e)) \/
     (t.going = true /\ 0 < t.place /\ (dE c e t x).1 = setW (cJ c e ⟨true, t.place - 1, t.sum + x.bB.getD e.toNat 0, t.bL || x.bL.getD e.toNat false, t.cf || x.bj.getD e.toNat false⟩) t.place (ew x e)) \/
     (t.going = true /\ ¬ 0 < t.place /\ (t.bL = false /\ x.bL.getD e.toNat false = false /\ t.sum + x.bB.getD e.toNat 0 = 0) /\
       (dE c e t x).1 = fV (setW (cJ c e ⟨false, t.place, t.sum, t.bL, t.cf⟩) 0 (told x e (t.cf || x.bj.getD e.toNat false))) (c.news ++ gh (c.ar.length - 1) e (t.cf || x.bj.getD e.toNat false))) \/
     (t.going = true /\ ¬ 0 < t.place /\ ¬ (t.bL = false /\ x.bL.getD e.toNat false = false /\ t.sum + x.bB.getD e.toNat 0 = 0) /\ (dE c e t x).1 = cJ c e ⟨false, t.place, t.sum, t.bL, t.cf⟩))) := by
  unfold dE;split
  case isFalse => grind
  rename_i hp;cases ax : t.going with
  | false => grind
  | true =>
    rw [bw (by simp)];split
    · grind
    grind
theorem wa(c:aT)(p:b'):((cY c p).2=false/\(cY c p).1=c)\/(cB c=true/\(cY c p).2=true/\Step c p (cY c p).1):=by
 unfold cY;split
 ·rename_i hk;unfold jg;split
  case isFalse=>grind
  rename_i bW;cases af:cc c p.a with
  | none=>grind
  | some x=>
   rcases Wm c.ay x with⟨h1,U⟩ | ⟨h1,r,q,ao,aH,U⟩
   ·grind[um]
   refine .inr ⟨bW,h1,?_⟩;dsimp only;rw[U];exact .work x r q hk af ao aH
 split
 ·rename_i hk;unfold jh;split
  case isFalse=>grind
  rename_i bW;cases af:cc c p.a with
  | none=>grind
  | some x=>
   rcases Wn c.ay x with⟨h1,U⟩ | ⟨h1,r,t,ao,aH,hi,U⟩
   ·grind[um]
   refine .inr ⟨bW,h1,?_⟩;dsimp only;rw[U];exact .input x r t hk af ao aH hi
 split
 ·rename_i hk;unfold iS;split
  case isFalse=>grind
  rename_i bW;cases af:cc c p.a with
  | none=>grind
  | some x=>
   dsimp only;cases ao:x.b8 with
   | nil=>grind
   | cons r t=>
    dsimp only;unfold rM;split
    ·rename_i a7;exact .inr ⟨bW,rfl,.e3 x r t hk af ao a7⟩
    rename_i a7;cases al:ez c (dZ c.ay p.a (eU r.key c.ay.ar)) with
    | none=>grind
    | some l=>
     dsimp only;split
     ·rename_i h;exact .inr ⟨bW,rfl,.send x r t l hk af ao a7 al h⟩
     grind
 split
 ·rename_i hk;unfold jE;split
  case isFalse=>grind
  rename_i ak;simp only[cw,bne_iff_ne,l6]at ak;cases al:ez c (dZ c.ay p.a p.b) with
  | none=>grind
  | some l=>
   cases af:cc c p.b with
   | none=>grind
   | some x=>
    dsimp only;split
    ·rename_i h;exact .inr ⟨ak.1,rfl,.take l x hk ak.2 al af h⟩
    grind
 split
 ·rename_i hk;unfold ji;split
  case isFalse=>grind
  rename_i ak;simp only[cw,bne_iff_ne,l6]at ak;cases al:ez c (dZ c.ay p.a p.b) with
  | none=>grind
  | some l=>
   rcases xL l with⟨h1,U⟩ | ⟨h1,_⟩
   ·grind[apT]
   exact .inr ⟨ak.1,h1,.p0 l hk ak.2 al h1⟩
 split
 ·rename_i hk;unfold ij;split
  case isFalse=>grind
  rename_i ak;simp only[cw]at ak;cases bO:cc c 0 with
  | none=>grind
  | some cE=>
   cases bG:hR c p.a with
   | none=>grind
   | some t=>
    dsimp only;cases aE:ev cE p.a with
    | true=>grind
    | false=>
     rw[bw (by simp)];cases af:cc c t.place with
     | none=>grind
     | some x=>
      dsimp only;rcases pB c p.a t x with h1 | ⟨h1,_⟩
      ·exact .inl h1
      exact .inr ⟨ak.1,h1,.token t x cE hk ak.2 bO aE bG af h1⟩
 split
 ·rename_i hk;unfold jF;cases bF:c.news.findIdx? (fun n=>n.dest==p.a) with
  | none=>grind
  | some k=>
   dsimp only;split
   case isFalse=>grind
   rename_i bW;cases aZ:c.news[k]? with
   | none=>grind
   | some n=>
    cases af:cc c p.a with
    | none=>grind
    | some x=>
     dsimp only;have aE:n.dest=p.a:=by
      have:=uG.1 bF;grind
     exact .inr ⟨bW,rfl,.p' k n x hk aZ aE af⟩
 grind
theorem arf{c:aT}{p:b'}(h:(cY c p).2=false):(cY c p).1=c:=by
 grind[wa]
end Go.Proofs.YtdchjefneblpgaaGreat
namespace Go.Proofs.YtdchjefneblpgaaGreat
open Go.Sx Go.RowKit Go.Sort
def dd{α:Type}(f:α->Nat)(xs:List α):Nat:=(xs.map f).sum
theorem Gp{α:Type}{f:α->Nat}{y:α}(x:α){xs:List α}{i:Nat}(h:xs[i]?=some y):dd f (xs.set i x)+f y=dd f xs+f x:=by
 have:=xJ (sz:=f) x h;simp only[fs,hc]at this;unfold dd;omega
