import Derived.Test.YtdchjefneblpgaaGreatP40
import Derived.Test.YtdchjefneblpgaaGreatP43
set_option linter.unusedVariables false
set_option linter.unusedSimpArgs false
namespace Go.Proofs.YtdchjefneblpgaaGreat
open Go.Sx Go.RowKit Go.Proofs.Tryz
variable{l:bu}
theorem sU:iR l=true<->aq l.cap 1 4=true/\aq l.eO 0 l.cap=true/\aq l.back 0 l.cap=true/\l.eO+l.back+l.queue.length=l.cap/\aq l.fg 0 1000000000=true/\0<=l.dh/\l.dh=l.fg-l.queue.length/\(l.queue.any fun r=>!eR r)=false:=by
 simp only[iR,cF,h8,hP,cU,and_assoc]
variable{g:bR}
theorem xd{i:Nat}:iS g i l=false<->iR l=true/\l.cap=g.cap/\fB g l.queue=true/\((i:Int).tdiv g.ay=(i:Int).tmod g.ay->l.queue=[]):=by
 simp only[iS,gn,kg,bne_eq_false_iff_eq,Bool.and_eq_false_imp,hP,mu];simp_all
variable{r:aB}
theorem acx{i:Nat}(h:iS g i l=false)(aH:kB g r=false)(ai:(e8 l r).2=true)(aG:(i:Int).tdiv g.ay≠(i:Int).tmod g.ay):iS g i (e8 l r).1=false:=by
 obtain⟨h1,U,ax,aI⟩:=xd.1 h;unfold e8 at ai ⊢;split
 ·rename_i al;simp only[cF,bne_iff_ne,kL,cU]at al;obtain⟨⟨⟨_,l5⟩,nU⟩,Nq⟩:=al;obtain⟨c4,b8,fs,pa,jj,mT,jD,n4⟩:=sU.1 h1;refine xd.2 ⟨sU.2 ⟨c4,?_,fs,?_,?_,mT,?_,?_⟩,U,JG.2 ⟨ax,aH⟩,fun e=>(aG e).elim⟩
  ·simp only[aq,cU]at b8 ⊢;omega
  ·grind
  ·simp only[aq,cU]at jj ⊢;omega
  ·grind
  grind
 grind
theorem JJ{i:Nat}(h:iS g i l=false)(ai:(ek l).2.2=true):iS g i (ek l).1=false/\kB g (ek l).2.1=false:=by
 obtain⟨h1,U,ax,aI⟩:=xd.1 h;obtain⟨c4,b8,fs,pa,jj,mT,jD,n4⟩:=sU.1 h1;unfold ek at ai ⊢;rw[bM h1]at ai ⊢;split
 ·grind
 rename_i r q aK;rw[aK]at ax n4 pa jD aI;rw[rV]at ax;rw[xw,gn]at n4;simp only[gP]at pa jD;refine⟨xd.2 ⟨sU.2 ⟨c4,b8,?_,?_,jj,?_,?_,n4.2⟩,U,ax.2,fun e=>absurd (aI e) (by simp)⟩,ax.1⟩
 ·simp only[aq,cU]at b8 fs ⊢;omega
 ·grind
 ·grind
 grind
theorem acy{i:Nat}(h:iS g i l=false):iS g i (fX l).1=false:=by
 obtain⟨h1,U,ax,aI⟩:=xd.1 h;obtain⟨c4,b8,fs,pa,jj,mT,jD,n4⟩:=sU.1 h1;unfold fX;split
 ·rename_i al;simp only[cF,bne_iff_ne,kL]at al;refine xd.2 ⟨sU.2 ⟨c4,?_,?_,?_,jj,mT,jD,n4⟩,U,ax,aI⟩
  ·simp only[aq,cU]at b8 fs ⊢;omega
  ·simp only[aq,cU]at b8 fs ⊢;omega
  grind
 exact h
theorem JK{a b:Int}(a8:1<=g.ay/\g.ay<=4)(ag:aq a 0 (g.ay-1)=true)(aw:aq b 0 (g.ay-1)=true):
  e9 g a b=a*g.ay+b/\0<=a*g.ay+b/\a*g.ay+b<g.ay*g.ay/\(a*g.ay+b).tdiv g.ay=a/\(a*g.ay+b).tmod g.ay=b:=by
 have e:e9 g a b=a*g.ay+b:=by grind[e9]
 simp only[aq,cU]at ag aw;generalize g.ay=n at*;have b5:0<=a*n+b:=by have:=Int.mul_nonneg ag.1 (show 0<=n by omega);omega
 rw[Int.tdiv_eq_ediv_of_nonneg b5,Int.tmod_eq_emod_of_nonneg b5];have BO:n=1\/n=2\/n=3\/n=4:=by omega
 grind
variable{b:Int}
theorem zY{a:Int}(h:(aq a 0 (g.ay-1)&&aq b 0 (g.ay-1))=false):e9 g a b=-1:=by
 grind[e9]
variable{n:Int}
theorem acz(key:Int)(a8:1<=n):aq (jH key n) 0 (n-1)=true:=by
 have h1:=QP key n (by omega);have U:=Int.tmod_lt_of_pos key (show 0<n by omega);unfold jH;rw[bG (by omega)];simp only[aq,cU];grind
variable{c:bb}
theorem JL(h:cM c=true){a:Int}(ag:aq a 0 (c.aC.ay-1)=true)(aw:aq b 0 (c.aC.ay-1)=true):∃l,gM c (e9 c.aC a b)=some l:=by
 obtain⟨h1,U,ax,_⟩:=iy.1 h;obtain⟨e,b5,bJ,_⟩:=JK (nu h1) ag aw;simp_all[gM,bM,cS]
variable{i:Int}
theorem acA(h:gM c i=some l):((i.toNat:Nat):Int)=i:=by have:=(qp h).1;omega
theorem DC{c:bb}{i:Int}(b5:0<=i)(h1:i<c.ay.length):∃x,cZ c i=some x:=by
 simp_all[cZ,bM,cS]
variable{e:Int}
theorem acB(h:cM c=true)(he:aq e 0 3=true):∃t,iV c e=some t:=by
 have aI:=(iy.1 h).2.2.2.1;simp only[aq,cU]at he;unfold iV;rw[bM he.1];exact cS (by omega)
variable{t:bW}
theorem xe:ka n t=false<->(0<=t.place/\t.place<=n-1)/\(t.going=false->t.place=0)/\(-1000000<=t.sum/\t.sum<=1000000):=by
 simp only[ka,aq,gn,kg,cU,Bool.and_eq_false_imp,h8,bne_eq_false_iff_eq]
theorem zZ{j:Int}:cZ (dS c i l) j=cZ c j:=rfl
theorem z1{j:Int}:cZ (ef c i t) j=cZ c j:=rfl
theorem Sb:(dS c i l).aC=c.aC:=rfl
theorem Sc:(ef c i t).aC=c.aC:=rfl
variable{x:aR}
theorem acC:(setW c i x).aC=c.aC:=rfl
theorem acD{w o:Int}{t:List aB}(h:cM c=true)(ak:cZ c w=some x)(ai:x.ch=r::t)
  (aZ:aq o 0 (c.aC.ay-1)=true) (c3:o≠w) (ap:gM c (e9 c.aC w o)=some l) (hsend:(e8 l r).2=true):
  cM (setW (dS c (e9 c.aC w o) (e8 l r).1) w (ml (jI x t) r.bp.bc))=aq (x.bF.getD r.bp.bc.toNat 0+1) (-1000000) 1000000:=by
 obtain⟨h1,U,_⟩:=iy.1 h;obtain⟨w0,w1,_⟩:=jJ ak;obtain⟨ok,aH⟩:=JH (lB h ak) ai;obtain⟨e,j9,Hp,Yh,auC⟩:=JK (nu h1) (a:=w) (b:=o) (by simp only[aq,cU];omega) aZ;have cv:cM (dS c (e9 c.aC w o) (e8 l r).1)=true:=by
  grind[JE,acx,zX,acA]
 rw[sR cv (zZ.trans ak),Sb,ada ok (rW aH)];rfl
theorem acE{w:Int}{t:List aB}(h:cM c=true)(ak:cZ c w=some x)(ai:x.ch=r::t):cM (setW c w (kept (jI x t) r))=true:=by
 grind[JH,lB,sR,ac7]
theorem acF{k:Int}(h:cM c=true)(ap:gM c k=some l)(ak:cZ c b=some x)(bU:(ek l).2.2=true):
  cM (setW (dS c k (ek l).1) b (h6 x (ek l).2.1))=aq (x.bF.getD (ek l).2.1.bp.bc.toNat 0+-1) (-1000000) 1000000:=by
 obtain⟨c4,b8⟩:=JJ (zX h ap) bU;have cv:cM (dS c k (ek l).1)=true:=by grind[JE]
 rw[sR cv (zZ.trans ak),Sb,adb (lB h ak) b8]
theorem acG{c:bb}{w:Int}(h:cM c=true):cM (ft c w).1=true:=by
 unfold ft;rw[bM h];grind[sR,ado,lB]
theorem acH{c:bb}{w:Int}(h:cM c=true):cM (gV c w).1=true:=by
 unfold gV;rw[bM h];grind[sR,ade,lB]
theorem acI{c:bb}{a b:Int}(h:cM c=true):cM (kD c a b).1=true:=by
 grind[kD,JE,acy,zX]
theorem Sd{b:Bool}{m:Nat}(hm:(m:Int)=n-1)(he:aq e 0 3=true):(jo m e b).any (kb n)=false:=by
 rw[hg];intro x ak;simp only[jo,kK,List.mem_range]at ak;obtain⟨k,hk,rfl⟩:=ak;have h1:aq ((k:Int)+1) 0 (n-1)=true:=by simp only[aq,cU];omega
 simp_all[kb,iY,Bool.or_false,oz,not_false_eq_true]
theorem acJ{hf:aR}(h:cM c=true)(he:aq e 0 3=true)(bU:iV c e=some t)(ak:cZ c t.place=some x)(b5:cZ c 0=some hf)(aG:iQ hf e=false):cM (fu c e t x).1=true:=by
 obtain⟨h1,U,ax,aI,aX,bx,bN,db⟩:=iy.1 h;have a8:=nu h1;obtain⟨t1,t2,t3⟩:=xe.1 (JF h bU);have ok:=lB h ak;have TH:∀c5:bW,ka c.aC.ay c5=false->cM (ef c e c5)=true:=fun c5 k=>by grind[ac3]
 have both:∀c5:bW,ka c.aC.ay c5=false->cM (setW (ef c e c5) t.place (gj x e))=true:=fun c5 k=>by
  rw[sR (TH c5 k) (z1.trans ak),Sc,ac8 ok]
 unfold fu;split
 ·split
  ·exact both _ (xe.2 ⟨by grind,by simp,by simp⟩)
  rename_i av;split
  ·split
   ·rename_i hp aH;simp only[aq,cU]at aH;exact both _ (xe.2 ⟨by grind,by simp,aH⟩)
   exact h
  rename_i hp;have bB:t.place=0:=by omega
  have NL:=TH ⟨false,t.place,t.sum,t.bO,t.dm⟩ (xe.2 ⟨t1,fun _=>bB,t3⟩);split
  ·rw[bB]at ak;have aum:hf=x:=by grind
   have kw:cM (setW (ef c e ⟨false,t.place,t.sum,t.bO,t.dm⟩) 0 (told x e (t.dm||x.br.getD e.toNat false)))=true:=by
    rw[sR NL (z1.trans ak),Sc];grind[R7]
   rw[R6 kw,List.any_append];have e1:(setW (ef c e ⟨false,t.place,t.sum,t.bO,t.dm⟩) 0 (told x e (t.dm||x.br.getD e.toNat false))).aC=c.aC:=rfl;grind[Sd]
  exact NL
 exact h
theorem acK{c:bb}{e:Int}(h:cM c=true):cM (kE c e).1=true:=by
 unfold kE;split
 ·rename_i al;rw[cF]at al;grind[acJ]
 exact h
theorem Se{k:Nat}{n:b7}(h:cM c=true)(a8:c.news[k]?=some n):kb c.aC.ay n=false:=by
 have db:=(iy.1 h).2.2.2.2.2.2.2;grind
theorem acL{α:Type}{p:α->Bool}{xs:List α}{k:Nat}(h:xs.any p=false):(cutAt xs k).any p=false:=by
 rw[hg]at h ⊢;intro a ag;rcases lM.1 ag with ag | ag
 ·grind
 grind
theorem acM{c:bb}{w:Int}(h:cM c=true):cM (lA c w).1=true:=by
 unfold lA;split
 ·rw[bM h];split
  ·rename_i n x a8 ak;have aw:=Se h a8;simp only[kb,gn,kg]at aw;have kw:cM (setW c w (hV x n))=true:=by grind[sR,ac9,lB]
   rw[R6 kw,acC,acL (iy.1 h).2.2.2.2.2.2.2];rfl
  exact h
 exact h
theorem u0{α:Type}{sz:α->Nat}{y:α}(x:α):∀{xs:List α} {i:Nat},xs[i]?=some y->eZ sz (xs.set i x)+sz y=eZ sz xs+sz x
 | [],i,h=>by simp at h
 | a::xs,0,h=>by
  grind[eZ,List.set_cons_zero,gP,lL,A2]
 | a::xs,i+1,h=>by
  grind[u0,eZ,List.set_cons_succ,gP,lL,A2]
theorem tp{c:bb}{x y:aR}(h:cZ c i=some y):(setW c i x).sz+y.sz=c.sz+x.sz:=by
 have:=u0 (sz:=aR.sz) x (jJ h).2.2;grind[setW,bb.sz]
theorem JM{x y:bu}(h:gM c i=some y):(dS c i x).sz+y.sz=c.sz+x.sz:=by
 have:=u0 (sz:=bu.sz) x (qp h).2.2;grind[dS,bb.sz]
theorem DE{x:bW}:(ef c i x).sz=c.sz:=by
 grind[ef,bb.sz,gp]
theorem Sf{c:bb}{x:List b7}:(js c x).sz+c.news.length=c.sz+x.length:=by
 grind[js,bb.sz]
theorem JN(g:bR)(w:aR):(ec g w).1.sz<=w.sz+2:=by
 unfold ec;split
 ·rename_i al;rw[cF]at al;split
  ·grind[abn,aR.sz,gP,dR,gp]
  grind
 grind
theorem Sg(g:bR)(w:aR):(eo g w).1.sz<=w.sz:=by
 unfold eo;split
 ·split
  ·grind[aR.sz,gP,dR]
  grind
 grind
theorem Sh{w:aR}{t:List aB}(h:w.ch=r::t):(jI w t).sz+1=w.sz:=by
 grind[jI,aR.sz,gP]
theorem acN(w:aR)(r:aB):(kept w r).sz=w.sz+1:=by
 grind[kept,aR.sz,kI,gP,dR]
theorem acO(w:aR)(e:Int):(ml w e).sz=w.sz:=by
 grind[ml,lr,aR.sz,gp]
theorem Si(w:aR)(r:aB):(h6 w r).sz=w.sz+1:=by
 simp only[h6,lr,aR.sz,gp,kI,gP,dR];omega
theorem acP(w:aR)(e:Int):(gj w e).sz=w.sz:=by
 grind[gj,aR.sz,gp]
theorem Ru(w:aR)(e:Int)(b:Bool):(told w e b).sz=w.sz+1:=by
 grind[told,aR.sz,kI,gP,dR]
theorem acQ(w:aR)(n:b7):(hV w n).sz<=w.sz+1:=by
 grind[hV,Ru]
theorem Rv(l:bu)(r:aB):(e8 l r).1.sz<=l.sz+1:=by
 grind[e8,bu.sz]
theorem Rw(l:bu):(ek l).1.sz<=l.sz:=by
 unfold ek;split
 ·split
  ·grind
  grind[bu.sz]
 grind
theorem Rx(l:bu):(fX l).1.sz=l.sz:=by
 unfold fX;split<;>rfl
theorem acR{α:Type}(xs:List α)(k:Nat):(cutAt xs k).length<=xs.length:=by
 grind[cutAt,kI,tH,List.length_drop]
theorem acS(hw:c.ay.length<=4)(ak:cZ c t.place=some x)(b5:0<=t.place):(fu c e t x).1.sz<=c.sz+4:=by
 unfold fu;have w1:∀c5,(setW (ef c e c5) t.place (gj x e)).sz+x.sz=c.sz+x.sz:=fun c5=>by
  have:=tp (c:=ef c e c5) (x:=gj x e) (z1.trans ak);grind[DE,acP]
 split
 ·split
  ·grind
  split
  ·grind
  rename_i hp;have bB:t.place=0:=by omega
  split
  ·rw[bB]at ak;have a:=tp (c:=ef c e ⟨false,t.place,t.sum,t.bO,t.dm⟩) (x:=told x e (t.dm||x.br.getD e.toNat false)) (z1.trans ak);rw[DE,Ru]at a;have b:=Sf (c:=setW (ef c e ⟨false,t.place,t.sum,t.bO,t.dm⟩) 0 (told x e (t.dm||x.br.getD e.toNat false))) (x:=c.news++jo (c.ay.length-1) e (t.dm||x.br.getD e.toNat false));have d:(setW (ef c e ⟨false,t.place,t.sum,t.bO,t.dm⟩) 0 (told x e (t.dm||x.br.getD e.toNat false))).news=c.news:=rfl;grind[kI,jo,cf,xy]
  grind[DE]
 grind
theorem acT(h:cM c=true):c.ay.length<=4:=by
 obtain⟨h1,U,_⟩:=iy.1 h;have:=nu h1;omega
theorem JO(c:bb)(p:c9):(eB c p).1.sz<=c.sz+4:=by
 have dq:c.sz<=c.sz+4:=by omega
 unfold eB;split
 ·grind[ft,tp,ec,JN]
 split
 ·grind[gV,tp,eo,Sg]
 split
 ·unfold ly;split
  ·split
   ·rename_i x ak;split
    ·rename_i r t ai;have hu:=Sh ai;unfold sQ;split
     ·grind[tp,kept,jI,acN]
     split
     ·rename_i l ap;split
      ·have a:=JM (x:=(e8 l r).1) ap;have b:=tp (c:=dS c (e9 c.aC p.a (jH r.key c.aC.ay)) (e8 l r).1) (x:=ml (jI x t) r.bp.bc) (zZ.trans ak);grind[acO,Rv]
      exact dq
     exact dq
    exact dq
   exact dq
  exact dq
 split
 ·unfold lz;split
  ·split
   ·rename_i l x ap ak;split
    ·have a:=JM (x:=(ek l).1) ap;have b:=tp (c:=dS c (e9 c.aC p.a p.b) (ek l).1) (x:=h6 x (ek l).2.1) (zZ.trans ak);grind[Si,Rw]
    exact dq
   exact dq
  exact dq
 split
 ·grind[kD,JM,fX,Rx]
 split
 ·unfold kE;split
  ·rename_i al;rw[cF]at al;grind[acS,acT,jJ]
  exact dq
 split
 ·unfold lA;split
  ·rename_i k hk;split
   ·split
    ·rename_i n x a8 ak;have a:=tp (x:=hV x n) ak;grind[Sf,setW,hV,cutAt,acQ,acR]
    exact dq
   exact dq
  exact dq
 exact dq
end Go.Proofs.YtdchjefneblpgaaGreat
namespace Go.Proofs.YtdchjefneblpgaaGreat
open Go.Sx Go.RowKit Go.Proofs.Tryz
def k8(c:bb)(b:Bool):List D:=[.J 4 (c.aC.nodes.map Node.e),I c.aC.ay,I c.aC.cap,.J 8 (c.ay.map aR.e),.J 6 (c.bV.map bu.e),.J 5 (c.tokens.map bW.e),.J 3 (c.news.map b7.e),B b]
abbrev fb(c:bb):List D:=k8 c (cM c)
theorem z6(c:bb)(al:c.sz<=8388608)(hw:gb c):bT prog 127 [.ro (.agg c.e)] (.new (fb c)):=
 aem ⟨adw c al,acX c al hw,aa⟩
variable{i:Nat}
theorem Ry{α:Type}{f:α->List D}{xs:List α}{a:α}:(xs.map f).set i (f a)=(xs.set i a).map f:=List.map_set.symm
variable{c:bb}{x:aR}
theorem nv{i:Int}(h:cZ c i=some x):0<=i/\i<(↑(c.ay.map aR.e).length:Int)/\(c.ay.map aR.e)[i.toNat]?=some x.e:=by
 obtain⟨h1,U,ax⟩:=jJ h;exact⟨h1,by rw[cf];omega,bC aR.e ax⟩
theorem qy{i:Int}(h:cZ c i=some x)(al:c.sz<=8388608):x.sz<=8388608:=bb.Am al (eA (jJ h).2.2)
theorem acU{l:List b7}(hi:i<l.length):([]++((l.map b7.e).drop 0).take (((some (i:Int)).getD (↑(l.map b7.e).length:Int)).toNat-0)++((l.map b7.e).drop ((some ((i:Int)+1)).getD 0).toNat).take ((l.map b7.e).length-((some ((i:Int)+1)).getD 0).toNat))=(cutAt l i).map b7.e:=by
 have e1:((i:Int)+1).toNat=i+1:=by omega
 simp only[cutAt,jM,pP,Nat.sub_zero,vB,List.nil_append,e1,gY,qQ,List.map_drop]
 congr 1
 rw[xr (by simp)]
theorem Rz{l:List b7}:((l.map b7.e).drop ((some ((i:Int)+1)).getD 0).toNat).take ((l.map b7.e).length-((some ((i:Int)+1)).getD 0).toNat)=(l.drop (i+1)).map b7.e:=by
 have e1:((i:Int)+1).toNat=i+1:=by omega
 simp only[jM,e1,List.map_drop];rw[xr (by simp)]
theorem RA(h:cM c=true){n:b7}(a8:c.news[i]?=some n){w:Int}(hw:(n.dest==w)=true):∃x,cZ c w=some x:=by
 have aw:=Se h a8;simp only[kb,aq,gn,kg,cU]at aw;have U:=(iy.1 h).2.1;have e:=eq_of_beq hw;exact DC (by omega) (by omega)
theorem DF{α:Type}{f:α->List D}(h:∀a,∀d∈f a,∃x,d=.v x){l:List (List D)}{xs:List α}(ap:l=xs.map f):Flat l:=ap▸dA f h xs
theorem acV{w:Int}{n:b7}(h1:c.news.findIdx? (fun n=>n.dest==w)=some i)(cJ:cM c=true)(a8:c.news[i]?=some n)(ak:cZ c w=some x):lA c w=(js (setW c w (hV x n)) (cutAt c.news i),true):=by
 unfold lA;simp only[h1,cJ,gC,a8,ak]
theorem acW(c:bb)(w:Int)(al:c.sz<=8388608):bT prog 247 [.ref (fb c) (fb (lA c w).1),.ro (.one (I w))] (.vals [.one (B (lA c w).2)]):=by
 have ap:=Dz al;have BR:=fun h=>acM (c:=c) (w:=w) h
 cases cJ:cM c with
 | false=>
  have e:lA c w=(c,false):=by
   unfold lA;split<;>simp[cJ]
  rw[e];simp only[fb,cJ];cases a8:c.news with
  | nil=>
   have l:cW prog (ao f247 0) (pE w 0 (c.aC.nodes.map Node.e) c.aC.ay c.aC.cap (c.ay.map aR.e) (c.bV.map bu.e) (c.tokens.map bW.e) (c.news.map b7.e) false) (.exit 0) _:=.last (cH 0) (RL ⟨by simp[a8],aa⟩);exact Jg ⟨l,aa⟩
  | cons a l=>
   have l:cW prog (ao f247 0) (pE w 0 (c.aC.nodes.map Node.e) c.aC.ay c.aC.cap (c.ay.map aR.e) (c.bV.map bu.e) (c.tokens.map bW.e) (c.news.map b7.e) false) (.exit 0) _:=.last (cH 0) (adA ⟨dM (by simp[a8]<;>omega),rfl,aa⟩);exact Jg ⟨l,aa⟩
 | true=>
  have BR:=BR cJ;have l:=gy (P:=prog) (c:=(ao f247 0)) c.news (fun n=>n.dest==w) (fun i=>pE w i (c.aC.nodes.map Node.e) c.aC.ay c.aC.cap (c.ay.map aR.e) (c.bV.map bu.e) (c.tokens.map bW.e) (c.news.map b7.e) true)
   (X:=fun i n=>match cZ c w with
    | some x=>DG true (c.aC.nodes.map Node.e) c.aC.ay c.aC.cap ((setW c w (hV x n)).ay.map aR.e) (c.bV.map bu.e) (c.tokens.map bW.e) ((cutAt c.news i).map b7.e) true
    | none=>⟨[],[]⟩) e7 (cH 0)
   (fun i a ag h=>aen ⟨b6 (a1 ag),rfl,bw,bE (a1 ag),bA b7.e ag,by simp only[bne,h];rfl,dc (a1 ag) ap,aa⟩)
   (fun i a ag h=>by
    obtain⟨x,ak⟩:=RA cJ ag h;have hi:=a1 ag;obtain⟨w0,w1,jL⟩:=nv ak;have ai:=qy ak al;simp only[ak];rw[<-acU hi];cases aG:iQ x a.bc with
    | true=>
     rw[show hV x a=x by unfold hV;rw[aG];rfl,sS ak];exact adz ⟨b6 hi,rfl,bw,bE hi,bA b7.e ag,by simp only[bne,h];rfl,by simp,by simp,by simp;omega,by simp;omega,by simp;omega,DF (xs:=c.news.take i) b7.flat (by simp),dc hi ap,by simp;omega,by simp;omega,by simp,by simp;omega,by simp;omega,DF (xs:=c.news.drop (i+1)) b7.flat Rz,w0,w1,jL,Kc x a.bc true aG ai,rfl,aa⟩
    | false=>
     have rb:x.bZ.length<=8388608:=by simp only[aR.sz]at ai;omega
     have e2:(setW c w (hV x a)).ay.map aR.e=(c.ay.map aR.e).set w.toNat (told x a.bc a.dm).e:=by
      rw[show hV x a=told x a.bc a.dm by unfold hV;rw[aG];rfl];exact Ry.symm
     rw[e2];have cb:(told x a.bc a.dm).e=[.J 5 (x.queue.map aB.e),.J 5 (x.ch.map aB.e),.J 5 (x.b3.map aB.e),.J 4 (x.cells.map Cell.e),.J 1 (x.bF.map a6),.J 1 (x.bO.map cq),.J 1 (x.br.map cq),.J 2 (x.bZ.map cw.e++[[I a.bc,B a.dm]])]:=by
      simp only[told,aR.e,gY];rfl
     rw[cb];exact aeo ⟨b6 hi,rfl,bw,bE hi,bA b7.e ag,by simp only[bne,h];rfl,by simp,by simp,by simp;omega,by simp;omega,by simp;omega,DF (xs:=c.news.take i) b7.flat (by simp),dc hi ap,by simp;omega,by simp;omega,by simp,by simp;omega,by simp;omega,DF (xs:=c.news.drop (i+1)) b7.flat Rz,w0,w1,jL,Kc x a.bc false aG ai,rfl,w0,w1,jL,by simp;omega,by simp;omega,jL,rfl,fV (cw.flat ⟨a.bc,a.dm⟩),rfl,rfl,rfl,rfl,rfl,rfl,rfl,rfl,rfl,rfl,rfl,w0,w1,jL,rfl,aa⟩)
   (RL ⟨dz,aa⟩)
  rcases l with⟨_,h1,_,U⟩ | ⟨i,a,ag,hp,_,h1,_,U⟩
  ·have e:lA c w=(c,false):=by unfold lA;simp only[h1]
   rw[e];simp only[fb,cJ];exact Jg ⟨U,aa⟩
  obtain⟨x,ak⟩:=RA cJ ag hp;rw[acV h1 cJ ag ak]at BR ⊢;simp only[ak]at U;simp only[fb,cJ,BR];exact adB ⟨U,aa⟩
end Go.Proofs.YtdchjefneblpgaaGreat
namespace Go.Proofs.YtdchjefneblpgaaGreat
open Go.Sx Go.RowKit Go.Proofs.Tryz
theorem VD(a b:Nat):(((a:Int)+(b:Int))==0)=(a+b==0):=by
 rw[Bool.eq_iff_iff];simp only[hP];omega
theorem acm(w:aR)(e:Int)(hw:w.sz<=8388608):ar 342 [.agg w.e,.one (I e)] [.one (B (zW w e))]:=by
 have ap:w.b3.length<=8388608:=by simp only[aR.sz]at hw;omega
 have l:=gy (P:=prog) (c:=(ao f342 0)) w.b3 (fun r=>decide (r.bp.bc<=e)) (fun i=>u1 (w.queue.map aB.e) (w.ch.map aB.e) (w.b3.map aB.e) (w.cells.map Cell.e) (w.bF.map a6) (w.bO.map cq) (w.br.map cq) (w.bZ.map cw.e) e i) (X:=fun _ _=>Jh true) e7 (cH 0)
  (fun i a ag h=>adW ⟨b6 (a1 ag),bw,bE (a1 ag),bA aB.e ag,h,dc (a1 ag) ap,aa⟩)
  (fun i a ag h=>adV ⟨b6 (a1 ag),bw,bE (a1 ag),bA aB.e ag,h,aa⟩)
  (adX ⟨dz,aa⟩)
 unfold zW;rcases l with⟨_,_,h1,U⟩ | ⟨i,a,_,_,_,_,h1,U⟩
 ·rw[h1];exact adp ⟨U,aa⟩
 rw[h1];exact adY ⟨U,aa⟩
theorem acn(w:aR)(e:Int)(hw:w.sz<=8388608):ar 343 [.agg w.e,.one (I e)] [.one (I ((↑((pC e w.queue).map aB.e).length:Int)+(↑((pC e w.ch).map aB.e).length:Int)))]:=by
 simp only[aR.sz]at hw;have c4:(pC e w.queue).length<=w.queue.length:=qK _ _;have b8:(pC e w.ch).length<=w.ch.length:=qK _ _;exact ads ⟨QJ w.queue e (by omega),QJ w.ch e (by omega),⟨by simp only[cf];omega,by simp only[cf];omega⟩,aa⟩
theorem aco(w:aR)(e:Int)(hw:w.sz<=8388608):ar 316 [.agg w.e,.one (I e)] [.one (B (kC w e))]:=by
 have o:=acm w e hw;unfold kC;cases h:zW w e with
 | true=>rw[h]at o;exact adr ⟨o,rfl,aa⟩
 | false=>
  rw[h]at o;have a:=acn w e hw;rw[cf,cf]at a;have b:=adq ⟨o,rfl,a,aa⟩;rw[VD]at b;exact b
theorem RB(w:aR)(e:Int)(r:Bool)(h:kC w e=r)(hw:w.sz<=8388608):ar 316 [.agg w.e,.one (I e)] [.one (B r)]:=h▸aco w e hw
end Go.Proofs.YtdchjefneblpgaaGreat
namespace Go.Proofs.YtdchjefneblpgaaGreat
open Go.Sx Go.RowKit Go.Proofs.Tryz
variable{c:bb}
theorem acp{i:Int}{t:bW}(h:iV c i=some t):0<=i/\i<(↑(c.tokens.map bW.e).length:Int)/\(c.tokens.map bW.e)[i.toNat]?=some t.e:=by
 obtain⟨h1,U,ax⟩:=DB h;exact⟨h1,by rw[cf];omega,bC bW.e ax⟩
variable{e:Int}
theorem G3{xs:List Int}(aI:xs.length=4)(he:0<=e/\e<=3):e<(↑(xs.map a6).length:Int)/\(xs.map a6)[e.toNat]?=some [I (xs.getD e.toNat 0)]:=by
 have ap:e.toNat<xs.length:=by omega
 refine⟨by rw[cf];omega,?_⟩;rw[dr,iZ ap,jZ,iZ ap];rfl
theorem tX{xs:List Bool}(aI:xs.length=4)(he:0<=e/\e<=3):e<(↑(xs.map cq).length:Int)/\(xs.map cq)[e.toNat]?=some [B (xs.getD e.toNat false)]:=by
 have ap:e.toNat<xs.length:=by omega
 refine⟨by rw[cf];omega,?_⟩;rw[dr,iZ ap,jZ,iZ ap];rfl
theorem q3{l:List (List D)}{i:Int}{a:List D}(b5:0<=i)(h:i<(↑l.length:Int)):(l.set i.toNat a)[i.toNat]?=some a:=List.getElem?_set_self (by omega)
theorem RC(x:aR)(e:Int):(gj x e).e=[.J 5 (x.queue.map aB.e),.J 5 (x.ch.map aB.e),.J 5 (x.b3.map aB.e),.J 4 (x.cells.map Cell.e),.J 1 (x.bF.map a6),.J 1 ((x.bO.map cq).set e.toNat [B false]),.J 1 (x.br.map cq),.J 2 (x.bZ.map cw.e)]:=by
 simp only[gj,aR.e,ju];rfl
theorem acq(x:aR)(e:Int)(b:Bool):(told x e b).e=[.J 5 (x.queue.map aB.e),.J 5 (x.ch.map aB.e),.J 5 (x.b3.map aB.e),.J 4 (x.cells.map Cell.e),.J 1 (x.bF.map a6),.J 1 (x.bO.map cq),.J 1 (x.br.map cq),.J 2 (x.bZ.map cw.e++[[I e,B b]])]:=by
 simp only[told,aR.e,gY];rfl
theorem RD(c:bb)(e p:Int)(t:bW)(y:aR)(b:Bool):k8 (setW (ef c e t) p y) b=[.J 4 (c.aC.nodes.map Node.e),I c.aC.ay,I c.aC.cap,.J 8 ((c.ay.map aR.e).set p.toNat y.e),.J 6 (c.bV.map bu.e),.J 5 ((c.tokens.map bW.e).set e.toNat t.e),.J 3 (c.news.map b7.e),B b]:=by
 simp only[setW,ef,k8,ju]
theorem acr(c:bb)(e:Int)(t:bW)(b:Bool):k8 (ef c e t) b=[.J 4 (c.aC.nodes.map Node.e),I c.aC.ay,I c.aC.cap,.J 8 (c.ay.map aR.e),.J 6 (c.bV.map bu.e),.J 5 ((c.tokens.map bW.e).set e.toNat t.e),.J 3 (c.news.map b7.e),B b]:=by
 simp only[ef,k8,ju]
theorem acs(n:Nat)(e:Int)(b:Bool):jo (n+1) e b=jo n e b++[⟨(n:Int)+1,e,b⟩]:=by simp[jo,List.range_succ]
theorem acu(n:Nat)(e:Int)(b:Bool):(jo n e b).length=n:=by simp[jo]
theorem acv{hf x:aR}{t:bW}(ok:cM c=true)(he:aq e 0 3=true)(b5:cZ c 0=some hf)(bU:iV c e=some t)(aG:iQ hf e=false)(ak:cZ c t.place=some x):kE c e=fu c e t x:=by
 unfold kE;simp only[ok,he,Bool.and_self,gC,b5,bU,aG,oz,lN,ak]
theorem acw(ok:cM c=true)(he:aq e 0 3=true):∃hf t x,cZ c 0=some hf/\iV c e=some t/\cZ c t.place=some x/\0<c.ay.length/\c.ay.length<=4/\
  (0<=t.place/\t.place<=3)/\(t.going=false->t.place=0)/\(-1000000<=t.sum/\t.sum<=1000000)/\x.bF.length=4/\x.bO.length=4/\x.br.length=4/\(-1000000<=x.bF.getD e.toNat 0/\x.bF.getD e.toNat 0<=1000000):=by
 obtain⟨h1,U,ax,aI,aX,bx,bN,db⟩:=iy.1 ok;have a8:=nu h1;obtain⟨hf,b5⟩:=DC (c:=c) (i:=0) (by omega) (by omega);obtain⟨t,bU⟩:=acB ok he;obtain⟨t1,t2,t3⟩:=xe.1 (JF ok bU);obtain⟨x,ak⟩:=DC (c:=c) (i:=t.place) (by omega) (by omega);obtain⟨_,_,_,_,jj,mT,jD,_,ry,_⟩:=iz.1 (lB ok ak);refine⟨hf,t,x,b5,bU,ak,by omega,by omega,by omega,t2,t3,jj,mT,jD,?_⟩;simp only[aq,cU]at he;have ap:e.toNat<x.bF.length:=by omega
 rw[hg]at ry;have:=ry _ (qM ap);rw[jZ,iZ ap,jM];simpa only[mj,h8,kg,aq,cU,tJ,Bool.not_not,Bool.not_eq_eq_eq_not,iY,mu,Classical.not_not]using this
theorem RE(c:bb)(e:Int)(x:aR)(r:Bool)(b5:cZ c 0=some x)(aG:iQ x e=r)(al:c.sz<=8388608):ar 315 [.agg c.e,.one (I e)] [.one (B r)]:=by
 obtain⟨w0,w1,jL⟩:=nv b5;exact adU ⟨dM (by omega),w0,w1,jL,Kc x e r aG (qy b5 al),aa⟩
theorem adZ(c:bb)(b:Bool)(x:aR)(e:Int)(cap:Bool)(b5:cZ c 0=some x)(aI:c.ay.length<=4)(al:c.sz<=8388608):
  bT prog 317 [.ref (k8 c b) (k8 (js (setW c 0 (told x e cap)) (c.news++jo (c.ay.length-1) e cap)) b),.ro (.one (I e)),.ro (.one (B cap))] (.vals []):=by
 obtain⟨w0,w1,jL⟩:=nv b5;have a8:=Dz al;have ai:=qy b5 al;have rb:x.bZ.length<=8388608:=by simp only[aR.sz]at ai;omega
 have hlen:=(jJ b5).2.1;have su:((setW c 0 (told x e cap)).ay.map aR.e).length=c.ay.length:=by simp[setW]
 have l:=eN (P:=prog) (c:=(ao f317 0)) (cH 0) (c.ay.length-1) (fun i:Nat=>zo e cap ((i:Int)+1) (c.aC.nodes.map Node.e) c.aC.ay c.aC.cap ((setW c 0 (told x e cap)).ay.map aR.e) (c.bV.map bu.e) (c.tokens.map bW.e) ((c.news++jo i e cap).map b7.e) b) (fun i hi=>by
  have hm:=acu i e cap;rw[acs,<-tI,gY (l₂:=[_])];exact adC ⟨dM (by rw[su];omega),by simp;omega,by simp;omega,fV (b7.flat ⟨(i:Int)+1,e,cap⟩),⟨by omega,by omega⟩,aa⟩) (adD ⟨eL (by rw[su];omega),aa⟩)
 have e2:(setW c 0 (told x e cap)).ay.map aR.e=(c.ay.map aR.e).set 0 [.J 5 (x.queue.map aB.e),.J 5 (x.ch.map aB.e),.J 5 (x.b3.map aB.e),.J 4 (x.cells.map Cell.e),.J 1 (x.bF.map a6),.J 1 (x.bO.map cq),.J 1 (x.br.map cq),.J 2 (x.bZ.map cw.e++[[I e,B cap]])]:=by
  rw[<-acq];exact Ry.symm
 have bB:jo 0 e cap=[]:=rfl;rw[e2,bB,lc]at l;have g':k8 (js (setW c 0 (told x e cap)) (c.news++jo (c.ay.length-1) e cap)) b=[.J 4 (c.aC.nodes.map Node.e),I c.aC.ay,I c.aC.cap,.J 8 ((setW c 0 (told x e cap)).ay.map aR.e),.J 6 (c.bV.map bu.e),.J 5 (c.tokens.map bW.e),.J 3 ((c.news++jo (c.ay.length-1) e cap).map b7.e),B b]:=rfl;rw[g',e2];exact adE ⟨by omega,w1,jL,by simp;omega,by simp;omega,jL,rfl,fV (cw.flat ⟨e,cap⟩),rfl,rfl,rfl,rfl,rfl,rfl,rfl,by omega,w1,jL,rfl,l,aa⟩
theorem ad0(c:bb)(e:Int)(al:c.sz<=8388608):bT prog 246 [.ref (fb c) (fb (kE c e).1),.ro (.one (I e))] (.vals [.one (B (kE c e).2)]):=by
 have post:=fun h=>acK (c:=c) (e:=e) h
 cases ok:cM c with
 | false=>
  rw[show kE c e=(c,false) by unfold kE;simp[ok]];simp only[fb,ok];exact adF ⟨rfl,aa⟩
 | true=>
 replace post:=post ok;cases he:aq e 0 3 with
 | false=>
  rw[show kE c e=(c,false) by unfold kE;simp[he]];simp only[fb,ok];exact adG ⟨rfl,fk _ he,rfl,aa⟩
 | true=>
 have he:=he;obtain⟨hf,t,x,b5,bU,ak,F0,yn,Xo,WN,aue,rm,yb,BG,yF⟩:=acw ok he;have uj:0<=e/\e<=3:=by simpa only[aq,cU]using he
 obtain⟨eu,iW,iX⟩:=acp bU;obtain⟨dw,dI,dH⟩:=nv ak;obtain⟨auR,auS,auT⟩:=nv b5;obtain⟨pL,pM⟩:=G3 rm uj;obtain⟨pb,mU⟩:=tX yb uj;obtain⟨Bl,Bm⟩:=tX BG uj;have dN:=qy ak al;have rb:x.bZ.length<=8388608:=by simp only[aR.sz]at dN;omega
 have M6:(↑(c.ay.map aR.e).length:Int)=(c.ay.length:Int):=by rw[cf]
 cases aG:iQ hf e with
 | true=>
  rw[show kE c e=(c,false) by unfold kE;simp only[ok,he,Bool.and_self,gC,b5,bU,aG]];simp only[fb,ok];exact adH ⟨rfl,fk _ he,rfl,RE c e hf true b5 aG al,rfl,aa⟩
 | false=>
 rw[acv ok he b5 bU aG ak]at post ⊢;have rd:=RE c e hf false b5 aG al;have ou:=fk _ he;cases hp:kC x e with
 | false=>
  rw[show fu c e t x=(c,false) by unfold fu;simp[hp]];simp only[fb,ok];exact adI ⟨rfl,ou,rfl,rd,rfl,eu,iW,iX,dw,dI,dH,RB x e _ hp dN,rfl,aa⟩
 | true=>
 have po:=RB x e _ hp dN;have lm:aJ .i64 (t.sum+x.bF.getD e.toNat 0):=⟨by omega,by omega⟩
 simp only[fb,ok,post];clear post;obtain⟨TM,tB,ts,tb,fY⟩:=t;dsimp only at*;cases TM with
 | false=>
  obtain rfl:tB=0:=WN rfl;rw[show fu c e ⟨false,0,ts,tb,fY⟩ x=(setW (ef c e ⟨true,(c.ay.length:Int)-1,0,false,x.br.getD e.toNat false⟩) 0 (gj x e),true) by simp only[fu,hp,gC,nG]];dsimp only;rw[RD,RC,<-M6];exact adJ ⟨rfl,ou,rfl,rd,rfl,eu,iW,iX,dw,dI,dH,po,rfl,eu,pL,pM,lm,rfl,⟨by omega,by omega⟩,eu,Bl,Bm,eu,iW,iX,by omega,dI,dH,eu,pb,mU,dH,rfl,rfl,rfl,rfl,rfl,aa⟩
 | true=>
 by_cases mO:0<tB
 case pos=>
  have oJ:decide (tB>0)=true:=dM mO;cases aH:aq (ts+x.bF.getD e.toNat 0) (-1000000) 1000000 with
  | false=>
   rw[show fu c e ⟨true,tB,ts,tb,fY⟩ x=(c,false) by simp only[fu,hp,gC,iY,oz,lN,mO,aH]];exact adK ⟨rfl,ou,rfl,rd,rfl,eu,iW,iX,dw,dI,dH,po,rfl,eu,pL,pM,lm,rfl,oJ,fk _ aH,rfl,aa⟩
  | true=>
   have e1:fu c e ⟨true,tB,ts,tb,fY⟩ x=(setW (ef c e ⟨true,tB-1,ts+x.bF.getD e.toNat 0,tb||x.bO.getD e.toNat false,fY||x.br.getD e.toNat false⟩) tB (gj x e),true):=by
    simp only[fu,hp,gC,iY,oz,lN,mO,aH]
   rw[e1];dsimp only;rw[RD,RC];have wr:=fk _ aH;cases tb with
   | true=>
    cases fY with
    | true=>exact adL ⟨rfl,ou,rfl,rd,rfl,eu,iW,iX,dw,dI,dH,po,rfl,eu,pL,pM,lm,rfl,oJ,wr,rfl,⟨by omega,by omega⟩,rfl,rfl,eu,iW,iX,dw,dI,dH,eu,pb,mU,dH,rfl,rfl,rfl,rfl,rfl,aa⟩
    | false=>exact adM ⟨rfl,ou,rfl,rd,rfl,eu,iW,iX,dw,dI,dH,po,rfl,eu,pL,pM,lm,rfl,oJ,wr,rfl,⟨by omega,by omega⟩,rfl,rfl,eu,Bl,Bm,eu,iW,iX,dw,dI,dH,eu,pb,mU,dH,rfl,rfl,rfl,rfl,rfl,aa⟩
   | false=>
    cases fY with
    | true=>exact adN ⟨rfl,ou,rfl,rd,rfl,eu,iW,iX,dw,dI,dH,po,rfl,eu,pL,pM,lm,rfl,oJ,wr,rfl,⟨by omega,by omega⟩,rfl,eu,pb,mU,rfl,eu,iW,iX,dw,dI,dH,eu,pb,mU,dH,rfl,rfl,rfl,rfl,rfl,rfl,rfl,aa⟩
    | false=>exact adO ⟨rfl,ou,rfl,rd,rfl,eu,iW,iX,dw,dI,dH,po,rfl,eu,pL,pM,lm,rfl,oJ,wr,rfl,⟨by omega,by omega⟩,rfl,eu,pb,mU,rfl,eu,Bl,Bm,eu,iW,iX,dw,dI,dH,eu,pb,mU,dH,rfl,rfl,rfl,rfl,rfl,rfl,rfl,aa⟩
 case neg=>
  obtain rfl:tB=0:=by omega
  have oJ:decide ((0:Int)>0)=false:=rfl;have e1:=fun b=>acr c e ⟨false,0,ts,tb,fY⟩ b
  have ends:=fun cap=>adZ (ef c e ⟨false,0,ts,tb,fY⟩) true x e cap (z1.trans ak) yn (by rw[DE];exact al)
  rw[e1]at ends;cases tb with
  | true=>
   rw[show fu c e ⟨true,0,ts,true,fY⟩ x=(ef c e ⟨false,0,ts,true,fY⟩,true) by simp[fu,hp]];dsimp only;rw[e1];exact adT ⟨rfl,ou,rfl,rd,rfl,eu,iW,iX,dw,dI,dH,po,rfl,eu,pL,pM,lm,rfl,oJ,eu,iW,iX,rfl,aa⟩
  | false=>
  cases hk:x.bO.getD e.toNat false with
  | true=>
   rw[hk]at mU;rw[show fu c e ⟨true,0,ts,false,fY⟩ x=(ef c e ⟨false,0,ts,false,fY⟩,true) by unfold fu;simp only[hp,hk];rfl];dsimp only;rw[e1];exact adS ⟨rfl,ou,rfl,rd,rfl,eu,iW,iX,dw,dI,dH,po,rfl,eu,pL,pM,lm,rfl,oJ,eu,iW,iX,rfl,eu,pb,mU,rfl,aa⟩
  | false=>
  rw[hk]at mU;cases bk:(ts+x.bF.getD e.toNat 0==0) with
  | false=>
   rw[show fu c e ⟨true,0,ts,false,fY⟩ x=(ef c e ⟨false,0,ts,false,fY⟩,true) by unfold fu;simp only[hp,hk,bk];rfl];dsimp only;rw[e1];exact adR ⟨rfl,ou,rfl,rd,rfl,eu,iW,iX,dw,dI,dH,po,rfl,eu,pL,pM,lm,rfl,oJ,eu,iW,iX,rfl,eu,pb,mU,rfl,bk,aa⟩
  | true=>
  rw[show fu c e ⟨true,0,ts,false,fY⟩ x=(js (setW (ef c e ⟨false,0,ts,false,fY⟩) 0 (told x e (fY||x.br.getD e.toNat false))) (c.news++jo (c.ay.length-1) e (fY||x.br.getD e.toNat false)),true) by unfold fu;simp only[hp,hk,bk];rfl];cases fY with
  | true=>exact adP ⟨rfl,ou,rfl,rd,rfl,eu,iW,iX,dw,dI,dH,po,rfl,eu,pL,pM,lm,rfl,oJ,eu,iW,iX,rfl,eu,pb,mU,rfl,bk,rfl,ends true,aa⟩
  | false=>exact adQ ⟨rfl,ou,rfl,rd,rfl,eu,iW,iX,dw,dI,dH,po,rfl,eu,pL,pM,lm,rfl,oJ,eu,iW,iX,rfl,eu,pb,mU,rfl,bk,rfl,eu,Bl,Bm,ends _,aa⟩
