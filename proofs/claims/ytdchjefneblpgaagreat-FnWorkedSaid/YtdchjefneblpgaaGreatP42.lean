import Derived.Test.YtdchjefneblpgaaGreatP40
import Derived.Test.YtdchjefneblpgaaGreatP43
set_option linter.unusedVariables false
set_option linter.unusedSimpArgs false
namespace Go.Proofs.YtdchjefneblpgaaGreat
open Go.Sx Go.RowKit Go.Proofs.Tryz
variable{l:bu}
theorem sT:iR l=true<->aq l.cap 1 4=true/\aq l.eO 0 l.cap=true/\aq l.back 0 l.cap=true/\l.eO+l.back+l.queue.length=l.cap/\aq l.fg 0 1000000000=true/\0<=l.dh/\l.dh=l.fg-l.queue.length/\(l.queue.any fun r=>!eR r)=false:=by
 simp only[iR,cF,h8,jL,cW,and_assoc]
variable{g:bR}
theorem xc{i:Nat}:iS g i l=false<->iR l=true/\l.cap=g.cap/\fB g l.queue=true/\((i:Int).tdiv g.ay=(i:Int).tmod g.ay->l.queue=[]):=by
 simp only[iS,gn,kg,bne_eq_false_iff_eq,Bool.and_eq_false_imp,jL,oB];simp_all
variable{r:aB}
theorem acs{i:Nat}(h:iS g i l=false)(aH:kB g r=false)(ai:(e8 l r).2=true)(aG:(i:Int).tdiv g.ay≠(i:Int).tmod g.ay):iS g i (e8 l r).1=false:=by
 obtain⟨h1,U,ax,aJ⟩:=xc.1 h;unfold e8 at ai ⊢;split
 ·rename_i al;simp only[cF,bne_iff_ne,mr,cW]at al;obtain⟨⟨⟨_,l2⟩,nT⟩,No⟩:=al;obtain⟨c4,b8,fs,pa,ji,mS,jB,n3⟩:=sT.1 h1;refine xc.2 ⟨sT.2 ⟨c4,?_,fs,?_,?_,mS,?_,?_⟩,U,JF.2 ⟨ax,aH⟩,fun e=>(aG e).elim⟩
  ·simp only[aq,cW]at b8 ⊢;omega
  ·grind
  ·simp only[aq,cW]at ji ⊢;omega
  ·grind
  grind
 grind
theorem JI{i:Nat}(h:iS g i l=false)(ai:(ek l).2.2=true):iS g i (ek l).1=false/\kB g (ek l).2.1=false:=by
 obtain⟨h1,U,ax,aJ⟩:=xc.1 h;obtain⟨c4,b8,fs,pa,ji,mS,jB,n3⟩:=sT.1 h1;unfold ek at ai ⊢;rw[bM h1]at ai ⊢;split
 ·grind
 rename_i r q aK;rw[aK]at ax n3 pa jB aJ;rw[rV]at ax;rw[A0,gn]at n3;simp only[hz]at pa jB;refine⟨xc.2 ⟨sT.2 ⟨c4,b8,?_,?_,ji,?_,?_,n3.2⟩,U,ax.2,fun e=>absurd (aJ e) (by simp)⟩,ax.1⟩
 ·simp only[aq,cW]at b8 fs ⊢;omega
 ·grind
 ·grind
 grind
theorem acu{i:Nat}(h:iS g i l=false):iS g i (fX l).1=false:=by
 obtain⟨h1,U,ax,aJ⟩:=xc.1 h;obtain⟨c4,b8,fs,pa,ji,mS,jB,n3⟩:=sT.1 h1;unfold fX;split
 ·rename_i al;simp only[cF,bne_iff_ne,mr]at al;refine xc.2 ⟨sT.2 ⟨c4,?_,?_,?_,ji,mS,jB,n3⟩,U,ax,aJ⟩
  ·simp only[aq,cW]at b8 fs ⊢;omega
  ·simp only[aq,cW]at b8 fs ⊢;omega
  grind
 exact h
theorem JJ{a b:Int}(a8:1<=g.ay/\g.ay<=4)(ah:aq a 0 (g.ay-1)=true)(aw:aq b 0 (g.ay-1)=true):
  e9 g a b=a*g.ay+b/\0<=a*g.ay+b/\a*g.ay+b<g.ay*g.ay/\(a*g.ay+b).tdiv g.ay=a/\(a*g.ay+b).tmod g.ay=b:=by
 have e:e9 g a b=a*g.ay+b:=by grind[e9]
 simp only[aq,cW]at ah aw;generalize g.ay=n at*;have b5:0<=a*n+b:=by have:=Int.mul_nonneg ah.1 (show 0<=n by omega);omega
 rw[Int.tdiv_eq_ediv_of_nonneg b5,Int.tmod_eq_emod_of_nonneg b5];have BM:n=1\/n=2\/n=3\/n=4:=by omega
 grind
variable{b:Int}
theorem zW{a:Int}(h:(aq a 0 (g.ay-1)&&aq b 0 (g.ay-1))=false):e9 g a b=-1:=by
 grind[e9]
variable{n:Int}
theorem acv(key:Int)(a8:1<=n):aq (jG key n) 0 (n-1)=true:=by
 have h1:=QN key n (by omega);have U:=Int.tmod_lt_of_pos key (show 0<n by omega);unfold jG;rw[bG (by omega)];simp only[aq,cW];grind
variable{c:bb}
theorem JK(h:cM c=true){a:Int}(ah:aq a 0 (c.aC.ay-1)=true)(aw:aq b 0 (c.aC.ay-1)=true):∃l,gL c (e9 c.aC a b)=some l:=by
 obtain⟨h1,U,ax,_⟩:=iy.1 h;obtain⟨e,b5,bJ,_⟩:=JJ (nt h1) ah aw;simp_all[gL,bM,cS]
variable{i:Int}
theorem acw(h:gL c i=some l):((i.toNat:Nat):Int)=i:=by have:=(qp h).1;omega
theorem DA{c:bb}{i:Int}(b5:0<=i)(h1:i<c.ay.length):∃x,cZ c i=some x:=by
 simp_all[cZ,bM,cS]
variable{e:Int}
theorem acx(h:cM c=true)(he:aq e 0 3=true):∃t,iV c e=some t:=by
 have aJ:=(iy.1 h).2.2.2.1;simp only[aq,cW]at he;unfold iV;rw[bM he.1];exact cS (by omega)
variable{t:bV}
theorem xd:ka n t=false<->(0<=t.place/\t.place<=n-1)/\(t.going=false->t.place=0)/\(-1000000<=t.sum/\t.sum<=1000000):=by
 simp only[ka,aq,gn,kg,cW,Bool.and_eq_false_imp,h8,bne_eq_false_iff_eq]
theorem zX{j:Int}:cZ (dS c i l) j=cZ c j:=rfl
theorem zY{j:Int}:cZ (ef c i t) j=cZ c j:=rfl
theorem R':(dS c i l).aC=c.aC:=rfl
theorem Sa:(ef c i t).aC=c.aC:=rfl
variable{x:aR}
theorem acy:(setW c i x).aC=c.aC:=rfl
theorem acz{w o:Int}{t:List aB}(h:cM c=true)(ak:cZ c w=some x)(ai:x.cg=r::t)
  (aZ:aq o 0 (c.aC.ay-1)=true) (c3:o≠w) (ap:gL c (e9 c.aC w o)=some l) (hsend:(e8 l r).2=true):
  cM (setW (dS c (e9 c.aC w o) (e8 l r).1) w (mh (jH x t) r.bp.bc))=aq (x.bF.getD r.bp.bc.toNat 0+1) (-1000000) 1000000:=by
 obtain⟨h1,U,_⟩:=iy.1 h;obtain⟨w0,w1,_⟩:=jI ak;obtain⟨ok,aH⟩:=JG (lx h ak) ai;obtain⟨e,j9,Ho,Yd,auC⟩:=JJ (nt h1) (a:=w) (b:=o) (by simp only[aq,cW];omega) aZ;have cv:cM (dS c (e9 c.aC w o) (e8 l r).1)=true:=by
  grind[JD,acs,zV,acw]
 rw[sQ cv (zX.trans ak),R',ac6 ok (rW aH)];rfl
theorem acA{w:Int}{t:List aB}(h:cM c=true)(ak:cZ c w=some x)(ai:x.cg=r::t):cM (setW c w (kept (jH x t) r))=true:=by
 grind[JG,lx,sQ,ac3]
theorem acB{k:Int}(h:cM c=true)(ap:gL c k=some l)(ak:cZ c b=some x)(bU:(ek l).2.2=true):
  cM (setW (dS c k (ek l).1) b (h6 x (ek l).2.1))=aq (x.bF.getD (ek l).2.1.bp.bc.toNat 0+-1) (-1000000) 1000000:=by
 obtain⟨c4,b8⟩:=JI (zV h ap) bU;have cv:cM (dS c k (ek l).1)=true:=by grind[JD]
 rw[sQ cv (zX.trans ak),R',ac7 (lx h ak) b8]
theorem acC{c:bb}{w:Int}(h:cM c=true):cM (ft c w).1=true:=by
 unfold ft;rw[bM h];grind[sQ,adk,lx]
theorem acD{c:bb}{w:Int}(h:cM c=true):cM (gU c w).1=true:=by
 unfold gU;rw[bM h];grind[sQ,ac8,lx]
theorem acE{c:bb}{a b:Int}(h:cM c=true):cM (kD c a b).1=true:=by
 grind[kD,JD,acu,zV]
theorem Sb{b:Bool}{m:Nat}(hm:(m:Int)=n-1)(he:aq e 0 3=true):(jm m e b).any (kb n)=false:=by
 rw[hd];intro x ak;simp only[jm,lJ,List.mem_range]at ak;obtain⟨k,hk,rfl⟩:=ak;have h1:aq ((k:Int)+1) 0 (n-1)=true:=by simp only[aq,cW];omega
 simp_all[kb,iY,Bool.or_false,oy,not_false_eq_true]
theorem acF{hc:aR}(h:cM c=true)(he:aq e 0 3=true)(bU:iV c e=some t)(ak:cZ c t.place=some x)(b5:cZ c 0=some hc)(aG:iQ hc e=false):cM (fu c e t x).1=true:=by
 obtain⟨h1,U,ax,aJ,aY,bx,bN,db⟩:=iy.1 h;have a8:=nt h1;obtain⟨t1,t2,t3⟩:=xd.1 (JE h bU);have ok:=lx h ak;have TF:∀c5:bV,ka c.aC.ay c5=false->cM (ef c e c5)=true:=fun c5 k=>by grind[acZ]
 have both:∀c5:bV,ka c.aC.ay c5=false->cM (setW (ef c e c5) t.place (gj x e))=true:=fun c5 k=>by
  rw[sQ (TF c5 k) (zY.trans ak),Sa,ac4 ok]
 unfold fu;split
 ·split
  ·exact both _ (xd.2 ⟨by grind,by simp,by simp⟩)
  rename_i av;split
  ·split
   ·rename_i hp aH;simp only[aq,cW]at aH;exact both _ (xd.2 ⟨by grind,by simp,aH⟩)
   exact h
  rename_i hp;have bB:t.place=0:=by omega
  have NJ:=TF ⟨false,t.place,t.sum,t.bO,t.dm⟩ (xd.2 ⟨t1,fun _=>bB,t3⟩);split
  ·rw[bB]at ak;have aum:hc=x:=by grind
   have kw:cM (setW (ef c e ⟨false,t.place,t.sum,t.bO,t.dm⟩) 0 (told x e (t.dm||x.br.getD e.toNat false)))=true:=by
    rw[sQ NJ (zY.trans ak),Sa];grind[R5]
   rw[R4 kw,List.any_append];have e1:(setW (ef c e ⟨false,t.place,t.sum,t.bO,t.dm⟩) 0 (told x e (t.dm||x.br.getD e.toNat false))).aC=c.aC:=rfl;grind[Sb]
  exact NJ
 exact h
theorem acG{c:bb}{e:Int}(h:cM c=true):cM (kE c e).1=true:=by
 unfold kE;split
 ·rename_i al;rw[cF]at al;grind[acF]
 exact h
theorem Sc{k:Nat}{n:b7}(h:cM c=true)(a8:c.news[k]?=some n):kb c.aC.ay n=false:=by
 have db:=(iy.1 h).2.2.2.2.2.2.2;grind
theorem acH{α:Type}{p:α->Bool}{xs:List α}{k:Nat}(h:xs.any p=false):(cutAt xs k).any p=false:=by
 rw[hd]at h ⊢;intro a ah;rcases mo.1 ah with ah | ah
 ·grind
 grind
theorem acI{c:bb}{w:Int}(h:cM c=true):cM (lv c w).1=true:=by
 unfold lv;split
 ·rw[bM h];split
  ·rename_i n x a8 ak;have aw:=Sc h a8;simp only[kb,gn,kg]at aw;have kw:cM (setW c w (hV x n))=true:=by grind[sQ,ac5,lx]
   rw[R4 kw,acy,acH (iy.1 h).2.2.2.2.2.2.2];rfl
  exact h
 exact h
theorem uX{α:Type}{sz:α->Nat}{y:α}(x:α):∀{xs:List α} {i:Nat},xs[i]?=some y->eZ sz (xs.set i x)+sz y=eZ sz xs+sz x
 | [],i,h=>by simp at h
 | a::xs,0,h=>by
  grind[eZ,hz]
 | a::xs,i+1,h=>by
  have:=uX (sz:=sz) x (xs:=xs) (i:=i) (by simpa using h);simp only[eZ,List.set_cons_succ,hz,mn,EQ]at this ⊢;omega
theorem tn{c:bb}{x y:aR}(h:cZ c i=some y):(setW c i x).sz+y.sz=c.sz+x.sz:=by
 have:=uX (sz:=aR.sz) x (jI h).2.2;grind[setW,bb.sz]
theorem JL{x y:bu}(h:gL c i=some y):(dS c i x).sz+y.sz=c.sz+x.sz:=by
 have:=uX (sz:=bu.sz) x (qp h).2.2;grind[dS,bb.sz]
theorem DB{x:bV}:(ef c i x).sz=c.sz:=by
 grind[ef,bb.sz,gp]
theorem Sd{c:bb}{x:List b7}:(jq c x).sz+c.news.length=c.sz+x.length:=by
 grind[jq,bb.sz]
theorem JM(g:bR)(w:aR):(ec g w).1.sz<=w.sz+2:=by
 unfold ec;split
 ·rename_i al;rw[cF]at al;split
  ·grind[abj,aR.sz,hz,dR,gp]
  grind
 grind
theorem Se(g:bR)(w:aR):(eo g w).1.sz<=w.sz:=by
 unfold eo;split
 ·split
  ·grind[aR.sz,hz,dR]
  grind
 grind
theorem Sf{w:aR}{t:List aB}(h:w.cg=r::t):(jH w t).sz+1=w.sz:=by
 grind[jH,aR.sz,hz]
theorem acJ(w:aR)(r:aB):(kept w r).sz=w.sz+1:=by
 grind[kept,aR.sz,kH,hz,dR]
theorem acK(w:aR)(e:Int):(mh w e).sz=w.sz:=by
 grind[mh,lo,aR.sz,gp]
theorem Sg(w:aR)(r:aB):(h6 w r).sz=w.sz+1:=by
 simp only[h6,lo,aR.sz,gp,kH,hz,dR];omega
theorem acL(w:aR)(e:Int):(gj w e).sz=w.sz:=by
 grind[gj,aR.sz,gp]
theorem Rs(w:aR)(e:Int)(b:Bool):(told w e b).sz=w.sz+1:=by
 grind[told,aR.sz,kH,hz,dR]
theorem acM(w:aR)(n:b7):(hV w n).sz<=w.sz+1:=by
 grind[hV,Rs]
theorem Rt(l:bu)(r:aB):(e8 l r).1.sz<=l.sz+1:=by
 grind[e8,bu.sz]
theorem Ru(l:bu):(ek l).1.sz<=l.sz:=by
 unfold ek;split
 ·split
  ·grind
  grind[bu.sz]
 grind
theorem Rv(l:bu):(fX l).1.sz=l.sz:=by
 unfold fX;split<;>rfl
theorem acN{α:Type}(xs:List α)(k:Nat):(cutAt xs k).length<=xs.length:=by
 grind[cutAt,kH,tF,List.length_drop]
theorem acO(hw:c.ay.length<=4)(ak:cZ c t.place=some x)(b5:0<=t.place):(fu c e t x).1.sz<=c.sz+4:=by
 unfold fu;have w1:∀c5,(setW (ef c e c5) t.place (gj x e)).sz+x.sz=c.sz+x.sz:=fun c5=>by
  have:=tn (c:=ef c e c5) (x:=gj x e) (zY.trans ak);grind[DB,acL]
 split
 ·split
  ·grind
  split
  ·grind
  rename_i hp;have bB:t.place=0:=by omega
  split
  ·rw[bB]at ak;have a:=tn (c:=ef c e ⟨false,t.place,t.sum,t.bO,t.dm⟩) (x:=told x e (t.dm||x.br.getD e.toNat false)) (zY.trans ak);rw[DB,Rs]at a;have b:=Sd (c:=setW (ef c e ⟨false,t.place,t.sum,t.bO,t.dm⟩) 0 (told x e (t.dm||x.br.getD e.toNat false))) (x:=c.news++jm (c.ay.length-1) e (t.dm||x.br.getD e.toNat false));have d:(setW (ef c e ⟨false,t.place,t.sum,t.bO,t.dm⟩) 0 (told x e (t.dm||x.br.getD e.toNat false))).news=c.news:=rfl;grind[kH,jm,cm,xw]
  grind[DB]
 grind
theorem acP(h:cM c=true):c.ay.length<=4:=by
 obtain⟨h1,U,_⟩:=iy.1 h;have:=nt h1;omega
theorem JN(c:bb)(p:c9):(eB c p).1.sz<=c.sz+4:=by
 have dq:c.sz<=c.sz+4:=by omega
 unfold eB;split
 ·grind[ft,tn,ec,JM]
 split
 ·grind[gU,tn,eo,Se]
 split
 ·unfold lG;split
  ·split
   ·rename_i x ak;split
    ·rename_i r t ai;have hu:=Sf ai;unfold sP;split
     ·grind[tn,kept,jH,acJ]
     split
     ·rename_i l ap;split
      ·have a:=JL (x:=(e8 l r).1) ap;have b:=tn (c:=dS c (e9 c.aC p.a (jG r.key c.aC.ay)) (e8 l r).1) (x:=mh (jH x t) r.bp.bc) (zX.trans ak);grind[acK,Rt]
      exact dq
     exact dq
    exact dq
   exact dq
  exact dq
 split
 ·unfold lu;split
  ·split
   ·rename_i l x ap ak;split
    ·have a:=JL (x:=(ek l).1) ap;have b:=tn (c:=dS c (e9 c.aC p.a p.b) (ek l).1) (x:=h6 x (ek l).2.1) (zX.trans ak);grind[Sg,Ru]
    exact dq
   exact dq
  exact dq
 split
 ·grind[kD,JL,fX,Rv]
 split
 ·unfold kE;split
  ·rename_i al;rw[cF]at al;grind[acO,acP,jI]
  exact dq
 split
 ·unfold lv;split
  ·rename_i k hk;split
   ·split
    ·rename_i n x a8 ak;have a:=tn (x:=hV x n) ak;grind[Sd,setW,hV,cutAt,acM,acN]
    exact dq
   exact dq
  exact dq
 exact dq
end Go.Proofs.YtdchjefneblpgaaGreat
namespace Go.Proofs.YtdchjefneblpgaaGreat
open Go.Sx Go.RowKit Go.Proofs.Tryz
def k5(c:bb)(b:Bool):List D:=[.J 4 (c.aC.nodes.map Node.e),I c.aC.ay,I c.aC.cap,.J 8 (c.ay.map aR.e),.J 6 (c.bW.map bu.e),.J 5 (c.tokens.map bV.e),.J 3 (c.news.map b7.e),B b]
abbrev fb(c:bb):List D:=k5 c (cM c)
theorem zZ(c:bb)(al:c.sz<=8388608)(hw:gb c):bT prog 127 [.ro (.agg c.e)] (.new (fb c)):=
 aei ⟨ads c al,acT c al hw,aa⟩
variable{i:Nat}
theorem Rw{α:Type}{f:α->List D}{xs:List α}{a:α}:(xs.map f).set i (f a)=(xs.set i a).map f:=List.map_set.symm
variable{c:bb}{x:aR}
theorem nu{i:Int}(h:cZ c i=some x):0<=i/\i<(↑(c.ay.map aR.e).length:Int)/\(c.ay.map aR.e)[i.toNat]?=some x.e:=by
 obtain⟨h1,U,ax⟩:=jI h;exact⟨h1,by rw[cm];omega,bC aR.e ax⟩
theorem qy{i:Int}(h:cZ c i=some x)(al:c.sz<=8388608):x.sz<=8388608:=bb.Ak al (eA (jI h).2.2)
theorem acQ{l:List b7}(hi:i<l.length):([]++((l.map b7.e).drop 0).take (((some (i:Int)).getD (↑(l.map b7.e).length:Int)).toNat-0)++((l.map b7.e).drop ((some ((i:Int)+1)).getD 0).toNat).take ((l.map b7.e).length-((some ((i:Int)+1)).getD 0).toNat))=(cutAt l i).map b7.e:=by
 have e1:((i:Int)+1).toNat=i+1:=by omega
 simp only[cutAt,jZ,pP,Nat.sub_zero,vz,List.nil_append,e1,hy,qQ,List.map_drop]
 congr 1
 rw[AY (by simp)]
theorem Rx{l:List b7}:((l.map b7.e).drop ((some ((i:Int)+1)).getD 0).toNat).take ((l.map b7.e).length-((some ((i:Int)+1)).getD 0).toNat)=(l.drop (i+1)).map b7.e:=by
 have e1:((i:Int)+1).toNat=i+1:=by omega
 simp only[jZ,e1,List.map_drop];rw[AY (by simp)]
theorem Ry(h:cM c=true){n:b7}(a8:c.news[i]?=some n){w:Int}(hw:(n.dest==w)=true):∃x,cZ c w=some x:=by
 have aw:=Sc h a8;simp only[kb,aq,gn,kg,cW]at aw;have U:=(iy.1 h).2.1;have e:=eq_of_beq hw;exact DA (by omega) (by omega)
theorem DC{α:Type}{f:α->List D}(h:∀a,∀d∈f a,∃x,d=.v x){l:List (List D)}{xs:List α}(ap:l=xs.map f):Flat l:=ap▸dA f h xs
theorem acR{w:Int}{n:b7}(h1:c.news.findIdx? (fun n=>n.dest==w)=some i)(cJ:cM c=true)(a8:c.news[i]?=some n)(ak:cZ c w=some x):lv c w=(jq (setW c w (hV x n)) (cutAt c.news i),true):=by
 unfold lv;simp only[h1,cJ,gO,a8,ak]
theorem acS(c:bb)(w:Int)(al:c.sz<=8388608):bT prog 247 [.ref (fb c) (fb (lv c w).1),.ro (.one (I w))] (.vals [.one (B (lv c w).2)]):=by
 have ap:=Dx al;have BP:=fun h=>acI (c:=c) (w:=w) h
 cases cJ:cM c with
 | false=>
  have e:lv c w=(c,false):=by
   unfold lv;split<;>simp[cJ]
  rw[e];simp only[fb,cJ];cases a8:c.news with
  | nil=>
   have l:cV prog (ao f247 0) (pE w 0 (c.aC.nodes.map Node.e) c.aC.ay c.aC.cap (c.ay.map aR.e) (c.bW.map bu.e) (c.tokens.map bV.e) (c.news.map b7.e) false) (.exit 0) _:=.last (cH 0) (RJ ⟨by simp[a8],aa⟩);exact Jf ⟨l,aa⟩
  | cons a l=>
   have l:cV prog (ao f247 0) (pE w 0 (c.aC.nodes.map Node.e) c.aC.ay c.aC.cap (c.ay.map aR.e) (c.bW.map bu.e) (c.tokens.map bV.e) (c.news.map b7.e) false) (.exit 0) _:=.last (cH 0) (adw ⟨dM (by simp[a8]<;>omega),rfl,aa⟩);exact Jf ⟨l,aa⟩
 | true=>
  have BP:=BP cJ;have l:=gy (P:=prog) (c:=(ao f247 0)) c.news (fun n=>n.dest==w) (fun i=>pE w i (c.aC.nodes.map Node.e) c.aC.ay c.aC.cap (c.ay.map aR.e) (c.bW.map bu.e) (c.tokens.map bV.e) (c.news.map b7.e) true)
   (X:=fun i n=>match cZ c w with
    | some x=>DE true (c.aC.nodes.map Node.e) c.aC.ay c.aC.cap ((setW c w (hV x n)).ay.map aR.e) (c.bW.map bu.e) (c.tokens.map bV.e) ((cutAt c.news i).map b7.e) true
    | none=>⟨[],[]⟩) e7 (cH 0)
   (fun i a ah h=>aej ⟨b6 (a1 ah),rfl,bw,bE (a1 ah),bA b7.e ah,by simp only[bne,h];rfl,dc (a1 ah) ap,aa⟩)
   (fun i a ah h=>by
    obtain⟨x,ak⟩:=Ry cJ ah h;have hi:=a1 ah;obtain⟨w0,w1,jK⟩:=nu ak;have ai:=qy ak al;simp only[ak];rw[<-acQ hi];cases aG:iQ x a.bc with
    | true=>
     rw[show hV x a=x by unfold hV;rw[aG];rfl,sR ak];exact adv ⟨b6 hi,rfl,bw,bE hi,bA b7.e ah,by simp only[bne,h];rfl,by simp,by simp,by simp;omega,by simp;omega,by simp;omega,DC (xs:=c.news.take i) b7.flat (by simp),dc hi ap,by simp;omega,by simp;omega,by simp,by simp;omega,by simp;omega,DC (xs:=c.news.drop (i+1)) b7.flat Rx,w0,w1,jK,Kb x a.bc true aG ai,rfl,aa⟩
    | false=>
     have rb:x.bZ.length<=8388608:=by simp only[aR.sz]at ai;omega
     have e2:(setW c w (hV x a)).ay.map aR.e=(c.ay.map aR.e).set w.toNat (told x a.bc a.dm).e:=by
      rw[show hV x a=told x a.bc a.dm by unfold hV;rw[aG];rfl];exact Rw.symm
     rw[e2];have cb:(told x a.bc a.dm).e=[.J 5 (x.queue.map aB.e),.J 5 (x.cg.map aB.e),.J 5 (x.b3.map aB.e),.J 4 (x.cells.map Cell.e),.J 1 (x.bF.map a6),.J 1 (x.bO.map cq),.J 1 (x.br.map cq),.J 2 (x.bZ.map cw.e++[[I a.bc,B a.dm]])]:=by
      simp only[told,aR.e,hy];rfl
     rw[cb];exact aek ⟨b6 hi,rfl,bw,bE hi,bA b7.e ah,by simp only[bne,h];rfl,by simp,by simp,by simp;omega,by simp;omega,by simp;omega,DC (xs:=c.news.take i) b7.flat (by simp),dc hi ap,by simp;omega,by simp;omega,by simp,by simp;omega,by simp;omega,DC (xs:=c.news.drop (i+1)) b7.flat Rx,w0,w1,jK,Kb x a.bc false aG ai,rfl,w0,w1,jK,by simp;omega,by simp;omega,jK,rfl,fV (cw.flat ⟨a.bc,a.dm⟩),rfl,rfl,rfl,rfl,rfl,rfl,rfl,rfl,rfl,rfl,rfl,w0,w1,jK,rfl,aa⟩)
   (RJ ⟨dz,aa⟩)
  rcases l with⟨_,h1,_,U⟩ | ⟨i,a,ah,hp,_,h1,_,U⟩
  ·have e:lv c w=(c,false):=by unfold lv;simp only[h1]
   rw[e];simp only[fb,cJ];exact Jf ⟨U,aa⟩
  obtain⟨x,ak⟩:=Ry cJ ah hp;rw[acR h1 cJ ah ak]at BP ⊢;simp only[ak]at U;simp only[fb,cJ,BP];exact adx ⟨U,aa⟩
end Go.Proofs.YtdchjefneblpgaaGreat
namespace Go.Proofs.YtdchjefneblpgaaGreat
open Go.Sx Go.RowKit Go.Proofs.Tryz
theorem VC(a b:Nat):(((a:Int)+(b:Int))==0)=(a+b==0):=by
 rw[Bool.eq_iff_iff];simp only[jL];omega
theorem ach(w:aR)(e:Int)(hw:w.sz<=8388608):ar 342 [.agg w.e,.one (I e)] [.one (B (zU w e))]:=by
 have ap:w.b3.length<=8388608:=by simp only[aR.sz]at hw;omega
 have l:=gy (P:=prog) (c:=(ao f342 0)) w.b3 (fun r=>decide (r.bp.bc<=e)) (fun i=>uY (w.queue.map aB.e) (w.cg.map aB.e) (w.b3.map aB.e) (w.cells.map Cell.e) (w.bF.map a6) (w.bO.map cq) (w.br.map cq) (w.bZ.map cw.e) e i) (X:=fun _ _=>Jg true) e7 (cH 0)
  (fun i a ah h=>adS ⟨b6 (a1 ah),bw,bE (a1 ah),bA aB.e ah,h,dc (a1 ah) ap,aa⟩)
  (fun i a ah h=>adR ⟨b6 (a1 ah),bw,bE (a1 ah),bA aB.e ah,h,aa⟩)
  (adT ⟨dz,aa⟩)
 unfold zU;rcases l with⟨_,_,h1,U⟩ | ⟨i,a,_,_,_,_,h1,U⟩
 ·rw[h1];exact adl ⟨U,aa⟩
 rw[h1];exact adU ⟨U,aa⟩
theorem aci(w:aR)(e:Int)(hw:w.sz<=8388608):ar 343 [.agg w.e,.one (I e)] [.one (I ((↑((pC e w.queue).map aB.e).length:Int)+(↑((pC e w.cg).map aB.e).length:Int)))]:=by
 simp only[aR.sz]at hw;have c4:(pC e w.queue).length<=w.queue.length:=qK _ _;have b8:(pC e w.cg).length<=w.cg.length:=qK _ _;exact ado ⟨QH w.queue e (by omega),QH w.cg e (by omega),⟨by simp only[cm];omega,by simp only[cm];omega⟩,aa⟩
theorem acj(w:aR)(e:Int)(hw:w.sz<=8388608):ar 316 [.agg w.e,.one (I e)] [.one (B (kC w e))]:=by
 have o:=ach w e hw;unfold kC;cases h:zU w e with
 | true=>rw[h]at o;exact adn ⟨o,rfl,aa⟩
 | false=>
  rw[h]at o;have a:=aci w e hw;rw[cm,cm]at a;have b:=adm ⟨o,rfl,a,aa⟩;rw[VC]at b;exact b
theorem Rz(w:aR)(e:Int)(r:Bool)(h:kC w e=r)(hw:w.sz<=8388608):ar 316 [.agg w.e,.one (I e)] [.one (B r)]:=h▸acj w e hw
end Go.Proofs.YtdchjefneblpgaaGreat
namespace Go.Proofs.YtdchjefneblpgaaGreat
open Go.Sx Go.RowKit Go.Proofs.Tryz
variable{c:bb}
theorem ack{i:Int}{t:bV}(h:iV c i=some t):0<=i/\i<(↑(c.tokens.map bV.e).length:Int)/\(c.tokens.map bV.e)[i.toNat]?=some t.e:=by
 obtain⟨h1,U,ax⟩:=Dz h;exact⟨h1,by rw[cm];omega,bC bV.e ax⟩
variable{e:Int}
theorem G2{xs:List Int}(aJ:xs.length=4)(he:0<=e/\e<=3):e<(↑(xs.map a6).length:Int)/\(xs.map a6)[e.toNat]?=some [I (xs.getD e.toNat 0)]:=by
 have ap:e.toNat<xs.length:=by omega
 refine⟨by rw[cm];omega,?_⟩;rw[dr,iZ ap,jY,iZ ap];rfl
theorem tV{xs:List Bool}(aJ:xs.length=4)(he:0<=e/\e<=3):e<(↑(xs.map cq).length:Int)/\(xs.map cq)[e.toNat]?=some [B (xs.getD e.toNat false)]:=by
 have ap:e.toNat<xs.length:=by omega
 refine⟨by rw[cm];omega,?_⟩;rw[dr,iZ ap,jY,iZ ap];rfl
theorem q3{l:List (List D)}{i:Int}{a:List D}(b5:0<=i)(h:i<(↑l.length:Int)):(l.set i.toNat a)[i.toNat]?=some a:=List.getElem?_set_self (by omega)
theorem RA(x:aR)(e:Int):(gj x e).e=[.J 5 (x.queue.map aB.e),.J 5 (x.cg.map aB.e),.J 5 (x.b3.map aB.e),.J 4 (x.cells.map Cell.e),.J 1 (x.bF.map a6),.J 1 ((x.bO.map cq).set e.toNat [B false]),.J 1 (x.br.map cq),.J 2 (x.bZ.map cw.e)]:=by
 simp only[gj,aR.e,js];rfl
theorem acm(x:aR)(e:Int)(b:Bool):(told x e b).e=[.J 5 (x.queue.map aB.e),.J 5 (x.cg.map aB.e),.J 5 (x.b3.map aB.e),.J 4 (x.cells.map Cell.e),.J 1 (x.bF.map a6),.J 1 (x.bO.map cq),.J 1 (x.br.map cq),.J 2 (x.bZ.map cw.e++[[I e,B b]])]:=by
 simp only[told,aR.e,hy];rfl
theorem RB(c:bb)(e p:Int)(t:bV)(y:aR)(b:Bool):k5 (setW (ef c e t) p y) b=[.J 4 (c.aC.nodes.map Node.e),I c.aC.ay,I c.aC.cap,.J 8 ((c.ay.map aR.e).set p.toNat y.e),.J 6 (c.bW.map bu.e),.J 5 ((c.tokens.map bV.e).set e.toNat t.e),.J 3 (c.news.map b7.e),B b]:=by
 simp only[setW,ef,k5,js]
theorem acn(c:bb)(e:Int)(t:bV)(b:Bool):k5 (ef c e t) b=[.J 4 (c.aC.nodes.map Node.e),I c.aC.ay,I c.aC.cap,.J 8 (c.ay.map aR.e),.J 6 (c.bW.map bu.e),.J 5 ((c.tokens.map bV.e).set e.toNat t.e),.J 3 (c.news.map b7.e),B b]:=by
 simp only[ef,k5,js]
theorem aco(n:Nat)(e:Int)(b:Bool):jm (n+1) e b=jm n e b++[⟨(n:Int)+1,e,b⟩]:=by simp[jm,List.range_succ]
theorem acp(n:Nat)(e:Int)(b:Bool):(jm n e b).length=n:=by simp[jm]
theorem acq{hc x:aR}{t:bV}(ok:cM c=true)(he:aq e 0 3=true)(b5:cZ c 0=some hc)(bU:iV c e=some t)(aG:iQ hc e=false)(ak:cZ c t.place=some x):kE c e=fu c e t x:=by
 unfold kE;simp only[ok,he,Bool.and_self,gO,b5,bU,aG,oy,lK,ak]
theorem acr(ok:cM c=true)(he:aq e 0 3=true):∃hc t x,cZ c 0=some hc/\iV c e=some t/\cZ c t.place=some x/\0<c.ay.length/\c.ay.length<=4/\
  (0<=t.place/\t.place<=3)/\(t.going=false->t.place=0)/\(-1000000<=t.sum/\t.sum<=1000000)/\x.bF.length=4/\x.bO.length=4/\x.br.length=4/\(-1000000<=x.bF.getD e.toNat 0/\x.bF.getD e.toNat 0<=1000000):=by
 obtain⟨h1,U,ax,aJ,aY,bx,bN,db⟩:=iy.1 ok;have a8:=nt h1;obtain⟨hc,b5⟩:=DA (c:=c) (i:=0) (by omega) (by omega);obtain⟨t,bU⟩:=acx ok he;obtain⟨t1,t2,t3⟩:=xd.1 (JE ok bU);obtain⟨x,ak⟩:=DA (c:=c) (i:=t.place) (by omega) (by omega);obtain⟨_,_,_,_,ji,mS,jB,_,ry,_⟩:=iz.1 (lx ok ak);refine⟨hc,t,x,b5,bU,ak,by omega,by omega,by omega,t2,t3,ji,mS,jB,?_⟩;simp only[aq,cW]at he;have ap:e.toNat<x.bF.length:=by omega
 rw[hd]at ry;have:=ry _ (qM ap);rw[jY,iZ ap,jZ];simpa only[mg,h8,kg,aq,cW,tH,Bool.not_not,Bool.not_eq_eq_eq_not,iY,oB,Classical.not_not]using this
theorem RC(c:bb)(e:Int)(x:aR)(r:Bool)(b5:cZ c 0=some x)(aG:iQ x e=r)(al:c.sz<=8388608):ar 315 [.agg c.e,.one (I e)] [.one (B r)]:=by
 obtain⟨w0,w1,jK⟩:=nu b5;exact adQ ⟨dM (by omega),w0,w1,jK,Kb x e r aG (qy b5 al),aa⟩
theorem adV(c:bb)(b:Bool)(x:aR)(e:Int)(cap:Bool)(b5:cZ c 0=some x)(aJ:c.ay.length<=4)(al:c.sz<=8388608):
  bT prog 317 [.ref (k5 c b) (k5 (jq (setW c 0 (told x e cap)) (c.news++jm (c.ay.length-1) e cap)) b),.ro (.one (I e)),.ro (.one (B cap))] (.vals []):=by
 obtain⟨w0,w1,jK⟩:=nu b5;have a8:=Dx al;have ai:=qy b5 al;have rb:x.bZ.length<=8388608:=by simp only[aR.sz]at ai;omega
 have hlen:=(jI b5).2.1;have su:((setW c 0 (told x e cap)).ay.map aR.e).length=c.ay.length:=by simp[setW]
 have l:=eN (P:=prog) (c:=(ao f317 0)) (cH 0) (c.ay.length-1) (fun i:Nat=>zm e cap ((i:Int)+1) (c.aC.nodes.map Node.e) c.aC.ay c.aC.cap ((setW c 0 (told x e cap)).ay.map aR.e) (c.bW.map bu.e) (c.tokens.map bV.e) ((c.news++jm i e cap).map b7.e) b) (fun i hi=>by
  have hm:=acp i e cap;rw[aco,<-tG,hy (l₂:=[_])];exact ady ⟨dM (by rw[su];omega),by simp;omega,by simp;omega,fV (b7.flat ⟨(i:Int)+1,e,cap⟩),⟨by omega,by omega⟩,aa⟩) (adz ⟨eL (by rw[su];omega),aa⟩)
 have e2:(setW c 0 (told x e cap)).ay.map aR.e=(c.ay.map aR.e).set 0 [.J 5 (x.queue.map aB.e),.J 5 (x.cg.map aB.e),.J 5 (x.b3.map aB.e),.J 4 (x.cells.map Cell.e),.J 1 (x.bF.map a6),.J 1 (x.bO.map cq),.J 1 (x.br.map cq),.J 2 (x.bZ.map cw.e++[[I e,B cap]])]:=by
  rw[<-acm];exact Rw.symm
 have bB:jm 0 e cap=[]:=rfl;rw[e2,bB,k']at l;have gY:k5 (jq (setW c 0 (told x e cap)) (c.news++jm (c.ay.length-1) e cap)) b=[.J 4 (c.aC.nodes.map Node.e),I c.aC.ay,I c.aC.cap,.J 8 ((setW c 0 (told x e cap)).ay.map aR.e),.J 6 (c.bW.map bu.e),.J 5 (c.tokens.map bV.e),.J 3 ((c.news++jm (c.ay.length-1) e cap).map b7.e),B b]:=rfl;rw[gY,e2];exact adA ⟨by omega,w1,jK,by simp;omega,by simp;omega,jK,rfl,fV (cw.flat ⟨e,cap⟩),rfl,rfl,rfl,rfl,rfl,rfl,rfl,by omega,w1,jK,rfl,l,aa⟩
theorem adW(c:bb)(e:Int)(al:c.sz<=8388608):bT prog 246 [.ref (fb c) (fb (kE c e).1),.ro (.one (I e))] (.vals [.one (B (kE c e).2)]):=by
 have post:=fun h=>acG (c:=c) (e:=e) h
 cases ok:cM c with
 | false=>
  rw[show kE c e=(c,false) by unfold kE;simp[ok]];simp only[fb,ok];exact adB ⟨rfl,aa⟩
 | true=>
 replace post:=post ok;cases he:aq e 0 3 with
 | false=>
  rw[show kE c e=(c,false) by unfold kE;simp[he]];simp only[fb,ok];exact adC ⟨rfl,fk _ _ _ _ he,rfl,aa⟩
 | true=>
 have he:=he;obtain⟨hc,t,x,b5,bU,ak,FZ,yl,Xk,WJ,aue,rm,x',BE,yD⟩:=acr ok he;have uh:0<=e/\e<=3:=by simpa only[aq,cW]using he
 obtain⟨ev,iW,iX⟩:=ack bU;obtain⟨dw,dI,dH⟩:=nu ak;obtain⟨auR,auS,auT⟩:=nu b5;obtain⟨pL,pM⟩:=G2 rm uh;obtain⟨pb,mT⟩:=tV x' uh;obtain⟨Bj,Bk⟩:=tV BE uh;have dN:=qy ak al;have rb:x.bZ.length<=8388608:=by simp only[aR.sz]at dN;omega
 have M4:(↑(c.ay.map aR.e).length:Int)=(c.ay.length:Int):=by rw[cm]
 cases aG:iQ hc e with
 | true=>
  rw[show kE c e=(c,false) by unfold kE;simp only[ok,he,Bool.and_self,gO,b5,bU,aG]];simp only[fb,ok];exact adD ⟨rfl,fk _ _ _ _ he,rfl,RC c e hc true b5 aG al,rfl,aa⟩
 | false=>
 rw[acq ok he b5 bU aG ak]at post ⊢;have rd:=RC c e hc false b5 aG al;have ot:=fk _ _ _ _ he;cases hp:kC x e with
 | false=>
  rw[show fu c e t x=(c,false) by unfold fu;simp[hp]];simp only[fb,ok];exact adE ⟨rfl,ot,rfl,rd,rfl,ev,iW,iX,dw,dI,dH,Rz x e _ hp dN,rfl,aa⟩
 | true=>
 have po:=Rz x e _ hp dN;have lj:aI .i64 (t.sum+x.bF.getD e.toNat 0):=⟨by omega,by omega⟩
 simp only[fb,ok,post];clear post;obtain⟨TK,tz,ts,tb,fY⟩:=t;dsimp only at*;cases TK with
 | false=>
  obtain rfl:tz=0:=WJ rfl;rw[show fu c e ⟨false,0,ts,tb,fY⟩ x=(setW (ef c e ⟨true,(c.ay.length:Int)-1,0,false,x.br.getD e.toNat false⟩) 0 (gj x e),true) by simp only[fu,hp,gO,nF]];dsimp only;rw[RB,RA,<-M4];exact adF ⟨rfl,ot,rfl,rd,rfl,ev,iW,iX,dw,dI,dH,po,rfl,ev,pL,pM,lj,rfl,⟨by omega,by omega⟩,ev,Bj,Bk,ev,iW,iX,by omega,dI,dH,ev,pb,mT,dH,rfl,rfl,rfl,rfl,rfl,aa⟩
 | true=>
 by_cases mN:0<tz
 case pos=>
  have oJ:decide (tz>0)=true:=dM mN;cases aH:aq (ts+x.bF.getD e.toNat 0) (-1000000) 1000000 with
  | false=>
   rw[show fu c e ⟨true,tz,ts,tb,fY⟩ x=(c,false) by simp only[fu,hp,gO,iY,oy,lK,mN,aH]];exact adG ⟨rfl,ot,rfl,rd,rfl,ev,iW,iX,dw,dI,dH,po,rfl,ev,pL,pM,lj,rfl,oJ,fk _ _ _ _ aH,rfl,aa⟩
  | true=>
   have e1:fu c e ⟨true,tz,ts,tb,fY⟩ x=(setW (ef c e ⟨true,tz-1,ts+x.bF.getD e.toNat 0,tb||x.bO.getD e.toNat false,fY||x.br.getD e.toNat false⟩) tz (gj x e),true):=by
    simp only[fu,hp,gO,iY,oy,lK,mN,aH]
   rw[e1];dsimp only;rw[RB,RA];have wr:=fk _ _ _ _ aH;cases tb with
   | true=>
    cases fY with
    | true=>exact adH ⟨rfl,ot,rfl,rd,rfl,ev,iW,iX,dw,dI,dH,po,rfl,ev,pL,pM,lj,rfl,oJ,wr,rfl,⟨by omega,by omega⟩,rfl,rfl,ev,iW,iX,dw,dI,dH,ev,pb,mT,dH,rfl,rfl,rfl,rfl,rfl,aa⟩
    | false=>exact adI ⟨rfl,ot,rfl,rd,rfl,ev,iW,iX,dw,dI,dH,po,rfl,ev,pL,pM,lj,rfl,oJ,wr,rfl,⟨by omega,by omega⟩,rfl,rfl,ev,Bj,Bk,ev,iW,iX,dw,dI,dH,ev,pb,mT,dH,rfl,rfl,rfl,rfl,rfl,aa⟩
   | false=>
    cases fY with
    | true=>exact adJ ⟨rfl,ot,rfl,rd,rfl,ev,iW,iX,dw,dI,dH,po,rfl,ev,pL,pM,lj,rfl,oJ,wr,rfl,⟨by omega,by omega⟩,rfl,ev,pb,mT,rfl,ev,iW,iX,dw,dI,dH,ev,pb,mT,dH,rfl,rfl,rfl,rfl,rfl,rfl,rfl,aa⟩
    | false=>exact adK ⟨rfl,ot,rfl,rd,rfl,ev,iW,iX,dw,dI,dH,po,rfl,ev,pL,pM,lj,rfl,oJ,wr,rfl,⟨by omega,by omega⟩,rfl,ev,pb,mT,rfl,ev,Bj,Bk,ev,iW,iX,dw,dI,dH,ev,pb,mT,dH,rfl,rfl,rfl,rfl,rfl,rfl,rfl,aa⟩
 case neg=>
  obtain rfl:tz=0:=by omega
  have oJ:decide ((0:Int)>0)=false:=rfl;have e1:=fun b=>acn c e ⟨false,0,ts,tb,fY⟩ b
  have ends:=fun cap=>adV (ef c e ⟨false,0,ts,tb,fY⟩) true x e cap (zY.trans ak) yl (by rw[DB];exact al)
  rw[e1]at ends;cases tb with
  | true=>
   rw[show fu c e ⟨true,0,ts,true,fY⟩ x=(ef c e ⟨false,0,ts,true,fY⟩,true) by simp[fu,hp]];dsimp only;rw[e1];exact adP ⟨rfl,ot,rfl,rd,rfl,ev,iW,iX,dw,dI,dH,po,rfl,ev,pL,pM,lj,rfl,oJ,ev,iW,iX,rfl,aa⟩
  | false=>
  cases hk:x.bO.getD e.toNat false with
  | true=>
   rw[hk]at mT;rw[show fu c e ⟨true,0,ts,false,fY⟩ x=(ef c e ⟨false,0,ts,false,fY⟩,true) by unfold fu;simp only[hp,hk];rfl];dsimp only;rw[e1];exact adO ⟨rfl,ot,rfl,rd,rfl,ev,iW,iX,dw,dI,dH,po,rfl,ev,pL,pM,lj,rfl,oJ,ev,iW,iX,rfl,ev,pb,mT,rfl,aa⟩
  | false=>
  rw[hk]at mT;cases bl:(ts+x.bF.getD e.toNat 0==0) with
  | false=>
   rw[show fu c e ⟨true,0,ts,false,fY⟩ x=(ef c e ⟨false,0,ts,false,fY⟩,true) by unfold fu;simp only[hp,hk,bl];rfl];dsimp only;rw[e1];exact adN ⟨rfl,ot,rfl,rd,rfl,ev,iW,iX,dw,dI,dH,po,rfl,ev,pL,pM,lj,rfl,oJ,ev,iW,iX,rfl,ev,pb,mT,rfl,bl,aa⟩
  | true=>
  rw[show fu c e ⟨true,0,ts,false,fY⟩ x=(jq (setW (ef c e ⟨false,0,ts,false,fY⟩) 0 (told x e (fY||x.br.getD e.toNat false))) (c.news++jm (c.ay.length-1) e (fY||x.br.getD e.toNat false)),true) by unfold fu;simp only[hp,hk,bl];rfl];cases fY with
  | true=>exact adL ⟨rfl,ot,rfl,rd,rfl,ev,iW,iX,dw,dI,dH,po,rfl,ev,pL,pM,lj,rfl,oJ,ev,iW,iX,rfl,ev,pb,mT,rfl,bl,rfl,ends true,aa⟩
  | false=>exact adM ⟨rfl,ot,rfl,rd,rfl,ev,iW,iX,dw,dI,dH,po,rfl,ev,pL,pM,lj,rfl,oJ,ev,iW,iX,rfl,ev,pb,mT,rfl,bl,rfl,ev,Bj,Bk,ends _,aa⟩
