import Derived.Test.YtdchjefneblpgaaGreatP72
set_option linter.unusedVariables false
set_option linter.unusedSimpArgs false
namespace Go.Proofs.YtdchjefneblpgaaGreat
open Go.Sx Go.RowKit Go.Proofs.Tryz
variable{c:a'}{w:Int}
theorem Yj(h:dh c w=none):aw w 0 ((↑(c.az.map aP.e).length:Int)-1)=false:=by
 unfold dh at h;simp only[aw,bl,lp];split at h
 ·rw[List.getElem?_eq_none_iff]at h;omega
 omega
variable{x:aP}
theorem Gg(h:dh c w=some x):aw w 0 ((↑(c.az.map aP.e).length:Int)-1)=true:=by
 obtain⟨h1,U,_⟩:=hS h;simp only[aw,bl,cV];omega
variable{i:Int}
theorem zx{x:bw}(h:hN c i=some x):0<=i/\i<(↑(c.bP.map bw.e).length:Int)/\(c.bP.map bw.e)[i.toNat]?=some x.e:=by
 obtain⟨h1,U,ax⟩:=qk h;exact⟨h1,by rw[bl];omega,bN bw.e ax⟩
theorem zy{x:bw}(h:hN c i=some x)(aj:c.sz<=8388608):x.sz<=8388608:=a'.Kl aj (eD (qk h).2.2)
theorem Oi{x:bw}(h:hN c i=some x)(hw:gl c):x.dy<=9223372036854775807:=hw _ (eD (qk h).2.2)
theorem G4(aj:c.sz<=8388608):aD .i64 ((↑(c.az.map aP.e).length:Int)-1):=by
 have:=a'.x5 aj;exact⟨by rw[bl];omega,by rw[bl];omega⟩
theorem Oj(c:a')(w:Int)(y:aP):(setW c w y).e=[.J 4 (c.aE.nodes.map Node.e),I c.aE.az,I c.aE.cap,.J 8 ((c.az.map aP.e).set w.toNat y.e),.J 6 (c.bP.map bw.e),.J 5 (c.tokens.map b4.e),.J 3 (c.news.map b1.e)]:=by simp only[setW,a'.e,h6]
theorem auc(c:a')(i:Int)(y:bw):(ec c i y).e=[.J 4 (c.aE.nodes.map Node.e),I c.aE.az,I c.aE.cap,.J 8 (c.az.map aP.e),.J 6 ((c.bP.map bw.e).set i.toNat y.e),.J 5 (c.tokens.map b4.e),.J 3 (c.news.map b1.e)]:=by simp only[ec,a'.e,h6]
theorem Yk(c:a')(w i:Int)(y:aP)(z:bw):(setW (ec c i z) w y).e=[.J 4 (c.aE.nodes.map Node.e),I c.aE.az,I c.aE.cap,.J 8 ((c.az.map aP.e).set w.toNat y.e),.J 6 ((c.bP.map bw.e).set i.toNat z.e),.J 5 (c.tokens.map b4.e),.J 3 (c.news.map b1.e)]:=by simp only[setW,ec,a'.e,h6]
theorem Ct(c:a')(w:Int)(y:aP)(b:Bool):ng (setW c w y) b=[.J 4 (c.aE.nodes.map Node.e),I c.aE.az,I c.aE.cap,.J 8 ((c.az.map aP.e).set w.toNat y.e),.J 6 (c.bP.map bw.e),.J 5 (c.tokens.map b4.e),.J 3 (c.news.map b1.e),B b]:=by simp only[setW,ng,h6]
theorem XM(c:a')(i:Int)(y:bw)(b:Bool):ng (ec c i y) b=[.J 4 (c.aE.nodes.map Node.e),I c.aE.az,I c.aE.cap,.J 8 (c.az.map aP.e),.J 6 ((c.bP.map bw.e).set i.toNat y.e),.J 5 (c.tokens.map b4.e),.J 3 (c.news.map b1.e),B b]:=by simp only[ec,ng,h6]
theorem Ol(c:a')(w i:Int)(y:aP)(z:bw)(b:Bool):ng (setW (ec c i z) w y) b=[.J 4 (c.aE.nodes.map Node.e),I c.aE.az,I c.aE.cap,.J 8 ((c.az.map aP.e).set w.toNat y.e),.J 6 ((c.bP.map bw.e).set i.toNat z.e),.J 5 (c.tokens.map b4.e),.J 3 (c.news.map b1.e),B b]:=by simp only[setW,ec,ng,h6]
theorem Om(c:a')(w:Int)(aj:c.sz<=8388608)(hw:gl c):al 145 [.agg c.e,.one (I w)] [.one (B (cU c&&(dh c w).isSome))]:=by
 have k:=Gl c aj hw;cases ok:cU c with
 | false=>rw[ok]at k;exact ato ⟨k,rfl,aa⟩
 | true=>
  rw[ok]at k;cases ah:dh c w with
  | none=>exact X0 ⟨k,rfl,G4 aj,hA _ (Yj ah),aa⟩
  | some x=>exact X0 ⟨k,rfl,G4 aj,hA _ (Gg ah),aa⟩
theorem XN(c:a')(a b:Int)(aj:c.sz<=8388608)(hw:gl c):al 153 [.agg c.e,.one (I a),.one (I b)] [.one (I (if cU c&&a != b then fp c.aE a b else -1))]:=by
 have k:=Gl c aj hw;cases ok:cU c with
 | false=>rw[ok]at k;exact atp ⟨k,rfl,aa⟩
 | true=>
  rw[ok]at k;by_cases fk:a=b
  ·rw[show (true&&a != b)=false by simp[fk]];exact atq ⟨k,rfl,by simp[fk],aa⟩
  rw[show (true&&a != b)=true by simp[fk],bm rfl];exact atr ⟨k,rfl,by simp[fk],Yf c.aE a b (mZ (ix.1 ok).1),aa⟩
theorem aud(c:a')(w:Int)(aj:c.sz<=8388608)(hw:gl c):al 44 [.agg c.e,.one (I w)] [.agg (jL c w).1.e,.one (B (jL c w).2)]:=by
 have cB:=vp c aj;have k:=Om c w aj hw;cases ok:cU c with
 | false=>
  rw[ok]at k;rw[show jL c w=(c,false) by unfold jL;simp[ok]];exact XZ ⟨cB,k,rfl,aa⟩
 | true=>
 cases ah:dh c w with
 | none=>
  rw[ok,ah]at k;rw[show jL c w=(c,false) by unfold jL;simp[ah]];exact XZ ⟨cB,k,rfl,aa⟩
 | some x=>
  rw[ok,ah]at k;obtain⟨c0,cZ,cn⟩:=mw ah;rw[show jL c w=(setW c w (e6 c.aE x).1,(e6 c.aE x).2) by unfold jL;simp[ok,ah]];dsimp only;rw[Oj];exact atI ⟨cB,k,rfl,c0,cZ,cn,auu c.aE x (a'.oc aj) (nd ah aj),c0,cZ,cn,aa⟩
theorem aue(c:a')(w:Int)(aj:c.sz<=8388608)(hw:gl c):al 36 [.agg c.e,.one (I w)] [.agg (jM c w).1.e,.one (B (jM c w).2)]:=by
 have cB:=vp c aj;have k:=Om c w aj hw;cases ok:cU c with
 | false=>
  rw[ok]at k;rw[show jM c w=(c,false) by unfold jM;simp[ok]];exact XW ⟨cB,k,rfl,aa⟩
 | true=>
 cases ah:dh c w with
 | none=>
  rw[ok,ah]at k;rw[show jM c w=(c,false) by unfold jM;simp[ah]];exact XW ⟨cB,k,rfl,aa⟩
 | some x=>
  rw[ok,ah]at k;obtain⟨c0,cZ,cn⟩:=mw ah;rw[show jM c w=(setW c w (e5 c.aE x).1,(e5 c.aE x).2) by unfold jM;simp[ok,ah]];dsimp only;rw[Oj];exact asb ⟨cB,k,rfl,c0,cZ,cn,auv c.aE x (a'.oc aj) (nd ah aj),c0,cZ,cn,aa⟩
theorem Gh(ok:cU c=true)(ah:dh c w=some x):x.bL.length=4/\x.bU.length=4/\x.bx.length=4/\(∀e:Int,0<=e/\e<=3->-1000000<=x.bL.getD e.toNat 0/\x.bL.getD e.toNat 0<=1000000):=by
 obtain⟨_,_,_,_,kR,pb,kt,_,tA,_⟩:=ke.1 (m' ok ah);refine⟨kR,pb,kt,fun e he=>?_⟩;have ap:e.toNat<x.bL.length:=by omega
 rw[ik]at tA;have:=tA _ (nn ap);rw[jB,fJ ap,il];simpa only[oE,gT,ln,aw,cV,v7,Bool.not_not,Bool.not_eq_eq_eq_not,jC,lp,Classical.not_not]using this
variable{r:aq}{t:List aq}
theorem XO(ok:cU c=true)(ah:dh c w=some x)(ao:x.cj=r::t):jN c w=vK c w x r t (jK r.key c.aE.az):=by
 unfold jN;rw[bm ok,ah];dsimp only;rw[ao]
theorem XP{o:Int}(h:o=w):vK c w x r t o=(setW c w (kept (hn x t) r),true):=bm h
variable{l:bw}
theorem XQ{o:Int}(h:o≠w)(ap:hN c (fp c.aE w o)=some l):vK c w x r t o=if (ez l r).2 then (setW (ec c (fp c.aE w o) (ez l r).1) w (lI (hn x t) r.bq.bd),true) else (c,false):=by
 unfold vK;rw[bk h,ap]
theorem auf(c:a')(w:Int)(aj:c.sz<=8388608)(hw:gl c):al 28 [.agg c.e,.one (I w)] [.agg (jN c w).1.e,.one (B (jN c w).2)]:=by
 have cB:=vp c aj;have k:=Om c w aj hw;cases ok:cU c with
 | false=>
  rw[ok]at k;rw[show jN c w=(c,false) by unfold jN;simp[ok]];exact XX ⟨cB,k,rfl,aa⟩
 | true=>
 cases ah:dh c w with
 | none=>
  rw[ok,ah]at k;rw[show jN c w=(c,false) by unfold jN;simp[ah]];exact XX ⟨cB,k,rfl,aa⟩
 | some x=>
 rw[ok,ah]at k;obtain⟨c0,cZ,cn⟩:=mw ah;have aX:=mZ (ix.1 ok).1;cases ao:x.cj with
 | nil=>
  rw[show jN c w=(c,false) by unfold jN;rw[bm ok,ah];dsimp only;rw[ao]];exact asc ⟨cB,k,rfl,c0,cZ,cn,q9 ao,aa⟩
 | cons r t=>
  have c':=nd ah aj;have fx:(hn x t).sz<=8388608:=by have:=NS ao;omega
  have un:=aut x r t c' ao;have qb:=aft r.key c.aE.az (by omega);have aA:=(Gp (m' ok ah) ao).2;have he:=rj aA;obtain⟨f4,_,_,eU⟩:=Gh ok ah;rw[XO ok ah ao];have yU:=V1 r.key aX.1;generalize jK r.key c.aE.az=o at qb yU;by_cases how:o=w
  ·rw[XP how];dsimp only;rw[Oj];exact asd ⟨cB,k,rfl,c0,cZ,cn,lE ao,c0,cZ,cn,un,qb,by rw[dE];exact how,Yi (hn x t) r fx,c0,cZ,cn,aa⟩
  have r2:(o==w)=false:=by rw[jV,gy,dE];exact how
  have win:aw w 0 (c.aE.az-1)=true:=by
   have:=Gg ah;rwa[bl,(ix.1 ok).2.1]at this
  obtain⟨l,ap⟩:=zC ok win yU;obtain⟨kS,kU,kV⟩:=zx ap;have aY:=Yf c.aE w o aX;have k3:=auo l r (zy ap aj) (Oi ap hw);rw[XQ how ap];cases bB:(ez l r).2 with
  | false=>
   rw[bB]at k3;exact ase ⟨cB,k,rfl,c0,cZ,cn,lE ao,c0,cZ,cn,un,qb,r2,aY,kS,kU,kV,k3,rfl,aa⟩
  | true=>
   rw[bB]at k3;rw[bm rfl];dsimp only;rw[Yk];exact asf ⟨cB,k,rfl,c0,cZ,cn,lE ao,c0,cZ,cn,un,qb,r2,aY,kS,kU,kV,k3,rfl,kS,kU,kV,aus (hn x t) r.bq.bd fx f4 he (eU _ he),c0,cZ,cn,aa⟩
variable{a b:Int}
theorem Gi(h:(aw a 0 (c.aE.az-1)&&aw b 0 (c.aE.az-1))=false):hN c (fp c.aE a b)=none:=by
 rw[vO h];rfl
theorem XR(ok:cU c=true)(fk:a≠b)(ap:hN c (fp c.aE a b)=some l)(ah:dh c b=some x):kB c a b=if (dY l).2.2 then (setW (ec c (fp c.aE a b) (dY l).1) b (ig x (dY l).2.1),true) else (c,false):=by
 unfold kB;rw[bm (by simp[ok,fk]),ap,ah]
theorem XS(ok:cU c=true)(fk:a≠b)(ap:hN c (fp c.aE a b)=some l):jO c a b=(ec c (fp c.aE a b) (fO l).1,(fO l).2):=by
 unfold jO;rw[bm (by simp[ok,fk]),ap]
theorem aug(c:a')(a b:Int)(aj:c.sz<=8388608)(hw:gl c):al 31 [.agg c.e,.one (I a),.one (I b)] [.agg (kB c a b).1.e,.one (B (kB c a b).2)]:=by
 have cB:=vp c aj;have k:=XN c a b aj hw;cases h1:(cU c&&a != b) with
 | false=>
  rw[h1,bk (by decide)]at k;rw[show kB c a b=(c,false) by unfold kB;rw[h1];rfl];exact XY ⟨cB,k,dt (by decide),aa⟩
 | true=>
 rw[h1,bm rfl]at k;rw[cx]at h1;obtain⟨ok,fk⟩:=h1;have fk:a≠b:=by simpa using fk
 have aX:=mZ (ix.1 ok).1;cases bJ:(aw a 0 (c.aE.az-1)&&aw b 0 (c.aE.az-1)) with
 | false=>
  rw[vO bJ]at k;rw[show kB c a b=(c,false) by unfold kB;rw[Gi bJ];split<;>rfl];exact XY ⟨cB,k,dt (by decide),aa⟩
 | true=>
 rw[cx]at bJ;obtain⟨l,ap⟩:=zC ok bJ.1 bJ.2;obtain⟨x,ah⟩:∃x,dh c b=some x:=by
  have av:=bJ.2;have:=(ix.1 ok).2.1;simp only[aw,cV]at av;exact CD (by omega) (by omega)
 obtain⟨kS,kU,kV⟩:=zx ap;obtain⟨c0,cZ,cn⟩:=mw ah;have sN:=aup l (zy ap aj) (Oi ap hw);rw[XR ok fk ap ah];cases bB:(dY l).2.2 with
 | false=>
  rw[bB]at sN;exact asg ⟨cB,k,dQ (by omega),kS,kU,kV,sN,rfl,aa⟩
 | true=>
  rw[bB]at sN;have he:=rj (Gq (zA ok ap) bB).2;obtain⟨f4,Ix,_,eU⟩:=Gh ok ah;rw[bm rfl];dsimp only;rw[Yk];exact atH ⟨cB,k,dQ (by omega),kS,kU,kV,sN,rfl,kS,kU,kV,c0,cZ,cn,aur x _ (nd ah aj) f4 Ix he (eU _ he),c0,cZ,cn,aa⟩
theorem auh(c:a')(a b:Int)(aj:c.sz<=8388608)(hw:gl c):al 33 [.agg c.e,.one (I a),.one (I b)] [.agg (jO c a b).1.e,.one (B (jO c a b).2)]:=by
 have cB:=vp c aj;have k:=XN c a b aj hw;cases h1:(cU c&&a != b) with
 | false=>
  rw[h1,bk (by decide)]at k;rw[show jO c a b=(c,false) by unfold jO;rw[h1];rfl];exact YK ⟨cB,k,dt (by decide),aa⟩
 | true=>
 rw[h1,bm rfl]at k;rw[cx]at h1;obtain⟨ok,fk⟩:=h1;have fk:a≠b:=by simpa using fk
 cases bJ:(aw a 0 (c.aE.az-1)&&aw b 0 (c.aE.az-1)) with
 | false=>
  rw[vO bJ]at k;rw[show jO c a b=(c,false) by unfold jO;rw[Gi bJ];split<;>rfl];exact YK ⟨cB,k,dt (by decide),aa⟩
 | true=>
 rw[cx]at bJ;obtain⟨l,ap⟩:=zC ok bJ.1 bJ.2;obtain⟨kS,kU,kV⟩:=zx ap;rw[XS ok fk ap];dsimp only;rw[auc];exact asa ⟨cB,k,dQ (by omega),kS,kU,kV,auq l (zy ap aj) (Oi ap hw),kS,kU,kV,aa⟩
theorem On(c:a')(w:Int)(aj:c.sz<=8388608):bW prog 257 [.ref (gd c) (gd c),.ro (.one (I w))] (.vals [.one (B (cU c&&(dh c w).isSome))]):=by
 unfold gd;cases ok:cU c with
 | false=>exact auM ⟨rfl,aa⟩
 | true=>
  cases ah:dh c w with
  | none=>exact X6 ⟨rfl,G4 aj,gb _ (Yj ah),aa⟩
  | some x=>exact X6 ⟨rfl,G4 aj,gb _ (Gg ah),aa⟩
def GZ(x:aP)(e d:Int):aP:=⟨x.queue,x.cj,x.bO,x.cells,nM x.bL e d,x.bU,x.bx,x.b8⟩
theorem XT(w:aP)(e d:Int):(GZ w e d).e=[.J 5 (w.queue.map aq.e),.J 5 (w.cj.map aq.e),.J 5 (w.bO.map aq.e),.J 4 (w.cells.map Cell.e),.J 1 ((w.bL.map bh).set e.toNat [I (w.bL.getD e.toNat 0+d)]),.J 1 (w.bU.map cD),.J 1 (w.bx.map cD),.J 2 (w.b8.map cR.e)]:=by
 simp only[GZ,nM,aP.e,h6];rfl
theorem XU(c:a')(w e d:Int)(x:aP)(ah:dh c w=some x)(aF:x.bL.length=4)(he:0<=e/\e<=3)(aG:-1<=d/\d<=1)(ao:-1000000<=x.bL.getD e.toNat 0/\x.bL.getD e.toNat 0<=1000000):
  bW prog 259 [.ref (ng c true) (ng (setW c w (GZ x e d)) (aw (x.bL.getD e.toNat 0+d) (-1000000) 1000000)),.ro (.one (I w)),.ro (.one (I e)),.ro (.one (I d))] (.vals []):=by
 obtain⟨c0,cZ,cn⟩:=mw ah;obtain⟨s1,s2⟩:=yO aF he;rw[Ct,XT];exact auR ⟨c0,cZ,cn,c0,cZ,cn,he.1,s1,s2,⟨by omega,by omega⟩,he.1,s1,s2,cn,rfl,rfl,rfl,rfl,rfl,c0,by rw[fR];exact cZ,ia c0 cZ,he.1,by rw[fR];exact s1,ia he.1 s1,jy _ _ _,aa⟩
theorem au9(c:a')(w:Int)(aj:c.sz<=8388608):bW prog 170 [.ref (gd c) (gd (jL c w).1),.ro (.one (I w))] (.vals [.one (B (jL c w).2)]):=by
 have post:=fun h=>alg (c:=c) (w:=w) h
 have is:=On c w aj;cases ok:cU c with
 | false=>
  rw[ok]at is;rw[show jL c w=(c,false) by unfold jL;simp[ok]];exact X8 ⟨is,rfl,aa⟩
 | true=>
 replace post:=post ok;cases ah:dh c w with
 | none=>
  rw[ok,ah]at is;rw[show jL c w=(c,false) by unfold jL;simp[ah]];exact X8 ⟨is,rfl,aa⟩
 | some x=>
 rw[ok,ah]at is;obtain⟨c0,cZ,cn⟩:=mw ah;have c':=nd ah aj;have IC:=(ix.1 ok).1;have G5:=m' ok ah;have hu:e6 c.aE x=match x.cj,x.queue with
  | [],r::q=>(⟨q,(dB c.aE x.cells r).2.1,x.bO,(dB c.aE x.cells r).1,x.bL,x.bU,(if du c.aE r then x.bx.set r.bq.bd.toNat true else x.bx),x.b8⟩,true)
  | _,_=>(x,false):=by unfold e6;rw[IC,G5];rfl
 have tE:jL c w=(setW c w (e6 c.aE x).1,(e6 c.aE x).2):=by unfold jL;simp[ok,ah]
 cases ax:x.cj with
 | cons r q=>
  rw[tE,show e6 c.aE x=(x,false) by rw[hu,ax]];dsimp only;rw[tW ah];exact auX ⟨is,rfl,c0,cZ,cn,tF ax,aa⟩
 | nil=>
 cases aF:x.queue with
 | nil=>
  rw[tE,show e6 c.aE x=(x,false) by rw[hu,ax,aF]];dsimp only;rw[tW ah];exact auY ⟨is,rfl,c0,cZ,cn,jJ ax,q9 aF,aa⟩
 | cons r q=>
  have nE:x.cells.length<=8388608:=by simp only[aP.sz]at c';omega
  have mM:x.queue.length<=8388608:=by simp only[aP.sz]at c';omega
  have ay:=a'.oc aj;have st:=MD c.aE x.cells r ay nE;have n9:=U9 c.aE r ay;obtain⟨cG,_,_,_,_,_,kt,_⟩:=ke.1 G5;rw[aF,tX]at cG;have he:=rj cG.1;obtain⟨c1,c2⟩:=rW kt he;unfold gd at is ⊢;rw[post];rw[ok]at is ⊢;cases aZ:du c.aE r with
  | true=>
   rw[aZ]at n9;rw[tE,show e6 c.aE x=(⟨q,(dB c.aE x.cells r).2.1,x.bO,(dB c.aE x.cells r).1,x.bL,x.bU,x.bx.set r.bq.bd.toNat true,x.b8⟩,true) by rw[hu,ax,aF];simp only[aZ,fX]];have e:aP.e ⟨q,(dB c.aE x.cells r).2.1,x.bO,(dB c.aE x.cells r).1,x.bL,x.bU,x.bx.set r.bq.bd.toNat true,x.b8⟩=[.J 5 ([]++((x.queue.map aq.e).drop 1).take ((x.queue.map aq.e).length-1)),.J 5 ((dB c.aE x.cells r).2.1.map aq.e),.J 5 (x.bO.map aq.e),.J 4 ((dB c.aE x.cells r).1.map Cell.e),.J 1 (x.bL.map bh),.J 1 (x.bU.map cD),.J 1 ((x.bx.map cD).set r.bq.bd.toNat [B true]),.J 2 (x.b8.map cR.e)]:=by
    rw[ub aF];simp only[aP.e,h6];rfl
   dsimp only;rw[Ct,e];have key:=auZ ⟨is,rfl,c0,cZ,cn,jJ ax,lE aF,by omega,lK aF,nf aF,st,nv,nx aF,ny,sK aF mM,sj aF mM,sk aF,n9,rfl,he.1,c1,c2,cn,rfl,rfl,rfl,rfl,c0,by rw[fR];exact cZ,ia c0 cZ,rfl,rfl,rfl,rfl,rfl,aa⟩;simp only[qu]at key;exact key
  | false=>
   rw[aZ]at n9;rw[tE,show e6 c.aE x=(⟨q,(dB c.aE x.cells r).2.1,x.bO,(dB c.aE x.cells r).1,x.bL,x.bU,x.bx,x.b8⟩,true) by rw[hu,ax,aF];simp only[aZ];rfl];have e:aP.e ⟨q,(dB c.aE x.cells r).2.1,x.bO,(dB c.aE x.cells r).1,x.bL,x.bU,x.bx,x.b8⟩=[.J 5 ([]++((x.queue.map aq.e).drop 1).take ((x.queue.map aq.e).length-1)),.J 5 ((dB c.aE x.cells r).2.1.map aq.e),.J 5 (x.bO.map aq.e),.J 4 ((dB c.aE x.cells r).1.map Cell.e),.J 1 (x.bL.map bh),.J 1 (x.bU.map cD),.J 1 (x.bx.map cD),.J 2 (x.b8.map cR.e)]:=by
    rw[ub aF];rfl
   dsimp only;rw[Ct,e];exact au0 ⟨is,rfl,c0,cZ,cn,jJ ax,lE aF,by omega,lK aF,nf aF,st,nv,nx aF,ny,sK aF mM,sj aF mM,sk aF,n9,rfl,c0,cZ,cn,rfl,rfl,rfl,rfl,rfl,aa⟩
theorem ava(c:a')(w:Int)(aj:c.sz<=8388608):bW prog 171 [.ref (gd c) (gd (jM c w).1),.ro (.one (I w))] (.vals [.one (B (jM c w).2)]):=by
 have post:=fun h=>alh (c:=c) (w:=w) h
 have is:=On c w aj;cases ok:cU c with
 | false=>
  rw[ok]at is;rw[show jM c w=(c,false) by unfold jM;simp[ok]];exact X5 ⟨is,rfl,aa⟩
 | true=>
 replace post:=post ok;cases ah:dh c w with
 | none=>
  rw[ok,ah]at is;rw[show jM c w=(c,false) by unfold jM;simp[ah]];exact X5 ⟨is,rfl,aa⟩
 | some x=>
 rw[ok,ah]at is;obtain⟨c0,cZ,cn⟩:=mw ah;have c':=nd ah aj;have IC:=(ix.1 ok).1;have G5:=m' ok ah;have kp:x.bO.length<=8388608:=by simp only[aP.sz]at c';omega
 have hu:e5 c.aE x=match x.cj,x.queue,x.bO with
  | [],[],r::t=>(⟨[r],[],t,x.cells,x.bL,x.bU,x.bx,x.b8⟩,true)
  | _,_,_=>(x,false):=by unfold e5;rw[IC,G5];rfl
 have tE:jM c w=(setW c w (e5 c.aE x).1,(e5 c.aE x).2):=by unfold jM;simp[ok,ah]
 cases ax:x.cj with
 | cons r q=>
  rw[tE,show e5 c.aE x=(x,false) by rw[hu,ax]];dsimp only;rw[tW ah];exact atg ⟨is,rfl,c0,cZ,cn,tF ax,aa⟩
 | nil=>
 cases aF:x.queue with
 | cons r q=>
  rw[tE,show e5 c.aE x=(x,false) by rw[hu,ax,aF]];dsimp only;rw[tW ah];exact auJ ⟨is,rfl,c0,cZ,cn,jJ ax,tF aF,aa⟩
 | nil=>
 cases aZ:x.bO with
 | nil=>
  rw[tE,show e5 c.aE x=(x,false) by rw[hu,ax,aF,aZ]];dsimp only;rw[tW ah];exact auK ⟨is,rfl,c0,cZ,cn,jJ ax,jJ aF,q9 aZ,aa⟩
 | cons r t=>
  unfold gd at is ⊢;rw[post];rw[ok]at is ⊢;rw[tE,show e5 c.aE x=(⟨[r],[],t,x.cells,x.bL,x.bU,x.bx,x.b8⟩,true) by rw[hu,ax,aF,aZ]];have e:aP.e ⟨[r],[],t,x.cells,x.bL,x.bU,x.bx,x.b8⟩=[.J 5 ([r.e]),.J 5 (x.cj.map aq.e),.J 5 ([]++((x.bO.map aq.e).drop 1).take ((x.bO.map aq.e).length-1)),.J 4 (x.cells.map Cell.e),.J 1 (x.bL.map bh),.J 1 (x.bU.map cD),.J 1 (x.bx.map cD),.J 2 (x.b8.map cR.e)]:=by
   rw[ub aZ,ax];rfl
  dsimp only;rw[Ct,e];exact auL ⟨is,rfl,c0,cZ,cn,jJ ax,jJ aF,lE aZ,by omega,lK aZ,nf aZ,nv,nx aZ,ny,sK aZ kp,sj aZ kp,sk aZ,c0,cZ,cn,rfl,rfl,rfl,rfl,rfl,rfl,aa⟩
theorem avb(c:a')(w:Int)(aj:c.sz<=8388608):bW prog 151 [.ref (gd c) (gd (jN c w).1),.ro (.one (I w))] (.vals [.one (B (jN c w).2)]):=by
 have is:=On c w aj;cases ok:cU c with
 | false=>
  rw[ok]at is;rw[show jN c w=(c,false) by unfold jN;simp[ok]];exact X7 ⟨is,rfl,aa⟩
 | true=>
 cases ah:dh c w with
 | none=>
  rw[ok,ah]at is;rw[show jN c w=(c,false) by unfold jN;simp[ah]];exact X7 ⟨is,rfl,aa⟩
 | some x=>
 rw[ok,ah]at is;obtain⟨c0,cZ,cn⟩:=mw ah;have c':=nd ah aj;have aX:=mZ (ix.1 ok).1;cases ao:x.cj with
 | nil=>
  rw[show jN c w=(c,false) by unfold jN;rw[bm ok,ah];dsimp only;rw[ao]];exact auN ⟨is,rfl,c0,cZ,cn,q9 ao,aa⟩
 | cons r t=>
  have qb:=U7 r.key c.aE.az (by omega);have aA:=(Gp (m' ok ah) ao).2;have he:=rj aA;have mM:x.queue.length<=8388608:=by simp only[aP.sz]at c';omega
  have p2:x.cj.length<=8388608:=by simp only[aP.sz]at c';omega
  obtain⟨f4,_,_,eU⟩:=Gh ok ah;rw[XO ok ah ao];have yU:=V1 r.key aX.1;generalize jK r.key c.aE.az=o at qb yU;by_cases how:o=w
  ·have r2:(o != w)=false:=by simp[how]
   rw[XP how];unfold gd at is ⊢;dsimp only;rw[ale ok ah ao];rw[ok]at is ⊢;have e:(kept (hn x t) r).e=[.J 5 (x.queue.map aq.e++[r.e]),.J 5 ([]++((x.cj.map aq.e).drop 1).take ((x.cj.map aq.e).length-1)),.J 5 (x.bO.map aq.e),.J 4 (x.cells.map Cell.e),.J 1 (x.bL.map bh),.J 1 (x.bU.map cD),.J 1 (x.bx.map cD),.J 2 (x.b8.map cR.e)]:=by
    rw[ub ao,Cs];rfl
   rw[Ct,e];have key:=auQ ⟨is,rfl,c0,cZ,cn,lE ao,c0,cZ,cn,by omega,lK ao,nf ao,qb,r2,c0,cZ,cn,u7 mM,u9 mM,cn,rfl,dD (aq.flat r),rfl,rfl,rfl,rfl,rfl,rfl,rfl,rfl,rfl,rfl,rfl,rfl,rfl,c0,cZ,cn,rfl,c0,by rw[fR];exact cZ,ia c0 cZ,nv,nx ao,ny,sK ao p2,sj ao p2,sk ao,c0,by rw[fR];exact cZ,ia c0 cZ,aa⟩;simp only[qu]at key;exact key
  have r2:(o != w)=true:=by simp[how]
  have win:aw w 0 (c.aE.az-1)=true:=by
   have:=Gg ah;rwa[bl,(ix.1 ok).2.1]at this
  obtain⟨l,ap⟩:=zC ok win yU;obtain⟨kS,kU,kV⟩:=zx ap;have aY:=Oh c.aE w o aX;have k3:=Ya l r (zy ap aj);have adO:=fun h=>ald ok ah ao yU how ap h
  rw[XQ how ap];cases bB:(ez l r).2 with
  | false=>
   rw[bB]at k3;exact auO ⟨is,rfl,c0,cZ,cn,lE ao,c0,cZ,cn,by omega,lK ao,nf ao,qb,r2,aY,kS,kU,kV,k3,rfl,aa⟩
  | true=>
   rw[bB]at k3;rw[bm rfl];unfold gd at is ⊢;dsimp only;rw[adO bB];rw[ok]at is ⊢;have x1:=XU (ec c (fp c.aE w o) (ez l r).1) w r.bq.bd 1 x (CE.trans ah) f4 he (by omega) (eU _ he);rw[XM,Ol,XT]at x1;have e:(lI (hn x t) r.bq.bd).e=[.J 5 (x.queue.map aq.e),.J 5 ([]++((x.cj.map aq.e).drop 1).take ((x.cj.map aq.e).length-1)),.J 5 (x.bO.map aq.e),.J 4 (x.cells.map Cell.e),.J 1 ((x.bL.map bh).set r.bq.bd.toNat [I (x.bL.getD r.bq.bd.toNat 0+1)]),.J 1 (x.bU.map cD),.J 1 (x.bx.map cD),.J 2 (x.b8.map cR.e)]:=by
    rw[ub ao,Yh];rfl
   rw[Ol,e];have key:=auP ⟨is,rfl,c0,cZ,cn,lE ao,c0,cZ,cn,by omega,lK ao,nf ao,qb,r2,aY,kS,kU,kV,k3,rfl,kS,kU,kV,x1,c0,by rw[fR];exact cZ,ia c0 cZ,nv,nx ao,ny,sK ao p2,sj ao p2,sk ao,c0,by rw[fR];exact cZ,ia c0 cZ,aa⟩;simp only[qu]at key;exact key
theorem avc(c:a')(a b:Int)(aj:c.sz<=8388608):bW prog 156 [.ref (gd c) (gd (kB c a b).1),.ro (.one (I a)),.ro (.one (I b))] (.vals [.one (B (kB c a b).2)]):=by
 cases ok:cU c with
 | false=>
  rw[show kB c a b=(c,false) by unfold kB;simp[ok]];obtain⟨v,aY⟩:=Ye c.aE a b;unfold gd;rw[ok];exact auS ⟨aY,rfl,aa⟩
 | true=>
 have aX:=mZ (ix.1 ok).1;have aY:=Oh c.aE a b aX;cases bJ:(aw a 0 (c.aE.az-1)&&aw b 0 (c.aE.az-1)) with
 | false=>
  rw[vO bJ]at aY;rw[show kB c a b=(c,false) by unfold kB;rw[Gi bJ];split<;>rfl];unfold gd;rw[ok];exact auT ⟨aY,rfl,dt (by decide),aa⟩
 | true=>
 rw[cx]at bJ;obtain⟨l,ap⟩:=zC ok bJ.1 bJ.2;obtain⟨kS,kU,kV⟩:=zx ap;by_cases fk:a=b
 ·rw[show kB c a b=(c,false) by unfold kB;simp[fk]];unfold gd;rw[ok];exact auU ⟨aY,rfl,dQ (by omega),by simp[fk],aa⟩
 have r2:(a==b)=false:=by simp[fk]
 obtain⟨x,ah⟩:∃x,dh c b=some x:=by
  have av:=bJ.2;have:=(ix.1 ok).2.1;simp only[aw,cV]at av;exact CD (by omega) (by omega)
 obtain⟨c0,cZ,cn⟩:=mw ah;have c':=nd ah aj;have sN:=Yb l (zy ap aj);have adR:=fun h=>alf ok ap ah h
 rw[XR ok fk ap ah];unfold gd;cases bB:(dY l).2.2 with
 | false=>
  rw[bB]at sN;rw[bk (by decide)];dsimp only;rw[ok];exact auV ⟨aY,rfl,dQ (by omega),r2,kS,kU,kV,sN,rfl,aa⟩
 | true=>
  rw[bB]at sN;rw[bm rfl];dsimp only;rw[adR bB,ok];have aA:=(Gq (zA ok ap) bB).2;have he:=rj aA;generalize (dY l).2.1=r at sN aA he ⊢;obtain⟨f4,Ix,_,eU⟩:=Gh ok ah;have mM:x.queue.length<=8388608:=by simp only[aP.sz]at c';omega
  obtain⟨eC,fG⟩:=rW Ix he;have iV:dh (setW (ec c (fp c.aE a b) (dY l).1) b ⟨x.queue++[r],x.cj,x.bO,x.cells,x.bL,x.bU.set r.bq.bd.toNat true,x.bx,x.b8⟩) b=some ⟨x.queue++[r],x.cj,x.bO,x.cells,x.bL,x.bU.set r.bq.bd.toNat true,x.bx,x.b8⟩:=by
   obtain⟨q1,iv,_⟩:=hS ah;unfold dh setW ec;rw[bm q1];exact List.getElem?_set_self iv
  have x1:=XU _ b r.bq.bd (-1) _ iV f4 he (by omega) (eU _ he);rw[Ol]at x1;have e2:aP.e ⟨x.queue++[r],x.cj,x.bO,x.cells,x.bL,x.bU.set r.bq.bd.toNat true,x.bx,x.b8⟩=[.J 5 (x.queue.map aq.e++[r.e]),.J 5 (x.cj.map aq.e),.J 5 (x.bO.map aq.e),.J 4 (x.cells.map Cell.e),.J 1 (x.bL.map bh),.J 1 ((x.bU.map cD).set r.bq.bd.toNat [B true]),.J 1 (x.bx.map cD),.J 2 (x.b8.map cR.e)]:=by
   simp only[aP.e,fQ,h6];rfl
  rw[e2,<-qu]at x1;rw[show setW (setW (ec c (fp c.aE a b) (dY l).1) b ⟨x.queue++[r],x.cj,x.bO,x.cells,x.bL,x.bU.set r.bq.bd.toNat true,x.bx,x.b8⟩) b (GZ ⟨x.queue++[r],x.cj,x.bO,x.cells,x.bL,x.bU.set r.bq.bd.toNat true,x.bx,x.b8⟩ r.bq.bd (-1))=setW (ec c (fp c.aE a b) (dY l).1) b (ig x r) by unfold setW ec;simp only[qu];rfl]at x1;exact auW ⟨aY,rfl,dQ (by omega),r2,kS,kU,kV,sN,rfl,kS,kU,kV,c0,cZ,cn,u7 mM,u9 mM,cn,rfl,dD (aq.flat r),rfl,rfl,rfl,rfl,rfl,rfl,rfl,c0,cZ,cn,rfl,c0,by rw[fR];exact cZ,ia c0 cZ,he.1,eC,fG,ia c0 cZ,rfl,rfl,x1,aa⟩
theorem avd(c:a')(a b:Int)(aj:c.sz<=8388608):bW prog 158 [.ref (gd c) (gd (jO c a b).1),.ro (.one (I a)),.ro (.one (I b))] (.vals [.one (B (jO c a b).2)]):=by
 have post:=fun h=>ali (c:=c) (a:=a) (b:=b) h
 cases ok:cU c with
 | false=>
  rw[show jO c a b=(c,false) by unfold jO;simp[ok]];obtain⟨v,aY⟩:=Ye c.aE a b;unfold gd;rw[ok];exact atc ⟨aY,rfl,aa⟩
 | true=>
 replace post:=post ok;have aX:=mZ (ix.1 ok).1;have aY:=Oh c.aE a b aX;unfold gd;rw[post,ok];cases bJ:(aw a 0 (c.aE.az-1)&&aw b 0 (c.aE.az-1)) with
 | false=>
  rw[vO bJ]at aY;rw[show jO c a b=(c,false) by unfold jO;rw[Gi bJ];split<;>rfl];exact atd ⟨aY,rfl,dt (by decide),aa⟩
 | true=>
 rw[cx]at bJ;obtain⟨l,ap⟩:=zC ok bJ.1 bJ.2;obtain⟨kS,kU,kV⟩:=zx ap;by_cases fk:a=b
 ·rw[show jO c a b=(c,false) by unfold jO;simp[fk]];exact ate ⟨aY,rfl,dQ (by omega),by simp[fk],aa⟩
 rw[XS ok fk ap];dsimp only;rw[XM];exact atf ⟨aY,rfl,dQ (by omega),by simp[fk],kS,kU,kV,Yc l (zy ap aj),kS,kU,kV,aa⟩
theorem Oo(c:a')(p:cN)(aj:c.sz<=8388608):bW prog 128 [.ref (gd c) (gd (dK c p).1),.ro (.agg p.e)] (.vals [.one (B (dK c p).2)]):=by
 by_cases h1:p.kind=1
 ·rw[show dK c p=jL c p.a by unfold dK;simp[h1]];exact au1 ⟨by rw[dE];exact h1,au9 c p.a aj,aa⟩
 have eZ:(p.kind==1)=false:=by rw[jV,gy,dE];exact h1
 by_cases U:p.kind=2
 ·rw[show dK c p=jM c p.a by unfold dK;simp[U]];exact au2 ⟨eZ,by rw[dE];exact U,ava c p.a aj,aa⟩
 have ga:(p.kind==2)=false:=by rw[jV,gy,dE];exact U
 by_cases ax:p.kind=3
 ·rw[show dK c p=jN c p.a by unfold dK;simp[ax]];exact au3 ⟨eZ,ga,by rw[dE];exact ax,avb c p.a aj,aa⟩
 have gF:(p.kind==3)=false:=by rw[jV,gy,dE];exact ax
 by_cases aF:p.kind=4
 ·rw[show dK c p=kB c p.a p.b by unfold dK;simp[aF]];exact au4 ⟨eZ,ga,gF,by rw[dE];exact aF,avc c p.a p.b aj,aa⟩
 have ju:(p.kind==4)=false:=by rw[jV,gy,dE];exact aF
 by_cases aZ:p.kind=5
 ·rw[show dK c p=jO c p.a p.b by unfold dK;simp[aZ]];exact au5 ⟨eZ,ga,gF,ju,by rw[dE];exact aZ,avd c p.a p.b aj,aa⟩
 have kv:(p.kind==5)=false:=by rw[jV,gy,dE];exact aZ
 by_cases bB:p.kind=6
 ·rw[show dK c p=je c p.a by unfold dK;simp[bB]];exact au6 ⟨eZ,ga,gF,ju,kv,by rw[dE];exact bB,asA c p.a aj,aa⟩
 have n6:(p.kind==6)=false:=by rw[jV,gy,dE];exact bB
 by_cases bS:p.kind=7
 ·rw[show dK c p=kx c p.a by unfold dK;simp[bS]];exact au7 ⟨eZ,ga,gF,ju,kv,n6,by rw[dE];exact bS,aqN c p.a aj,aa⟩
 have n7:(p.kind==7)=false:=by rw[jV,gy,dE];exact bS
 rw[show dK c p=(c,false) by unfold dK;simp[h1,U,ax,aF,aZ,bB,bS]];exact au8 ⟨eZ,ga,gF,ju,kv,n6,n7,aa⟩
theorem ave(c:a')(p:cN)(aj:c.sz<=8388608)(hw:gl c):al 87 [.agg c.e,.agg p.e] [.agg (dK c p).1.e,.one (B (dK c p).2)]:=by
 by_cases h1:p.kind=1
 ·rw[show dK c p=jL c p.a by unfold dK;simp[h1]];exact atQ ⟨by rw[dE];exact h1,aud c p.a aj hw,aa⟩
 have eZ:(p.kind==1)=false:=by rw[jV,gy,dE];exact h1
 by_cases U:p.kind=2
 ·rw[show dK c p=jM c p.a by unfold dK;simp[U]];exact atS ⟨eZ,by rw[dE];exact U,aue c p.a aj hw,aa⟩
 have ga:(p.kind==2)=false:=by rw[jV,gy,dE];exact U
 by_cases ax:p.kind=3
 ·rw[show dK c p=jN c p.a by unfold dK;simp[ax]];exact atT ⟨eZ,ga,by rw[dE];exact ax,auf c p.a aj hw,aa⟩
 have gF:(p.kind==3)=false:=by rw[jV,gy,dE];exact ax
 by_cases aF:p.kind=4
 ·rw[show dK c p=kB c p.a p.b by unfold dK;simp[aF]];exact atU ⟨eZ,ga,gF,by rw[dE];exact aF,aug c p.a p.b aj hw,aa⟩
 have ju:(p.kind==4)=false:=by rw[jV,gy,dE];exact aF
 by_cases aZ:p.kind=5
 ·rw[show dK c p=jO c p.a p.b by unfold dK;simp[aZ]];exact atV ⟨eZ,ga,gF,ju,by rw[dE];exact aZ,auh c p.a p.b aj hw,aa⟩
 have kv:(p.kind==5)=false:=by rw[jV,gy,dE];exact aZ
 by_cases bB:p.kind=6
 ·rw[show dK c p=je c p.a by unfold dK;simp[bB]];exact atW ⟨eZ,ga,gF,ju,kv,by rw[dE];exact bB,asD c p.a aj hw,aa⟩
 have n6:(p.kind==6)=false:=by rw[jV,gy,dE];exact bB
 by_cases bS:p.kind=7
 ·rw[show dK c p=kx c p.a by unfold dK;simp[bS]];exact atX ⟨eZ,ga,gF,ju,kv,n6,by rw[dE];exact bS,aqO c p.a aj hw,aa⟩
 have n7:(p.kind==7)=false:=by rw[jV,gy,dE];exact bS
 rw[show dK c p=(c,false) by unfold dK;simp[h1,U,ax,aF,aZ,bB,bS]];exact atY ⟨eZ,ga,gF,ju,kv,n6,n7,vp c aj,aa⟩
theorem avf(c:a')(p:cN)(aj:c.sz<=8388608)(hw:gl c):al 204 [.agg c.e,.agg p.e] [.agg (dK c p).1.e,.one (B (dK c p).2)]:=
 as8 ⟨GL c aj hw,Oo c p aj,aa⟩
