import Derived.Test.YtdchjefneblpgaaGreatP72
set_option linter.unusedVariables false
set_option linter.unusedSimpArgs false
namespace Go.Proofs.YtdchjefneblpgaaGreat
open Go.Sx Go.RowKit Go.Proofs.Tryz
variable{c:bb}{w:Int}
theorem SB(h:c4 c w=none):ap w 0 ((↑(c.ay.map aP.e).length:Int)-1)=false:=by
 unfold c4 at h;simp only[ap,bm,ki];split at h
 ·rw[List.getElem?_eq_none_iff]at h;omega
 omega
variable{x:aP}
theorem DO(h:c4 c w=some x):ap w 0 ((↑(c.ay.map aP.e).length:Int)-1)=true:=by
 obtain⟨h1,U,_⟩:=jW h;simp only[ap,bm,cK];omega
variable{i:Int}
theorem xr{x:bt}(h:fO c i=some x):0<=i/\i<(↑(c.bV.map bt.e).length:Int)/\(c.bV.map bt.e)[i.toNat]?=some x.e:=by
 obtain⟨h1,U,ax⟩:=oQ h;exact⟨h1,by rw[bm];omega,bM bt.e ax⟩
theorem xt{x:bt}(h:fO c i=some x)(ah:c.sz<=8388608):x.sz<=8388608:=bb.Hy ah (eX (oQ h).2.2)
theorem KR{x:bt}(h:fO c i=some x)(hw:fw c):x.c5<=9223372036854775807:=hw _ (eX (oQ h).2.2)
theorem Ex(ah:c.sz<=8388608):az .i64 ((↑(c.ay.map aP.e).length:Int)-1):=by
 have:=bb.x3 ah;exact⟨by rw[bm];omega,by rw[bm];omega⟩
theorem SC(c:bb)(w:Int)(y:aP):(setW c w y).e=[.J 4 (c.aF.nodes.map Node.e),I c.aF.ay,I c.aF.cap,.J 8 ((c.ay.map aP.e).set w.toNat y.e),.J 6 (c.bV.map bt.e),.J 5 (c.tokens.map b2.e),.J 3 (c.news.map cb.e)]:=by simp only[setW,bb.e,iB]
theorem aiN(c:bb)(i:Int)(y:bt):(dB c i y).e=[.J 4 (c.aF.nodes.map Node.e),I c.aF.ay,I c.aF.cap,.J 8 (c.ay.map aP.e),.J 6 ((c.bV.map bt.e).set i.toNat y.e),.J 5 (c.tokens.map b2.e),.J 3 (c.news.map cb.e)]:=by simp only[dB,bb.e,iB]
theorem SD(c:bb)(w i:Int)(y:aP)(z:bt):(setW (dB c i z) w y).e=[.J 4 (c.aF.nodes.map Node.e),I c.aF.ay,I c.aF.cap,.J 8 ((c.ay.map aP.e).set w.toNat y.e),.J 6 ((c.bV.map bt.e).set i.toNat z.e),.J 5 (c.tokens.map b2.e),.J 3 (c.news.map cb.e)]:=by simp only[setW,dB,bb.e,iB]
theorem Ad(c:bb)(w:Int)(y:aP)(b:Bool):lq (setW c w y) b=[.J 4 (c.aF.nodes.map Node.e),I c.aF.ay,I c.aF.cap,.J 8 ((c.ay.map aP.e).set w.toNat y.e),.J 6 (c.bV.map bt.e),.J 5 (c.tokens.map b2.e),.J 3 (c.news.map cb.e),B b]:=by simp only[setW,lq,iB]
theorem SE(c:bb)(i:Int)(y:bt)(b:Bool):lq (dB c i y) b=[.J 4 (c.aF.nodes.map Node.e),I c.aF.ay,I c.aF.cap,.J 8 (c.ay.map aP.e),.J 6 ((c.bV.map bt.e).set i.toNat y.e),.J 5 (c.tokens.map b2.e),.J 3 (c.news.map cb.e),B b]:=by simp only[dB,lq,iB]
theorem KS(c:bb)(w i:Int)(y:aP)(z:bt)(b:Bool):lq (setW (dB c i z) w y) b=[.J 4 (c.aF.nodes.map Node.e),I c.aF.ay,I c.aF.cap,.J 8 ((c.ay.map aP.e).set w.toNat y.e),.J 6 ((c.bV.map bt.e).set i.toNat z.e),.J 5 (c.tokens.map b2.e),.J 3 (c.news.map cb.e),B b]:=by simp only[setW,dB,lq,iB]
theorem SF(c:bb)(w:Int)(ah:c.sz<=8388608)(hw:fw c):av 145 [.agg c.e,.one (I w)] [.one (B (cL c&&(c4 c w).isSome))]:=by
 have k:=Sm c ah hw;cases ok:cL c with
 | false=>rw[ok]at k;exact age ⟨k,rfl,aa⟩
 | true=>
  rw[ok]at k;cases ag:c4 c w with
  | none=>exact Tz ⟨k,rfl,Ex ah,hS _ (SB ag),aa⟩
  | some x=>exact Tz ⟨k,rfl,Ex ah,hS _ (DO ag),aa⟩
theorem SG(c:bb)(a b:Int)(ah:c.sz<=8388608)(hw:fw c):av 153 [.agg c.e,.one (I a),.one (I b)] [.one (I (if cL c&&a != b then eE c.aF a b else -1))]:=by
 have k:=Sm c ah hw;cases ok:cL c with
 | false=>rw[ok]at k;exact agf ⟨k,rfl,aa⟩
 | true=>
  rw[ok]at k;by_cases fc:a=b
  ·rw[show (true&&a != b)=false by simp[fc]];exact agh ⟨k,rfl,by simp[fc],aa⟩
  rw[show (true&&a != b)=true by simp[fc],br rfl];exact agi ⟨k,rfl,by simp[fc],S0 c.aF a b (lm (hn.1 ok).1),aa⟩
theorem aiO(c:bb)(w:Int)(ah:c.sz<=8388608)(hw:fw c):av 36 [.agg c.e,.one (I w)] [.agg (gW c w).1.e,.one (B (gW c w).2)]:=by
 have dp:=Eb c ah;have k:=SF c w ah hw;cases ok:cL c with
 | false=>
  rw[ok]at k;rw[show gW c w=(c,false) by unfold gW;simp[ok]];exact Tw ⟨dp,k,rfl,aa⟩
 | true=>
 cases ag:c4 c w with
 | none=>
  rw[ok,ag]at k;rw[show gW c w=(c,false) by unfold gW;simp[ag]];exact Tw ⟨dp,k,rfl,aa⟩
 | some x=>
  rw[ok,ag]at k;obtain⟨c',c6,dm⟩:=nX ag;rw[show gW c w=(setW c w (eB c.aF x).1,(eB c.aF x).2) by unfold gW;simp[ok,ag]];dsimp only;rw[SC];exact agH ⟨dp,k,rfl,c',c6,dm,ahh c.aF x (bb.nj ah) (p6 ag ah),c',c6,dm,aa⟩
theorem DP(ok:cL c=true)(ag:c4 c w=some x):x.bH.length=4/\x.bU.length=4/\x.bK.length=4/\(∀e:Int,0<=e/\e<=3->-1000000<=x.bH.getD e.toNat 0/\x.bH.getD e.toNat 0<=1000000):=by
 obtain⟨_,_,_,_,jv,nz,jT,_,r1,_⟩:=jc.1 (ln ok ag);refine⟨jv,nz,jT,fun e he=>?_⟩;have ak:e.toNat<x.bH.length:=by omega
 rw[hr]at r1;have:=r1 _ (x9 ak);rw[ik,gp ak,iA];simpa only[mM,g',kD,ap,cK,uf,Bool.not_not,Bool.not_eq_eq_eq_not,jJ,ki,Classical.not_not]using this
variable{r:aA}{t:List aA}
theorem SH(ok:cL c=true)(ag:c4 c w=some x)(ai:x.cg=r::t):gl c w=sk c w x r t (ic r.key c.aF.ay):=by
 unfold gl;rw[br ok,ag];dsimp only;rw[ai]
theorem SI{o:Int}(h:o=w):sk c w x r t o=(setW c w (kept (gy x t) r),true):=br h
variable{l:bt}
theorem TO{o:Int}(h:o≠w)(ak:fO c (eE c.aF w o)=some l):sk c w x r t o=if (dR l r).2 then (setW (dB c (eE c.aF w o) (dR l r).1) w (kx (gy x t) r.bx.bf),true) else (c,false):=by
 unfold sk;rw[bg h,ak]
theorem aiP(c:bb)(w:Int)(ah:c.sz<=8388608)(hw:fw c):av 28 [.agg c.e,.one (I w)] [.agg (gl c w).1.e,.one (B (gl c w).2)]:=by
 have dp:=Eb c ah;have k:=SF c w ah hw;cases ok:cL c with
 | false=>
  rw[ok]at k;rw[show gl c w=(c,false) by unfold gl;simp[ok]];exact Tx ⟨dp,k,rfl,aa⟩
 | true=>
 cases ag:c4 c w with
 | none=>
  rw[ok,ag]at k;rw[show gl c w=(c,false) by unfold gl;simp[ag]];exact Tx ⟨dp,k,rfl,aa⟩
 | some x=>
 rw[ok,ag]at k;obtain⟨c',c6,dm⟩:=nX ag;have aT:=lm (hn.1 ok).1;cases ai:x.cg with
 | nil=>
  rw[show gl c w=(c,false) by unfold gl;rw[br ok,ag];dsimp only;rw[ai]];exact agI ⟨dp,k,rfl,c',c6,dm,qI ai,aa⟩
 | cons r t=>
  have ek:=p6 ag ah;have iH:(gy x t).sz<=8388608:=by have:=Jv ai;omega
  have un:=ahg x r t ek ai;have oM:=aa7 r.key c.aF.ay (by omega);have aD:=(D3 (ln ok ag) ai).2;have he:=q2 aD;obtain⟨f4,_,_,ep⟩:=DP ok ag;rw[SH ok ag ai];have w5:=RJ r.key aT.1;generalize ic r.key c.aF.ay=o at oM w5;by_cases how:o=w
  ·rw[SI how];dsimp only;rw[SC];exact agJ ⟨dp,k,rfl,c',c6,dm,kN ai,c',c6,dm,un,oM,by rw[dY];exact how,S3 (gy x t) r iH,c',c6,dm,aa⟩
  have qt:(o==w)=false:=by rw[lr,gM,dY];exact how
  have win:ap w 0 (c.aF.ay-1)=true:=by
   have:=DO ag;rwa[bm,(hn.1 ok).2.1]at this
  obtain⟨l,ak⟩:=xQ ok win w5;obtain⟨jw,jx,jy⟩:=xr ak;have aW:=S0 c.aF w o aT;have jG:=ahb l r (xt ak ah) (KR ak hw);rw[TO how ak];cases bw:(dR l r).2 with
  | false=>
   rw[bw]at jG;exact agK ⟨dp,k,rfl,c',c6,dm,kN ai,c',c6,dm,un,oM,qt,aW,jw,jx,jy,jG,rfl,aa⟩
  | true=>
   rw[bw]at jG;rw[br rfl];dsimp only;rw[SD];exact agL ⟨dp,k,rfl,c',c6,dm,kN ai,c',c6,dm,un,oM,qt,aW,jw,jx,jy,jG,rfl,jw,jx,jy,ahf (gy x t) r.bx.bf iH f4 he (ep _ he),c',c6,dm,aa⟩
variable{a b:Int}
theorem DQ(h:(ap a 0 (c.aF.ay-1)&&ap b 0 (c.aF.ay-1))=false):fO c (eE c.aF a b)=none:=by
 rw[tp h];rfl
theorem TP(ok:cL c=true)(fc:a≠b)(ak:fO c (eE c.aF a b)=some l)(ag:c4 c b=some x):gm c a b=if (dt l).2.2 then (setW (dB c (eE c.aF a b) (dt l).1) b (ho x (dt l).2.1),true) else (c,false):=by
 unfold gm;rw[br (by simp[ok,fc]),ak,ag]
theorem TQ(ok:cL c=true)(fc:a≠b)(ak:fO c (eE c.aF a b)=some l):gJ c a b=(dB c (eE c.aF a b) (eY l).1,(eY l).2):=by
 unfold gJ;rw[br (by simp[ok,fc]),ak]
theorem aiQ(c:bb)(a b:Int)(ah:c.sz<=8388608)(hw:fw c):av 31 [.agg c.e,.one (I a),.one (I b)] [.agg (gm c a b).1.e,.one (B (gm c a b).2)]:=by
 have dp:=Eb c ah;have k:=SG c a b ah hw;cases h1:(cL c&&a != b) with
 | false=>
  rw[h1,bg (by decide)]at k;rw[show gm c a b=(c,false) by unfold gm;rw[h1];rfl];exact Ty ⟨dp,k,dZ (by decide),aa⟩
 | true=>
 rw[h1,br rfl]at k;rw[cq]at h1;obtain⟨ok,fc⟩:=h1;have fc:a≠b:=by simpa using fc
 have aT:=lm (hn.1 ok).1;cases bB:(ap a 0 (c.aF.ay-1)&&ap b 0 (c.aF.ay-1)) with
 | false=>
  rw[tp bB]at k;rw[show gm c a b=(c,false) by unfold gm;rw[DQ bB];split<;>rfl];exact Ty ⟨dp,k,dZ (by decide),aa⟩
 | true=>
 rw[cq]at bB;obtain⟨l,ak⟩:=xQ ok bB.1 bB.2;obtain⟨x,ag⟩:∃x,c4 c b=some x:=by
  have aq:=bB.2;have:=(hn.1 ok).2.1;simp only[ap,cK]at aq;exact AI (by omega) (by omega)
 obtain⟨jw,jx,jy⟩:=xr ak;obtain⟨c',c6,dm⟩:=nX ag;have q9:=ahc l (xt ak ah) (KR ak hw);rw[TP ok fc ak ag];cases bw:(dt l).2.2 with
 | false=>
  rw[bw]at q9;exact agM ⟨dp,k,eD (by omega),jw,jx,jy,q9,rfl,aa⟩
 | true=>
  rw[bw]at q9;have he:=q2 (D4 (xO ok ak) bw).2;obtain⟨f4,FE,_,ep⟩:=DP ok ag;rw[br rfl];dsimp only;rw[SD];exact agN ⟨dp,k,eD (by omega),jw,jx,jy,q9,rfl,jw,jx,jy,c',c6,dm,ahe x _ (p6 ag ah) f4 FE he (ep _ he),c',c6,dm,aa⟩
theorem aiR(c:bb)(a b:Int)(ah:c.sz<=8388608)(hw:fw c):av 33 [.agg c.e,.one (I a),.one (I b)] [.agg (gJ c a b).1.e,.one (B (gJ c a b).2)]:=by
 have dp:=Eb c ah;have k:=SG c a b ah hw;cases h1:(cL c&&a != b) with
 | false=>
  rw[h1,bg (by decide)]at k;rw[show gJ c a b=(c,false) by unfold gJ;rw[h1];rfl];exact Tv ⟨dp,k,dZ (by decide),aa⟩
 | true=>
 rw[h1,br rfl]at k;rw[cq]at h1;obtain⟨ok,fc⟩:=h1;have fc:a≠b:=by simpa using fc
 cases bB:(ap a 0 (c.aF.ay-1)&&ap b 0 (c.aF.ay-1)) with
 | false=>
  rw[tp bB]at k;rw[show gJ c a b=(c,false) by unfold gJ;rw[DQ bB];split<;>rfl];exact Tv ⟨dp,k,dZ (by decide),aa⟩
 | true=>
 rw[cq]at bB;obtain⟨l,ak⟩:=xQ ok bB.1 bB.2;obtain⟨jw,jx,jy⟩:=xr ak;rw[TQ ok fc ak];dsimp only;rw[aiN];exact agG ⟨dp,k,eD (by omega),jw,jx,jy,ahd l (xt ak ah) (KR ak hw),jw,jx,jy,aa⟩
theorem KT(c:bb)(w:Int)(ah:c.sz<=8388608):bT prog 257 [.ref (fj c) (fj c),.ro (.one (I w))] (.vals [.one (B (cL c&&(c4 c w).isSome))]):=by
 unfold fj;cases ok:cL c with
 | false=>exact ahA ⟨rfl,aa⟩
 | true=>
  cases ag:c4 c w with
  | none=>exact SO ⟨rfl,Ex ah,fu _ (SB ag),aa⟩
  | some x=>exact SO ⟨rfl,Ex ah,fu _ (DO ag),aa⟩
def Er(x:aP)(e d:Int):aP:=⟨x.queue,x.cg,x.b8,x.cells,lO x.bH e d,x.bU,x.bK,x.b'⟩
theorem TR(w:aP)(e d:Int):(Er w e d).e=[.J 5 (w.queue.map aA.e),.J 5 (w.cg.map aA.e),.J 5 (w.b8.map aA.e),.J 4 (w.cells.map Cell.e),.J 1 ((w.bH.map a8).set e.toNat [I (w.bH.getD e.toNat 0+d)]),.J 1 (w.bU.map cu),.J 1 (w.bK.map cu),.J 2 (w.b'.map cD.e)]:=by
 simp only[Er,lO,aP.e,iB];rfl
theorem TS(c:bb)(w e d:Int)(x:aP)(ag:c4 c w=some x)(aK:x.bH.length=4)(he:0<=e/\e<=3)(aE:-1<=d/\d<=1)(ai:-1000000<=x.bH.getD e.toNat 0/\x.bH.getD e.toNat 0<=1000000):
  bT prog 259 [.ref (lq c true) (lq (setW c w (Er x e d)) (ap (x.bH.getD e.toNat 0+d) (-1000000) 1000000)),.ro (.one (I w)),.ro (.one (I e)),.ro (.one (I d))] (.vals []):=by
 obtain⟨c',c6,dm⟩:=nX ag;obtain⟨s1,s2⟩:=zj aK he;rw[Ad,TR];exact ahF ⟨c',c6,dm,c',c6,dm,he.1,s1,s2,⟨by omega,by omega⟩,he.1,s1,s2,dm,rfl,rfl,rfl,rfl,rfl,c',by rw[fb];exact c6,rD c' c6,he.1,by rw[fb];exact s1,rD he.1 s1,ia _ _ _,aa⟩
theorem ah1(c:bb)(w:Int)(ah:c.sz<=8388608):bT prog 170 [.ref (fj c) (fj (lS c w).1),.ro (.one (I w))] (.vals [.one (B (lS c w).2)]):=by
 have post:=fun h=>ads (c:=c) (w:=w) h
 have is:=KT c w ah;cases ok:cL c with
 | false=>
  rw[ok]at is;rw[show lS c w=(c,false) by unfold lS;simp[ok]];exact SQ ⟨is,rfl,aa⟩
 | true=>
 replace post:=post ok;cases ag:c4 c w with
 | none=>
  rw[ok,ag]at is;rw[show lS c w=(c,false) by unfold lS;simp[ag]];exact SQ ⟨is,rfl,aa⟩
 | some x=>
 rw[ok,ag]at is;obtain⟨c',c6,dm⟩:=nX ag;have ek:=p6 ag ah;have FK:=(hn.1 ok).1;have Ey:=ln ok ag;have hu:fJ c.aF x=match x.cg,x.queue with
  | [],r::q=>(⟨q,(eI c.aF x.cells r).2.1,x.b8,(eI c.aF x.cells r).1,x.bH,x.bU,(if dT c.aF r then x.bK.set r.bx.bf.toNat true else x.bK),x.b'⟩,true)
  | _,_=>(x,false):=by unfold fJ;rw[FK,Ey];rfl
 have r6:lS c w=(setW c w (fJ c.aF x).1,(fJ c.aF x).2):=by unfold lS;simp[ok,ag]
 cases ax:x.cg with
 | cons r q=>
  rw[r6,show fJ c.aF x=(x,false) by rw[hu,ax]];dsimp only;rw[tj ag];exact ahL ⟨is,rfl,c',c6,dm,tf ax,aa⟩
 | nil=>
 cases aK:x.queue with
 | nil=>
  rw[r6,show fJ c.aF x=(x,false) by rw[hu,ax,aK]];dsimp only;rw[tj ag];exact ahM ⟨is,rfl,c',c6,dm,jB ax,qI aK,aa⟩
 | cons r q=>
  have py:x.cells.length<=8388608:=by simp only[aP.sz]at ek;omega
  have la:x.queue.length<=8388608:=by simp only[aP.sz]at ek;omega
  have au:=bb.nj ah;have st:=Sg c.aF x.cells r au py;have ry:=Sh c.aF r au;obtain⟨cV,_,_,_,_,_,jT,_⟩:=jc.1 Ey;rw[aK,tk]at cV;have he:=q2 cV.1;obtain⟨c1,c2⟩:=uK jT he;unfold fj at is ⊢;rw[post];rw[ok]at is ⊢;cases aV:dT c.aF r with
  | true=>
   rw[aV]at ry;rw[r6,show fJ c.aF x=(⟨q,(eI c.aF x.cells r).2.1,x.b8,(eI c.aF x.cells r).1,x.bH,x.bU,x.bK.set r.bx.bf.toNat true,x.b'⟩,true) by rw[hu,ax,aK];simp only[aV,gL]];have e:aP.e ⟨q,(eI c.aF x.cells r).2.1,x.b8,(eI c.aF x.cells r).1,x.bH,x.bU,x.bK.set r.bx.bf.toNat true,x.b'⟩=[.J 5 ([]++((x.queue.map aA.e).drop 1).take ((x.queue.map aA.e).length-1)),.J 5 ((eI c.aF x.cells r).2.1.map aA.e),.J 5 (x.b8.map aA.e),.J 4 ((eI c.aF x.cells r).1.map Cell.e),.J 1 (x.bH.map a8),.J 1 (x.bU.map cu),.J 1 ((x.bK.map cu).set r.bx.bf.toNat [B true]),.J 2 (x.b'.map cD.e)]:=by
    rw[sr aK];simp only[aP.e,iB];rfl
   dsimp only;rw[Ad,e];have key:=ahN ⟨is,rfl,c',c6,dm,jB ax,kN aK,by omega,kZ aK,mN aK,st,ng,nh aK,ni,q3 aK la,q4 aK la,q5 aK,ry,rfl,he.1,c1,c2,dm,rfl,rfl,rfl,rfl,c',by rw[fb];exact c6,rD c' c6,rfl,rfl,rfl,rfl,rfl,aa⟩;simp only[Bt]at key;exact key
  | false=>
   rw[aV]at ry;rw[r6,show fJ c.aF x=(⟨q,(eI c.aF x.cells r).2.1,x.b8,(eI c.aF x.cells r).1,x.bH,x.bU,x.bK,x.b'⟩,true) by rw[hu,ax,aK];simp only[aV];rfl];have e:aP.e ⟨q,(eI c.aF x.cells r).2.1,x.b8,(eI c.aF x.cells r).1,x.bH,x.bU,x.bK,x.b'⟩=[.J 5 ([]++((x.queue.map aA.e).drop 1).take ((x.queue.map aA.e).length-1)),.J 5 ((eI c.aF x.cells r).2.1.map aA.e),.J 5 (x.b8.map aA.e),.J 4 ((eI c.aF x.cells r).1.map Cell.e),.J 1 (x.bH.map a8),.J 1 (x.bU.map cu),.J 1 (x.bK.map cu),.J 2 (x.b'.map cD.e)]:=by
    rw[sr aK];rfl
   dsimp only;rw[Ad,e];exact ahO ⟨is,rfl,c',c6,dm,jB ax,kN aK,by omega,kZ aK,mN aK,st,ng,nh aK,ni,q3 aK la,q4 aK la,q5 aK,ry,rfl,c',c6,dm,rfl,rfl,rfl,rfl,rfl,aa⟩
theorem ah2(c:bb)(w:Int)(ah:c.sz<=8388608):bT prog 171 [.ref (fj c) (fj (gW c w).1),.ro (.one (I w))] (.vals [.one (B (gW c w).2)]):=by
 have post:=fun h=>adt (c:=c) (w:=w) h
 have is:=KT c w ah;cases ok:cL c with
 | false=>
  rw[ok]at is;rw[show gW c w=(c,false) by unfold gW;simp[ok]];exact SN ⟨is,rfl,aa⟩
 | true=>
 replace post:=post ok;cases ag:c4 c w with
 | none=>
  rw[ok,ag]at is;rw[show gW c w=(c,false) by unfold gW;simp[ag]];exact SN ⟨is,rfl,aa⟩
 | some x=>
 rw[ok,ag]at is;obtain⟨c',c6,dm⟩:=nX ag;have ek:=p6 ag ah;have FK:=(hn.1 ok).1;have Ey:=ln ok ag;have iR:x.b8.length<=8388608:=by simp only[aP.sz]at ek;omega
 have hu:eB c.aF x=match x.cg,x.queue,x.b8 with
  | [],[],r::t=>(⟨[r],[],t,x.cells,x.bH,x.bU,x.bK,x.b'⟩,true)
  | _,_,_=>(x,false):=by unfold eB;rw[FK,Ey];rfl
 have r6:gW c w=(setW c w (eB c.aF x).1,(eB c.aF x).2):=by unfold gW;simp[ok,ag]
 cases ax:x.cg with
 | cons r q=>
  rw[r6,show eB c.aF x=(x,false) by rw[hu,ax]];dsimp only;rw[tj ag];exact ahw ⟨is,rfl,c',c6,dm,tf ax,aa⟩
 | nil=>
 cases aK:x.queue with
 | cons r q=>
  rw[r6,show eB c.aF x=(x,false) by rw[hu,ax,aK]];dsimp only;rw[tj ag];exact ahx ⟨is,rfl,c',c6,dm,jB ax,tf aK,aa⟩
 | nil=>
 cases aV:x.b8 with
 | nil=>
  rw[r6,show eB c.aF x=(x,false) by rw[hu,ax,aK,aV]];dsimp only;rw[tj ag];exact ahy ⟨is,rfl,c',c6,dm,jB ax,jB aK,qI aV,aa⟩
 | cons r t=>
  unfold fj at is ⊢;rw[post];rw[ok]at is ⊢;rw[r6,show eB c.aF x=(⟨[r],[],t,x.cells,x.bH,x.bU,x.bK,x.b'⟩,true) by rw[hu,ax,aK,aV]];have e:aP.e ⟨[r],[],t,x.cells,x.bH,x.bU,x.bK,x.b'⟩=[.J 5 ([r.e]),.J 5 (x.cg.map aA.e),.J 5 ([]++((x.b8.map aA.e).drop 1).take ((x.b8.map aA.e).length-1)),.J 4 (x.cells.map Cell.e),.J 1 (x.bH.map a8),.J 1 (x.bU.map cu),.J 1 (x.bK.map cu),.J 2 (x.b'.map cD.e)]:=by
   rw[sr aV,ax];rfl
  dsimp only;rw[Ad,e];exact ahz ⟨is,rfl,c',c6,dm,jB ax,jB aK,kN aV,by omega,kZ aV,mN aV,ng,nh aV,ni,q3 aV iR,q4 aV iR,q5 aV,c',c6,dm,rfl,rfl,rfl,rfl,rfl,rfl,aa⟩
theorem TT(c:bb)(w:Int)(ah:c.sz<=8388608):bT prog 151 [.ref (fj c) (fj (gl c w).1),.ro (.one (I w))] (.vals [.one (B (gl c w).2)]):=by
 have is:=KT c w ah;cases ok:cL c with
 | false=>
  rw[ok]at is;rw[show gl c w=(c,false) by unfold gl;simp[ok]];exact SP ⟨is,rfl,aa⟩
 | true=>
 cases ag:c4 c w with
 | none=>
  rw[ok,ag]at is;rw[show gl c w=(c,false) by unfold gl;simp[ag]];exact SP ⟨is,rfl,aa⟩
 | some x=>
 rw[ok,ag]at is;obtain⟨c',c6,dm⟩:=nX ag;have ek:=p6 ag ah;have aT:=lm (hn.1 ok).1;cases ai:x.cg with
 | nil=>
  rw[show gl c w=(c,false) by unfold gl;rw[br ok,ag];dsimp only;rw[ai]];exact ahB ⟨is,rfl,c',c6,dm,qI ai,aa⟩
 | cons r t=>
  have oM:=QD r.key c.aF.ay (by omega);have aD:=(D3 (ln ok ag) ai).2;have he:=q2 aD;have la:x.queue.length<=8388608:=by simp only[aP.sz]at ek;omega
  have oA:x.cg.length<=8388608:=by simp only[aP.sz]at ek;omega
  obtain⟨f4,_,_,ep⟩:=DP ok ag;rw[SH ok ag ai];have w5:=RJ r.key aT.1;generalize ic r.key c.aF.ay=o at oM w5;by_cases how:o=w
  ·have qt:(o != w)=false:=by simp[how]
   rw[SI how];unfold fj at is ⊢;dsimp only;rw[adq ok ag ai];rw[ok]at is ⊢;have e:(kept (gy x t) r).e=[.J 5 (x.queue.map aA.e++[r.e]),.J 5 ([]++((x.cg.map aA.e).drop 1).take ((x.cg.map aA.e).length-1)),.J 5 (x.b8.map aA.e),.J 4 (x.cells.map Cell.e),.J 1 (x.bH.map a8),.J 1 (x.bU.map cu),.J 1 (x.bK.map cu),.J 2 (x.b'.map cD.e)]:=by
    rw[sr ai,z'];rfl
   rw[Ad,e];have key:=ahE ⟨is,rfl,c',c6,dm,kN ai,c',c6,dm,by omega,kZ ai,mN ai,oM,qt,c',c6,dm,ta la,tc la,dm,rfl,dG (aA.flat r),rfl,rfl,rfl,rfl,rfl,rfl,rfl,rfl,rfl,rfl,rfl,rfl,rfl,c',c6,dm,rfl,c',by rw[fb];exact c6,rD c' c6,ng,nh ai,ni,q3 ai oA,q4 ai oA,q5 ai,c',by rw[fb];exact c6,rD c' c6,aa⟩;simp only[Bt]at key;exact key
  have qt:(o != w)=true:=by simp[how]
  have win:ap w 0 (c.aF.ay-1)=true:=by
   have:=DO ag;rwa[bm,(hn.1 ok).2.1]at this
  obtain⟨l,ak⟩:=xQ ok win w5;obtain⟨jw,jx,jy⟩:=xr ak;have aW:=KF c.aF w o aT;have jG:=SU l r (xt ak ah);have YD:=fun h=>abU ok ag ai w5 how ak h
  rw[TO how ak];cases bw:(dR l r).2 with
  | false=>
   rw[bw]at jG;exact ahC ⟨is,rfl,c',c6,dm,kN ai,c',c6,dm,by omega,kZ ai,mN ai,oM,qt,aW,jw,jx,jy,jG,rfl,aa⟩
  | true=>
   rw[bw]at jG;rw[br rfl];unfold fj at is ⊢;dsimp only;rw[YD bw];rw[ok]at is ⊢;have v':=TS (dB c (eE c.aF w o) (dR l r).1) w r.bx.bf 1 x (vu.trans ag) f4 he (by omega) (ep _ he);rw[SE,KS,TR]at v';have e:(kx (gy x t) r.bx.bf).e=[.J 5 (x.queue.map aA.e),.J 5 ([]++((x.cg.map aA.e).drop 1).take ((x.cg.map aA.e).length-1)),.J 5 (x.b8.map aA.e),.J 4 (x.cells.map Cell.e),.J 1 ((x.bH.map a8).set r.bx.bf.toNat [I (x.bH.getD r.bx.bf.toNat 0+1)]),.J 1 (x.bU.map cu),.J 1 (x.bK.map cu),.J 2 (x.b'.map cD.e)]:=by
    rw[sr ai,S2];rfl
   rw[KS,e];have key:=ahD ⟨is,rfl,c',c6,dm,kN ai,c',c6,dm,by omega,kZ ai,mN ai,oM,qt,aW,jw,jx,jy,jG,rfl,jw,jx,jy,v',c',by rw[fb];exact c6,rD c' c6,ng,nh ai,ni,q3 ai oA,q4 ai oA,q5 ai,c',by rw[fb];exact c6,rD c' c6,aa⟩;simp only[Bt]at key;exact key
theorem TU(c:bb)(a b:Int)(ah:c.sz<=8388608):bT prog 156 [.ref (fj c) (fj (gm c a b).1),.ro (.one (I a)),.ro (.one (I b))] (.vals [.one (B (gm c a b).2)]):=by
 cases ok:cL c with
 | false=>
  rw[show gm c a b=(c,false) by unfold gm;simp[ok]];obtain⟨v,aW⟩:=SZ c.aF a b;unfold fj;rw[ok];exact ahG ⟨aW,rfl,aa⟩
 | true=>
 have aT:=lm (hn.1 ok).1;have aW:=KF c.aF a b aT;cases bB:(ap a 0 (c.aF.ay-1)&&ap b 0 (c.aF.ay-1)) with
 | false=>
  rw[tp bB]at aW;rw[show gm c a b=(c,false) by unfold gm;rw[DQ bB];split<;>rfl];unfold fj;rw[ok];exact ahH ⟨aW,rfl,dZ (by decide),aa⟩
 | true=>
 rw[cq]at bB;obtain⟨l,ak⟩:=xQ ok bB.1 bB.2;obtain⟨jw,jx,jy⟩:=xr ak;by_cases fc:a=b
 ·rw[show gm c a b=(c,false) by unfold gm;simp[fc]];unfold fj;rw[ok];exact ahI ⟨aW,rfl,eD (by omega),by simp[fc],aa⟩
 have qt:(a==b)=false:=by simp[fc]
 obtain⟨x,ag⟩:∃x,c4 c b=some x:=by
  have aq:=bB.2;have:=(hn.1 ok).2.1;simp only[ap,cK]at aq;exact AI (by omega) (by omega)
 obtain⟨c',c6,dm⟩:=nX ag;have ek:=p6 ag ah;have q9:=SV l (xt ak ah);have YG:=fun h=>adr ok ak ag h
 rw[TP ok fc ak ag];unfold fj;cases bw:(dt l).2.2 with
 | false=>
  rw[bw]at q9;rw[bg (by decide)];dsimp only;rw[ok];exact ahJ ⟨aW,rfl,eD (by omega),qt,jw,jx,jy,q9,rfl,aa⟩
 | true=>
  rw[bw]at q9;rw[br rfl];dsimp only;rw[YG bw,ok];have aD:=(D4 (xO ok ak) bw).2;have he:=q2 aD;generalize (dt l).2.1=r at q9 aD he ⊢;obtain⟨f4,FE,_,ep⟩:=DP ok ag;have la:x.queue.length<=8388608:=by simp only[aP.sz]at ek;omega
  obtain⟨gD,gf⟩:=uK FE he;have ju:c4 (setW (dB c (eE c.aF a b) (dt l).1) b ⟨x.queue++[r],x.cg,x.b8,x.cells,x.bH,x.bU.set r.bx.bf.toNat true,x.bK,x.b'⟩) b=some ⟨x.queue++[r],x.cg,x.b8,x.cells,x.bH,x.bU.set r.bx.bf.toNat true,x.bK,x.b'⟩:=by
   obtain⟨q1,lf,_⟩:=jW ag;unfold c4 setW dB;rw[br q1];exact List.getElem?_set_self lf
  have v':=TS _ b r.bx.bf (-1) _ ju f4 he (by omega) (ep _ he);rw[KS]at v';have e2:aP.e ⟨x.queue++[r],x.cg,x.b8,x.cells,x.bH,x.bU.set r.bx.bf.toNat true,x.bK,x.b'⟩=[.J 5 (x.queue.map aA.e++[r.e]),.J 5 (x.cg.map aA.e),.J 5 (x.b8.map aA.e),.J 4 (x.cells.map Cell.e),.J 1 (x.bH.map a8),.J 1 ((x.bU.map cu).set r.bx.bf.toNat [B true]),.J 1 (x.bK.map cu),.J 2 (x.b'.map cD.e)]:=by
   simp only[aP.e,ha,iB];rfl
  rw[e2,<-Bt]at v';rw[show setW (setW (dB c (eE c.aF a b) (dt l).1) b ⟨x.queue++[r],x.cg,x.b8,x.cells,x.bH,x.bU.set r.bx.bf.toNat true,x.bK,x.b'⟩) b (Er ⟨x.queue++[r],x.cg,x.b8,x.cells,x.bH,x.bU.set r.bx.bf.toNat true,x.bK,x.b'⟩ r.bx.bf (-1))=setW (dB c (eE c.aF a b) (dt l).1) b (ho x r) by unfold setW dB;simp only[Bt];rfl]at v';exact ahK ⟨aW,rfl,eD (by omega),qt,jw,jx,jy,q9,rfl,jw,jx,jy,c',c6,dm,ta la,tc la,dm,rfl,dG (aA.flat r),rfl,rfl,rfl,rfl,rfl,rfl,rfl,c',c6,dm,rfl,c',by rw[fb];exact c6,rD c' c6,he.1,gD,gf,rD c' c6,rfl,rfl,v',aa⟩
theorem TV(c:bb)(a b:Int)(ah:c.sz<=8388608):bT prog 158 [.ref (fj c) (fj (gJ c a b).1),.ro (.one (I a)),.ro (.one (I b))] (.vals [.one (B (gJ c a b).2)]):=by
 have post:=fun h=>adu (c:=c) (a:=a) (b:=b) h
 cases ok:cL c with
 | false=>
  rw[show gJ c a b=(c,false) by unfold gJ;simp[ok]];obtain⟨v,aW⟩:=SZ c.aF a b;unfold fj;rw[ok];exact ahs ⟨aW,rfl,aa⟩
 | true=>
 replace post:=post ok;have aT:=lm (hn.1 ok).1;have aW:=KF c.aF a b aT;unfold fj;rw[post,ok];cases bB:(ap a 0 (c.aF.ay-1)&&ap b 0 (c.aF.ay-1)) with
 | false=>
  rw[tp bB]at aW;rw[show gJ c a b=(c,false) by unfold gJ;rw[DQ bB];split<;>rfl];exact aht ⟨aW,rfl,dZ (by decide),aa⟩
 | true=>
 rw[cq]at bB;obtain⟨l,ak⟩:=xQ ok bB.1 bB.2;obtain⟨jw,jx,jy⟩:=xr ak;by_cases fc:a=b
 ·rw[show gJ c a b=(c,false) by unfold gJ;simp[fc]];exact ahu ⟨aW,rfl,eD (by omega),by simp[fc],aa⟩
 rw[TQ ok fc ak];dsimp only;rw[SE];exact ahv ⟨aW,rfl,eD (by omega),by simp[fc],jw,jx,jy,SX l (xt ak ah),jw,jx,jy,aa⟩
theorem TW(c:bb)(p:df)(ah:c.sz<=8388608):bT prog 128 [.ref (fj c) (fj (eF c p).1),.ro (.agg p.e)] (.vals [.one (B (eF c p).2)]):=by
 by_cases h1:p.kind=1
 ·rw[show eF c p=lS c p.a by unfold eF;simp[h1]];exact ahP ⟨by rw[dY];exact h1,ah1 c p.a ah,aa⟩
 have jz:(p.kind==1)=false:=by rw[lr,gM,dY];exact h1
 by_cases U:p.kind=2
 ·rw[show eF c p=gW c p.a by unfold eF;simp[U]];exact ahQ ⟨jz,by rw[dY];exact U,ah2 c p.a ah,aa⟩
 have kb:(p.kind==2)=false:=by rw[lr,gM,dY];exact U
 by_cases ax:p.kind=3
 ·rw[show eF c p=gl c p.a by unfold eF;simp[ax]];exact ag1 ⟨jz,kb,by rw[dY];exact ax,TT c p.a ah,aa⟩
 have lc:(p.kind==3)=false:=by rw[lr,gM,dY];exact ax
 by_cases aK:p.kind=4
 ·rw[show eF c p=gm c p.a p.b by unfold eF;simp[aK]];exact ag2 ⟨jz,kb,lc,by rw[dY];exact aK,TU c p.a p.b ah,aa⟩
 have jU:(p.kind==4)=false:=by rw[lr,gM,dY];exact aK
 by_cases aV:p.kind=5
 ·rw[show eF c p=gJ c p.a p.b by unfold eF;simp[aV]];exact ag3 ⟨jz,kb,lc,jU,by rw[dY];exact aV,TV c p.a p.b ah,aa⟩
 have ks:(p.kind==5)=false:=by rw[lr,gM,dY];exact aV
 by_cases bw:p.kind=6
 ·rw[show eF c p=kY c p.a by unfold eF;simp[bw]];exact ag4 ⟨jz,kb,lc,jU,ks,by rw[dY];exact bw,ac2 c p.a ah,aa⟩
 have n6:(p.kind==6)=false:=by rw[lr,gM,dY];exact bw
 by_cases bX:p.kind=7
 ·rw[show eF c p=lT c p.a by unfold eF;simp[bX]];exact ag5 ⟨jz,kb,lc,jU,ks,n6,by rw[dY];exact bX,adI c p.a ah,aa⟩
 have n7:(p.kind==7)=false:=by rw[lr,gM,dY];exact bX
 rw[show eF c p=(c,false) by unfold eF;simp[h1,U,ax,aK,aV,bw,bX]];exact ag6 ⟨jz,kb,lc,jU,ks,n6,n7,aa⟩
end Go.Proofs.YtdchjefneblpgaaGreat
namespace Go.Proofs.YtdchjefneblpgaaGreat
open Go.Sx Go.RowKit Go.Proofs.Tryz
theorem TX(l:bt)(r:aA)(h:l.c5<=9223372036854775807):(dR l r).1.c5<=9223372036854775807:=by
 unfold dR;split<;>exact h
theorem TY(l:bt)(h:l.c5<=9223372036854775807):(eY l).1.c5<=9223372036854775807:=by
 unfold eY;split<;>exact h
theorem TZ(l:bt)(h:l.c5<=9223372036854775807):(dt l).1.c5<=9223372036854775807:=by
 unfold dt;split
 ·rename_i hk;obtain⟨_,_,_,_,jv,_,jT,_⟩:=tn.1 hk;simp only[ap,cK]at jv;split
  ·exact h
  dsimp only;omega
 exact h
variable{c:bb}
theorem fw.dB{i:Int}{l:bt}(h:fw c)(ak:l.c5<=9223372036854775807):fw (dB c i l):=by
 intro x ag;rcases n2 ag with h1 | rfl
 ·exact h x h1
 exact ak
theorem fw.at{i:Int}{x:bt}(h:fO c i=some x)(hw:fw c):x.c5<=9223372036854775807:=hw _ (eX (oQ h).2.2)
structure m' (c d:bb):Prop where
 aF:d.aF=c.aF
 c5:fw c->fw d
 we:d.ay.length=c.ay.length
theorem m'.rfl:m' c c:=⟨Eq.refl _,id,Eq.refl _⟩
theorem m'.bV{d:bb}(h1:d.aF=c.aF)(U:d.bV=c.bV)(ax:d.ay.length=c.ay.length:=by simp[setW,jF,er,dB,told,gz]):m' c d:=⟨h1,fun h x ag=>h x (U▸ag),ax⟩
theorem ah3(c:bb)(e:Int)(t:b2)(x:aP):m' c (fD c e t x).1:=by
 unfold fD;split
 ·split
  ·exact .bV rfl rfl
  split
  ·split
   ·exact .bV rfl rfl
   exact .rfl
  split
  ·exact .bV rfl rfl
  exact .bV rfl rfl
 exact .rfl
theorem ah4(c:bb)(p:df):m' c (eF c p).1:=by
 unfold eF;split
 ·unfold lS;split
  ·split
   ·exact .bV rfl rfl
   exact .rfl
  exact .rfl
 split
 ·unfold gW;split
  ·split
   ·exact .bV rfl rfl
   exact .rfl
  exact .rfl
 split
 ·unfold gl;split
  ·split
   ·split
    ·unfold sk;split
     ·exact .bV rfl rfl
     split
     ·rename_i l ak;split
      ·exact⟨rfl,fun h=>fw.dB h (TX l _ (fw.at ak h)),by simp[setW,dB]⟩
      exact .rfl
     exact .rfl
    exact .rfl
   exact .rfl
  exact .rfl
 split
 ·unfold gm;split
  ·split
   ·rename_i l x ak ag;split
    ·exact⟨rfl,fun h=>fw.dB h (TZ l (fw.at ak h)),by simp[setW,dB]⟩
    exact .rfl
   exact .rfl
  exact .rfl
 split
 ·unfold gJ;split
  ·split
   ·rename_i l ak;exact⟨rfl,fun h=>fw.dB h (TY l (fw.at ak h)),by simp[setW,dB]⟩
   exact .rfl
  exact .rfl
 split
 ·unfold kY;split
  ·split
   ·split
    ·exact .rfl
    split
    ·exact ah3 c _ _ _
    exact .rfl
   exact .rfl
  exact .rfl
 split
 ·unfold lT;split
  ·split
   ·split
    ·exact .bV rfl rfl
    exact .rfl
   exact .rfl
  exact .rfl
 exact .rfl
theorem Ko{α:Type}{f:α->List D}{xs:List α}{a:α}:(xs++[a]).map f=xs.map f++[f a]:=by simp
def dX:bb->List df->bb×List Bool
 | c,[]=>(c,[])
 | c,p::l=>((dX (eF c p).1 l).1,(eF c p).2::(dX (eF c p).1 l).2)
theorem T0(p:df):∀(l:List df) (c:bb),dX c (l++[p])=((eF (dX c l).1 p).1,(dX c l).2++[(eF (dX c l).1 p).2])
 | [],c=>rfl
 | q::l,c=>by
  have dE:=T0 p l (eF c q).1;simp only[List.cons_append,dX,dE]
theorem T1{l:List df}{i:Nat}{p:df}(c:bb)(h:l[i]?=some p):dX c (l.take (i+1))=((eF (dX c (l.take i)).1 p).1,(dX c (l.take i)).2++[(eF (dX c (l.take i)).1 p).2]):=by
 rw[sE,h,Fl,T0]
theorem Kp:∀(l:List df) (c:bb),(dX c l).2.length=l.length
 | [],_=>rfl
 | q::l,c=>by simp only[dX,dH,Kp l]
theorem DR:∀(l:List df) (c:bb),(dX c l).1.sz<=c.sz+4*l.length
 | [],c=>fK _
 | q::l,c=>by
  have:=DR l (eF c q).1;have:=D7 c q;simp only[dX,dH];omega
theorem m'.trans{d e:bb}(h:m' c d)(k:m' d e):m' c e:=⟨k.aF.trans h.aF,fun x=>k.c5 (h.c5 x),k.we.trans h.we⟩
theorem Kq:∀(l:List df) (c:bb),m' c (dX c l).1
 | [],_=>.rfl
 | q::l,c=>(ah4 c q).trans (Kq l _)
theorem Kr{α:Type}(i:Nat)(l:List α):(l.take i).length<=l.length:=by rw[lx];omega
theorem T2(c:bb)(l:List df)(i:Nat):(dX c (l.take i)).1.sz<=c.sz+4*l.length:=by
 have:=DR (l.take i) c;have:=Kr i l;omega
def sO(l:List Bool):Nat:=(l.filter id).length
theorem ah5(l:List Bool):sO l<=l.length:=ud _ _
theorem ah6(l:List Bool)(b:Bool):sO (l++[b])=sO l+(if b then 1 else 0):=by
 cases b<;>simp[sO]
