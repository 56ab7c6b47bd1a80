import Derived.Test.YtdchjefneblpgaaGreatP72
set_option linter.unusedVariables false
set_option linter.unusedSimpArgs false
namespace Go.Proofs.YtdchjefneblpgaaGreat
open Go.Sx Go.RowKit Go.Proofs.Tryz
variable{c:aU}{w:Int}
theorem Vh(h:b3 c w=none):ap w 0 ((↑(c.aq.map aL.e).length:Int)-1)=false:=by
 unfold b3 at h;simp only[ap,bk,lr];split at h
 ·rw[List.getElem?_eq_none_iff]at h;omega
 omega
variable{x:aL}
theorem Gy(h:b3 c w=some x):ap w 0 ((↑(c.aq.map aL.e).length:Int)-1)=true:=by
 obtain⟨h1,U,_⟩:=eK h;simp only[ap,bk,b'];omega
variable{i:Int}
theorem zZ{x:bt}(h:eB c i=some x):0<=i/\i<(↑(c.bK.map bt.e).length:Int)/\(c.bK.map bt.e)[i.toNat]?=some x.e:=by
 obtain⟨h1,U,ax⟩:=iT h;exact⟨h1,by rw[bk];omega,bJ bt.e ax⟩
theorem z1{x:bt}(h:eB c i=some x)(af:c.sz<=8388608):x.sz<=8388608:=aU.JO af (cG (iT h).2.2)
theorem MF{x:bt}(h:eB c i=some x)(hw:fF c):x.dZ<=9223372036854775807:=hw _ (cG (iT h).2.2)
theorem GY(af:c.sz<=8388608):aC .i64 ((↑(c.aq.map aL.e).length:Int)-1):=by
 have:=aU.x5 af;exact⟨by rw[bk];omega,by rw[bk];omega⟩
theorem MG(c:aU)(w:Int)(y:aL):(setW c w y).e=[.J 4 (c.ay.nodes.map Node.e),I c.ay.aq,I c.ay.cap,.J 8 ((c.aq.map aL.e).set w.toNat y.e),.J 6 (c.bK.map bt.e),.J 5 (c.tokens.map bQ.e),.J 3 (c.news.map bT.e)]:=by simp only[setW,aU.e,kG]
theorem alp(c:aU)(i:Int)(y:bt):(db c i y).e=[.J 4 (c.ay.nodes.map Node.e),I c.ay.aq,I c.ay.cap,.J 8 (c.aq.map aL.e),.J 6 ((c.bK.map bt.e).set i.toNat y.e),.J 5 (c.tokens.map bQ.e),.J 3 (c.news.map bT.e)]:=by simp only[db,aU.e,kG]
theorem Vi(c:aU)(w i:Int)(y:aL)(z:bt):(setW (db c i z) w y).e=[.J 4 (c.ay.nodes.map Node.e),I c.ay.aq,I c.ay.cap,.J 8 ((c.aq.map aL.e).set w.toNat y.e),.J 6 ((c.bK.map bt.e).set i.toNat z.e),.J 5 (c.tokens.map bQ.e),.J 3 (c.news.map bT.e)]:=by simp only[setW,db,aU.e,kG]
theorem Ch(c:aU)(w:Int)(y:aL)(b:Bool):na (setW c w y) b=[.J 4 (c.ay.nodes.map Node.e),I c.ay.aq,I c.ay.cap,.J 8 ((c.aq.map aL.e).set w.toNat y.e),.J 6 (c.bK.map bt.e),.J 5 (c.tokens.map bQ.e),.J 3 (c.news.map bT.e),B b]:=by simp only[setW,na,kG]
theorem Vj(c:aU)(i:Int)(y:bt)(b:Bool):na (db c i y) b=[.J 4 (c.ay.nodes.map Node.e),I c.ay.aq,I c.ay.cap,.J 8 (c.aq.map aL.e),.J 6 ((c.bK.map bt.e).set i.toNat y.e),.J 5 (c.tokens.map bQ.e),.J 3 (c.news.map bT.e),B b]:=by simp only[db,na,kG]
theorem MH(c:aU)(w i:Int)(y:aL)(z:bt)(b:Bool):na (setW (db c i z) w y) b=[.J 4 (c.ay.nodes.map Node.e),I c.ay.aq,I c.ay.cap,.J 8 ((c.aq.map aL.e).set w.toNat y.e),.J 6 ((c.bK.map bt.e).set i.toNat z.e),.J 5 (c.tokens.map bQ.e),.J 3 (c.news.map bT.e),B b]:=by simp only[setW,db,na,kG]
theorem MI(c:aU)(w:Int)(af:c.sz<=8388608)(hw:fF c):aw 145 [.agg c.e,.one (I w)] [.one (B (cq c&&(b3 c w).isSome))]:=by
 have k:=E' c af hw;cases ok:cq c with
 | false=>rw[ok]at k;exact akO ⟨k,rfl,ae⟩
 | true=>
  rw[ok]at k;cases aa:b3 c w with
  | none=>exact U2 ⟨k,rfl,GY af,hN _ (Vh aa),ae⟩
  | some x=>exact U2 ⟨k,rfl,GY af,hN _ (Gy aa),ae⟩
theorem Vk(c:aU)(a b:Int)(af:c.sz<=8388608)(hw:fF c):aw 153 [.agg c.e,.one (I a),.one (I b)] [.one (I (if cq c&&a != b then dX c.ay a b else -1))]:=by
 have k:=E' c af hw;cases ok:cq c with
 | false=>rw[ok]at k;exact akP ⟨k,rfl,ae⟩
 | true=>
  rw[ok]at k;by_cases dD:a=b
  ·rw[show (true&&a != b)=false by simp[dD]];exact akQ ⟨k,rfl,by simp[dD],ae⟩
  rw[show (true&&a != b)=true by simp[dD],aZ rfl];exact akR ⟨k,rfl,by simp[dD],Ve c.ay a b (ii (e7.1 ok).1),ae⟩
theorem alq(c:aU)(w:Int)(af:c.sz<=8388608)(hw:fF c):aw 44 [.agg c.e,.one (I w)] [.agg (jn c w).1.e,.one (B (jn c w).2)]:=by
 have cQ:=rD c af;have k:=MI c w af hw;cases ok:cq c with
 | false=>
  rw[ok]at k;rw[show jn c w=(c,false) by unfold jn;simp[ok]];exact U0 ⟨cQ,k,rfl,ae⟩
 | true=>
 cases aa:b3 c w with
 | none=>
  rw[ok,aa]at k;rw[show jn c w=(c,false) by unfold jn;simp[aa]];exact U0 ⟨cQ,k,rfl,ae⟩
 | some x=>
  rw[ok,aa]at k;obtain⟨cX,cU,ch⟩:=mo aa;rw[show jn c w=(setW c w (gJ c.ay x).1,(gJ c.ay x).2) by unfold jn;simp[ok,aa]];dsimp only;rw[MG];exact ak5 ⟨cQ,k,rfl,cX,cU,ch,aln c.ay x (aU.oa af) (mY aa af),cX,cU,ch,ae⟩
theorem alr(c:aU)(w:Int)(af:c.sz<=8388608)(hw:fF c):aw 36 [.agg c.e,.one (I w)] [.agg (jo c w).1.e,.one (B (jo c w).2)]:=by
 have cQ:=rD c af;have k:=MI c w af hw;cases ok:cq c with
 | false=>
  rw[ok]at k;rw[show jo c w=(c,false) by unfold jo;simp[ok]];exact VM ⟨cQ,k,rfl,ae⟩
 | true=>
 cases aa:b3 c w with
 | none=>
  rw[ok,aa]at k;rw[show jo c w=(c,false) by unfold jo;simp[aa]];exact VM ⟨cQ,k,rfl,ae⟩
 | some x=>
  rw[ok,aa]at k;obtain⟨cX,cU,ch⟩:=mo aa;rw[show jo c w=(setW c w (gK c.ay x).1,(gK c.ay x).2) by unfold jo;simp[ok,aa]];dsimp only;rw[MG];exact akY ⟨cQ,k,rfl,cX,cU,ch,alo c.ay x (aU.oa af) (mY aa af),cX,cU,ch,ae⟩
theorem Gz(ok:cq c=true)(aa:b3 c w=some x):x.bM.length=4/\x.bV.length=4/\x.bm.length=4/\(∀e:Int,0<=e/\e<=3->-1000000<=x.bM.getD e.toNat 0/\x.bM.getD e.toNat 0<=1000000):=by
 obtain⟨_,_,_,_,kb,pa,kU,_,tG,_⟩:=ik.1 (jr ok aa);refine⟨kb,pa,kU,fun e he=>?_⟩;have aj:e.toNat<x.bM.length:=by omega
 rw[ff]at tG;have:=tG _ (pK aj);rw[iF,gz aj,jx];simpa only[oD,gy,jW,ap,b',vW,Bool.not_not,Bool.not_eq_eq_eq_not,iu,lr,Classical.not_not]using this
variable{r:aE}{t:List aE}
theorem Vl(ok:cq c=true)(aa:b3 c w=some x)(ai:x.cp=r::t):iS c w=rq c w x r t (eJ r.key c.ay.aq):=by
 unfold iS;rw[aZ ok,aa];dsimp only;rw[ai]
theorem Vm{o:Int}(h:o=w):rq c w x r t o=(setW c w (kept (iB x t) r),true):=aZ h
variable{l:bt}
theorem UN{o:Int}(h:o≠w)(aj:eB c (dX c.ay w o)=some l):rq c w x r t o=if (ei l r).2 then (setW (db c (dX c.ay w o) (ei l r).1) w (my (iB x t) r.bh.a7),true) else (c,false):=by
 unfold rq;rw[a6 h,aj]
theorem als(c:aU)(w:Int)(af:c.sz<=8388608)(hw:fF c):aw 28 [.agg c.e,.one (I w)] [.agg (iS c w).1.e,.one (B (iS c w).2)]:=by
 have cQ:=rD c af;have k:=MI c w af hw;cases ok:cq c with
 | false=>
  rw[ok]at k;rw[show iS c w=(c,false) by unfold iS;simp[ok]];exact UY ⟨cQ,k,rfl,ae⟩
 | true=>
 cases aa:b3 c w with
 | none=>
  rw[ok,aa]at k;rw[show iS c w=(c,false) by unfold iS;simp[aa]];exact UY ⟨cQ,k,rfl,ae⟩
 | some x=>
 rw[ok,aa]at k;obtain⟨cX,cU,ch⟩:=mo aa;have aK:=ii (e7.1 ok).1;cases ai:x.cp with
 | nil=>
  rw[show iS c w=(c,false) by unfold iS;rw[aZ ok,aa];dsimp only;rw[ai]];exact akZ ⟨cQ,k,rfl,cX,cU,ch,u1 ai,ae⟩
 | cons r t=>
  have c7:=mY aa af;have fJ:(iB x t).sz<=8388608:=by have:=UK ai;omega
  have un:=alm x r t c7 ai;have ou:=afz r.key c.ay.aq (by omega);have az:=(Fa (jr ok aa) ai).2;have he:=sD az;obtain⟨f4,_,_,fg⟩:=Gz ok aa;rw[Vl ok aa ai];have y6:=Co r.key aK.1;generalize eJ r.key c.ay.aq=o at ou y6;by_cases how:o=w
  ·rw[Vm how];dsimp only;rw[MG];exact ak0 ⟨cQ,k,rfl,cX,cU,ch,nH ai,cX,cU,ch,un,ou,by rw[dp];exact how,Vg (iB x t) r fJ,cX,cU,ch,ae⟩
  have r1:(o==w)=false:=by rw[h7,fM,dp];exact how
  have win:ap w 0 (c.ay.aq-1)=true:=by
   have:=Gy aa;rwa[bk,(e7.1 ok).2.1]at this
  obtain⟨l,aj⟩:=xI ok win y6;obtain⟨kV,kW,kX⟩:=zZ aj;have aR:=Ve c.ay w o aK;have k2:=alR l r (z1 aj af) (MF aj hw);rw[UN how aj];cases bb:(ei l r).2 with
  | false=>
   rw[bb]at k2;exact ak1 ⟨cQ,k,rfl,cX,cU,ch,nH ai,cX,cU,ch,un,ou,r1,aR,kV,kW,kX,k2,rfl,ae⟩
  | true=>
   rw[bb]at k2;rw[aZ rfl];dsimp only;rw[Vi];exact ak2 ⟨cQ,k,rfl,cX,cU,ch,nH ai,cX,cU,ch,un,ou,r1,aR,kV,kW,kX,k2,rfl,kV,kW,kX,alk (iB x t) r.bh.a7 fJ f4 he (fg _ he),cX,cU,ch,ae⟩
variable{a b:Int}
theorem GC(h:(ap a 0 (c.ay.aq-1)&&ap b 0 (c.ay.aq-1))=false):eB c (dX c.ay a b)=none:=by
 rw[t' h];rfl
theorem UO(ok:cq c=true)(dD:a≠b)(aj:eB c (dX c.ay a b)=some l)(aa:b3 c b=some x):jM c a b=if (dI l).2.2 then (setW (db c (dX c.ay a b) (dI l).1) b (k1 x (dI l).2.1),true) else (c,false):=by
 unfold jM;rw[aZ (by simp[ok,dD]),aj,aa]
theorem UP(ok:cq c=true)(dD:a≠b)(aj:eB c (dX c.ay a b)=some l):jq c a b=(db c (dX c.ay a b) (fT l).1,(fT l).2):=by
 unfold jq;rw[aZ (by simp[ok,dD]),aj]
theorem alu(c:aU)(a b:Int)(af:c.sz<=8388608)(hw:fF c):aw 31 [.agg c.e,.one (I a),.one (I b)] [.agg (jM c a b).1.e,.one (B (jM c a b).2)]:=by
 have cQ:=rD c af;have k:=Vk c a b af hw;cases h1:(cq c&&a != b) with
 | false=>
  rw[h1,a6 (by decide)]at k;rw[show jM c a b=(c,false) by unfold jM;rw[h1];rfl];exact UZ ⟨cQ,k,dr (by decide),ae⟩
 | true=>
 rw[h1,aZ rfl]at k;rw[b8]at h1;obtain⟨ok,dD⟩:=h1;have dD:a≠b:=by simpa using dD
 have aK:=ii (e7.1 ok).1;cases bC:(ap a 0 (c.ay.aq-1)&&ap b 0 (c.ay.aq-1)) with
 | false=>
  rw[t' bC]at k;rw[show jM c a b=(c,false) by unfold jM;rw[GC bC];split<;>rfl];exact UZ ⟨cQ,k,dr (by decide),ae⟩
 | true=>
 rw[b8]at bC;obtain⟨l,aj⟩:=xI ok bC.1 bC.2;obtain⟨x,aa⟩:∃x,b3 c b=some x:=by
  have ao:=bC.2;have:=(e7.1 ok).2.1;simp only[ap,b']at ao;exact oF (by omega) (by omega)
 obtain⟨kV,kW,kX⟩:=zZ aj;obtain⟨cX,cU,ch⟩:=mo aa;have sM:=alS l (z1 aj af) (MF aj hw);rw[UO ok dD aj aa];cases bb:(dI l).2.2 with
 | false=>
  rw[bb]at sM;exact ak3 ⟨cQ,k,ee (by omega),kV,kW,kX,sM,rfl,ae⟩
 | true=>
  rw[bb]at sM;have he:=sD (Fb (rr ok aj) bb).2;obtain⟨f4,HZ,_,fg⟩:=Gz ok aa;rw[aZ rfl];dsimp only;rw[Vi];exact ak4 ⟨cQ,k,ee (by omega),kV,kW,kX,sM,rfl,kV,kW,kX,cX,cU,ch,alV x _ (mY aa af) f4 HZ he (fg _ he),cX,cU,ch,ae⟩
theorem alv(c:aU)(a b:Int)(af:c.sz<=8388608)(hw:fF c):aw 33 [.agg c.e,.one (I a),.one (I b)] [.agg (jq c a b).1.e,.one (B (jq c a b).2)]:=by
 have cQ:=rD c af;have k:=Vk c a b af hw;cases h1:(cq c&&a != b) with
 | false=>
  rw[h1,a6 (by decide)]at k;rw[show jq c a b=(c,false) by unfold jq;rw[h1];rfl];exact VL ⟨cQ,k,dr (by decide),ae⟩
 | true=>
 rw[h1,aZ rfl]at k;rw[b8]at h1;obtain⟨ok,dD⟩:=h1;have dD:a≠b:=by simpa using dD
 cases bC:(ap a 0 (c.ay.aq-1)&&ap b 0 (c.ay.aq-1)) with
 | false=>
  rw[t' bC]at k;rw[show jq c a b=(c,false) by unfold jq;rw[GC bC];split<;>rfl];exact VL ⟨cQ,k,dr (by decide),ae⟩
 | true=>
 rw[b8]at bC;obtain⟨l,aj⟩:=xI ok bC.1 bC.2;obtain⟨kV,kW,kX⟩:=zZ aj;rw[UP ok dD aj];dsimp only;rw[alp];exact akX ⟨cQ,k,ee (by omega),kV,kW,kX,alT l (z1 aj af) (MF aj hw),kV,kW,kX,ae⟩
theorem MJ(c:aU)(w:Int)(af:c.sz<=8388608):dC prog 257 [.ref (fQ c) (fQ c),.ro (.one (I w))] (.vals [.one (B (cq c&&(b3 c w).isSome))]):=by
 unfold fQ;cases ok:cq c with
 | false=>exact amb ⟨rfl,ae⟩
 | true=>
  cases aa:b3 c w with
  | none=>exact U8 ⟨rfl,GY af,fe _ (Vh aa),ae⟩
  | some x=>exact U8 ⟨rfl,GY af,fe _ (Gy aa),ae⟩
def GR(x:aL)(e d:Int):aL:=⟨x.queue,x.cp,x.bZ,x.cells,mO x.bM e d,x.bV,x.bm,x.b1⟩
theorem UQ(w:aL)(e d:Int):(GR w e d).e=[.J 5 (w.queue.map aE.e),.J 5 (w.cp.map aE.e),.J 5 (w.bZ.map aE.e),.J 4 (w.cells.map Cell.e),.J 1 ((w.bM.map ba).set e.toNat [I (w.bM.getD e.toNat 0+d)]),.J 1 (w.bV.map cI),.J 1 (w.bm.map cI),.J 2 (w.b1.map cD.e)]:=by
 simp only[GR,mO,aL.e,kG];rfl
theorem UR(c:aU)(w e d:Int)(x:aL)(aa:b3 c w=some x)(aF:x.bM.length=4)(he:0<=e/\e<=3)(aB:-1<=d/\d<=1)(ai:-1000000<=x.bM.getD e.toNat 0/\x.bM.getD e.toNat 0<=1000000):
  dC prog 259 [.ref (na c true) (na (setW c w (GR x e d)) (ap (x.bM.getD e.toNat 0+d) (-1000000) 1000000)),.ro (.one (I w)),.ro (.one (I e)),.ro (.one (I d))] (.vals []):=by
 obtain⟨cX,cU,ch⟩:=mo aa;obtain⟨s1,s2⟩:=Bm aF he;rw[Ch,UQ];exact amg ⟨cX,cU,ch,cX,cU,ch,he.1,s1,s2,⟨by omega,by omega⟩,he.1,s1,s2,ch,rfl,rfl,rfl,rfl,rfl,cX,by rw[fN];exact cU,hX cX cU,he.1,by rw[fN];exact s1,hX he.1 s1,jl _ _ _,ae⟩
theorem amS(c:aU)(w:Int)(af:c.sz<=8388608):dC prog 170 [.ref (fQ c) (fQ (jn c w).1),.ro (.one (I w))] (.vals [.one (B (jn c w).2)]):=by
 have post:=fun h=>UD (c:=c) (w:=w) h
 have is:=MJ c w af;cases ok:cq c with
 | false=>
  rw[ok]at is;rw[show jn c w=(c,false) by unfold jn;simp[ok]];exact U' ⟨is,rfl,ae⟩
 | true=>
 replace post:=post ok;cases aa:b3 c w with
 | none=>
  rw[ok,aa]at is;rw[show jn c w=(c,false) by unfold jn;simp[aa]];exact U' ⟨is,rfl,ae⟩
 | some x=>
 rw[ok,aa]at is;obtain⟨cX,cU,ch⟩:=mo aa;have c7:=mY aa af;have H5:=(e7.1 ok).1;have GZ:=jr ok aa;have hu:gJ c.ay x=match x.cp,x.queue with
  | [],r::q=>(⟨q,(dW c.ay x.cells r).2.1,x.bZ,(dW c.ay x.cells r).1,x.bM,x.bV,(if ca c.ay r then x.bm.set r.bh.a7.toNat true else x.bm),x.b1⟩,true)
  | _,_=>(x,false):=by unfold gJ;rw[H5,GZ];rfl
 have tL:jn c w=(setW c w (gJ c.ay x).1,(gJ c.ay x).2):=by unfold jn;simp[ok,aa]
 cases ax:x.cp with
 | cons r q=>
  rw[tL,show gJ c.ay x=(x,false) by rw[hu,ax]];dsimp only;rw[tZ aa];exact alw ⟨is,rfl,cX,cU,ch,y' ax,ae⟩
 | nil=>
 cases aF:x.queue with
 | nil=>
  rw[tL,show gJ c.ay x=(x,false) by rw[hu,ax,aF]];dsimp only;rw[tZ aa];exact alx ⟨is,rfl,cX,cU,ch,mR ax,u1 aF,ae⟩
 | cons r q=>
  have qU:x.cells.length<=8388608:=by simp only[aL.sz]at c7;omega
  have sc:x.queue.length<=8388608:=by simp only[aL.sz]at c7;omega
  have ar:=aU.oa af;have st:=acs c.ay x.cells r ar qU;have s8:=acw c.ay r ar;obtain⟨cy,_,_,_,_,_,kU,_⟩:=ik.1 GZ;rw[aF,ru]at cy;have he:=sD cy.1;obtain⟨c1,c2⟩:=uz kU he;unfold fQ at is ⊢;rw[post];rw[ok]at is ⊢;cases aQ:ca c.ay r with
  | true=>
   rw[aQ]at s8;rw[tL,show gJ c.ay x=(⟨q,(dW c.ay x.cells r).2.1,x.bZ,(dW c.ay x.cells r).1,x.bM,x.bV,x.bm.set r.bh.a7.toNat true,x.b1⟩,true) by rw[hu,ax,aF];simp only[aQ,fL]];have e:aL.e ⟨q,(dW c.ay x.cells r).2.1,x.bZ,(dW c.ay x.cells r).1,x.bM,x.bV,x.bm.set r.bh.a7.toNat true,x.b1⟩=[.J 5 ([]++((x.queue.map aE.e).drop 1).take ((x.queue.map aE.e).length-1)),.J 5 ((dW c.ay x.cells r).2.1.map aE.e),.J 5 (x.bZ.map aE.e),.J 4 ((dW c.ay x.cells r).1.map Cell.e),.J 1 (x.bM.map ba),.J 1 (x.bV.map cI),.J 1 ((x.bm.map cI).set r.bh.a7.toNat [B true]),.J 2 (x.b1.map cD.e)]:=by
    rw[Cg aF];simp only[aL.e,kG];rfl
   dsimp only;rw[Ch,e];have key:=aly ⟨is,rfl,cX,cU,ch,mR ax,nH aF,by omega,nT aF,qj aF,st,qD,qE aF,qF,zV aF sc,zW aF sc,zX aF,s8,rfl,he.1,c1,c2,ch,rfl,rfl,rfl,rfl,cX,by rw[fN];exact cU,hX cX cU,rfl,rfl,rfl,rfl,rfl,ae⟩;simp only[qp]at key;exact key
  | false=>
   rw[aQ]at s8;rw[tL,show gJ c.ay x=(⟨q,(dW c.ay x.cells r).2.1,x.bZ,(dW c.ay x.cells r).1,x.bM,x.bV,x.bm,x.b1⟩,true) by rw[hu,ax,aF];simp only[aQ];rfl];have e:aL.e ⟨q,(dW c.ay x.cells r).2.1,x.bZ,(dW c.ay x.cells r).1,x.bM,x.bV,x.bm,x.b1⟩=[.J 5 ([]++((x.queue.map aE.e).drop 1).take ((x.queue.map aE.e).length-1)),.J 5 ((dW c.ay x.cells r).2.1.map aE.e),.J 5 (x.bZ.map aE.e),.J 4 ((dW c.ay x.cells r).1.map Cell.e),.J 1 (x.bM.map ba),.J 1 (x.bV.map cI),.J 1 (x.bm.map cI),.J 2 (x.b1.map cD.e)]:=by
    rw[Cg aF];rfl
   dsimp only;rw[Ch,e];exact alz ⟨is,rfl,cX,cU,ch,mR ax,nH aF,by omega,nT aF,qj aF,st,qD,qE aF,qF,zV aF sc,zW aF sc,zX aF,s8,rfl,cX,cU,ch,rfl,rfl,rfl,rfl,rfl,ae⟩
theorem amT(c:aU)(w:Int)(af:c.sz<=8388608):dC prog 171 [.ref (fQ c) (fQ (jo c w).1),.ro (.one (I w))] (.vals [.one (B (jo c w).2)]):=by
 have post:=fun h=>UE (c:=c) (w:=w) h
 have is:=MJ c w af;cases ok:cq c with
 | false=>
  rw[ok]at is;rw[show jo c w=(c,false) by unfold jo;simp[ok]];exact U7 ⟨is,rfl,ae⟩
 | true=>
 replace post:=post ok;cases aa:b3 c w with
 | none=>
  rw[ok,aa]at is;rw[show jo c w=(c,false) by unfold jo;simp[aa]];exact U7 ⟨is,rfl,ae⟩
 | some x=>
 rw[ok,aa]at is;obtain⟨cX,cU,ch⟩:=mo aa;have c7:=mY aa af;have H5:=(e7.1 ok).1;have GZ:=jr ok aa;have lB:x.bZ.length<=8388608:=by simp only[aL.sz]at c7;omega
 have hu:gK c.ay x=match x.cp,x.queue,x.bZ with
  | [],[],r::t=>(⟨[r],[],t,x.cells,x.bM,x.bV,x.bm,x.b1⟩,true)
  | _,_,_=>(x,false):=by unfold gK;rw[H5,GZ];rfl
 have tL:jo c w=(setW c w (gK c.ay x).1,(gK c.ay x).2):=by unfold jo;simp[ok,aa]
 cases ax:x.cp with
 | cons r q=>
  rw[tL,show gK c.ay x=(x,false) by rw[hu,ax]];dsimp only;rw[tZ aa];exact al7 ⟨is,rfl,cX,cU,ch,y' ax,ae⟩
 | nil=>
 cases aF:x.queue with
 | cons r q=>
  rw[tL,show gK c.ay x=(x,false) by rw[hu,ax,aF]];dsimp only;rw[tZ aa];exact al8 ⟨is,rfl,cX,cU,ch,mR ax,y' aF,ae⟩
 | nil=>
 cases aQ:x.bZ with
 | nil=>
  rw[tL,show gK c.ay x=(x,false) by rw[hu,ax,aF,aQ]];dsimp only;rw[tZ aa];exact al9 ⟨is,rfl,cX,cU,ch,mR ax,mR aF,u1 aQ,ae⟩
 | cons r t=>
  unfold fQ at is ⊢;rw[post];rw[ok]at is ⊢;rw[tL,show gK c.ay x=(⟨[r],[],t,x.cells,x.bM,x.bV,x.bm,x.b1⟩,true) by rw[hu,ax,aF,aQ]];have e:aL.e ⟨[r],[],t,x.cells,x.bM,x.bV,x.bm,x.b1⟩=[.J 5 ([r.e]),.J 5 (x.cp.map aE.e),.J 5 ([]++((x.bZ.map aE.e).drop 1).take ((x.bZ.map aE.e).length-1)),.J 4 (x.cells.map Cell.e),.J 1 (x.bM.map ba),.J 1 (x.bV.map cI),.J 1 (x.bm.map cI),.J 2 (x.b1.map cD.e)]:=by
   rw[Cg aQ,ax];rfl
  dsimp only;rw[Ch,e];exact ama ⟨is,rfl,cX,cU,ch,mR ax,mR aF,nH aQ,by omega,nT aQ,qj aQ,qD,qE aQ,qF,zV aQ lB,zW aQ lB,zX aQ,cX,cU,ch,rfl,rfl,rfl,rfl,rfl,rfl,ae⟩
theorem amU(c:aU)(w:Int)(af:c.sz<=8388608):dC prog 151 [.ref (fQ c) (fQ (iS c w).1),.ro (.one (I w))] (.vals [.one (B (iS c w).2)]):=by
 have is:=MJ c w af;cases ok:cq c with
 | false=>
  rw[ok]at is;rw[show iS c w=(c,false) by unfold iS;simp[ok]];exact U9 ⟨is,rfl,ae⟩
 | true=>
 cases aa:b3 c w with
 | none=>
  rw[ok,aa]at is;rw[show iS c w=(c,false) by unfold iS;simp[aa]];exact U9 ⟨is,rfl,ae⟩
 | some x=>
 rw[ok,aa]at is;obtain⟨cX,cU,ch⟩:=mo aa;have c7:=mY aa af;have aK:=ii (e7.1 ok).1;cases ai:x.cp with
 | nil=>
  rw[show iS c w=(c,false) by unfold iS;rw[aZ ok,aa];dsimp only;rw[ai]];exact amc ⟨is,rfl,cX,cU,ch,u1 ai,ae⟩
 | cons r t=>
  have ou:=SN r.key c.ay.aq (by omega);have az:=(Fa (jr ok aa) ai).2;have he:=sD az;have sc:x.queue.length<=8388608:=by simp only[aL.sz]at c7;omega
  have nC:x.cp.length<=8388608:=by simp only[aL.sz]at c7;omega
  obtain⟨f4,_,_,fg⟩:=Gz ok aa;rw[Vl ok aa ai];have y6:=Co r.key aK.1;generalize eJ r.key c.ay.aq=o at ou y6;by_cases how:o=w
  ·have r1:(o != w)=false:=by simp[how]
   rw[Vm how];unfold fQ at is ⊢;dsimp only;rw[UB ok aa ai];rw[ok]at is ⊢;have e:(kept (iB x t) r).e=[.J 5 (x.queue.map aE.e++[r.e]),.J 5 ([]++((x.cp.map aE.e).drop 1).take ((x.cp.map aE.e).length-1)),.J 5 (x.bZ.map aE.e),.J 4 (x.cells.map Cell.e),.J 1 (x.bM.map ba),.J 1 (x.bV.map cI),.J 1 (x.bm.map cI),.J 2 (x.b1.map cD.e)]:=by
    rw[Cg ai,Nn];rfl
   rw[Ch,e];have key:=amf ⟨is,rfl,cX,cU,ch,nH ai,cX,cU,ch,by omega,nT ai,qj ai,ou,r1,cX,cU,ch,y7 sc,y8 sc,ch,rfl,dY (aE.flat r),rfl,rfl,rfl,rfl,rfl,rfl,rfl,rfl,rfl,rfl,rfl,rfl,rfl,cX,cU,ch,rfl,cX,by rw[fN];exact cU,hX cX cU,qD,qE ai,qF,zV ai nC,zW ai nC,zX ai,cX,by rw[fN];exact cU,hX cX cU,ae⟩;simp only[qp]at key;exact key
  have r1:(o != w)=true:=by simp[how]
  have win:ap w 0 (c.ay.aq-1)=true:=by
   have:=Gy aa;rwa[bk,(e7.1 ok).2.1]at this
  obtain⟨l,aj⟩:=xI ok win y6;obtain⟨kV,kW,kX⟩:=zZ aj;have aR:=Nl c.ay w o aK;have k2:=alO l r (z1 aj af);have aa3:=fun h=>UA ok aa ai y6 how aj h
  rw[UN how aj];cases bb:(ei l r).2 with
  | false=>
   rw[bb]at k2;exact amd ⟨is,rfl,cX,cU,ch,nH ai,cX,cU,ch,by omega,nT ai,qj ai,ou,r1,aR,kV,kW,kX,k2,rfl,ae⟩
  | true=>
   rw[bb]at k2;rw[aZ rfl];unfold fQ at is ⊢;dsimp only;rw[aa3 bb];rw[ok]at is ⊢;have x1:=UR (db c (dX c.ay w o) (ei l r).1) w r.bh.a7 1 x (Cq.trans aa) f4 he (by omega) (fg _ he);rw[Vj,MH,UQ]at x1;have e:(my (iB x t) r.bh.a7).e=[.J 5 (x.queue.map aE.e),.J 5 ([]++((x.cp.map aE.e).drop 1).take ((x.cp.map aE.e).length-1)),.J 5 (x.bZ.map aE.e),.J 4 (x.cells.map Cell.e),.J 1 ((x.bM.map ba).set r.bh.a7.toNat [I (x.bM.getD r.bh.a7.toNat 0+1)]),.J 1 (x.bV.map cI),.J 1 (x.bm.map cI),.J 2 (x.b1.map cD.e)]:=by
    rw[Cg ai,Vf];rfl
   rw[MH,e];have key:=ame ⟨is,rfl,cX,cU,ch,nH ai,cX,cU,ch,by omega,nT ai,qj ai,ou,r1,aR,kV,kW,kX,k2,rfl,kV,kW,kX,x1,cX,by rw[fN];exact cU,hX cX cU,qD,qE ai,qF,zV ai nC,zW ai nC,zX ai,cX,by rw[fN];exact cU,hX cX cU,ae⟩;simp only[qp]at key;exact key
theorem amV(c:aU)(a b:Int)(af:c.sz<=8388608):dC prog 156 [.ref (fQ c) (fQ (jM c a b).1),.ro (.one (I a)),.ro (.one (I b))] (.vals [.one (B (jM c a b).2)]):=by
 cases ok:cq c with
 | false=>
  rw[show jM c a b=(c,false) by unfold jM;simp[ok]];obtain⟨v,aR⟩:=Vd c.ay a b;unfold fQ;rw[ok];exact amh ⟨aR,rfl,ae⟩
 | true=>
 have aK:=ii (e7.1 ok).1;have aR:=Nl c.ay a b aK;cases bC:(ap a 0 (c.ay.aq-1)&&ap b 0 (c.ay.aq-1)) with
 | false=>
  rw[t' bC]at aR;rw[show jM c a b=(c,false) by unfold jM;rw[GC bC];split<;>rfl];unfold fQ;rw[ok];exact ami ⟨aR,rfl,dr (by decide),ae⟩
 | true=>
 rw[b8]at bC;obtain⟨l,aj⟩:=xI ok bC.1 bC.2;obtain⟨kV,kW,kX⟩:=zZ aj;by_cases dD:a=b
 ·rw[show jM c a b=(c,false) by unfold jM;simp[dD]];unfold fQ;rw[ok];exact amj ⟨aR,rfl,ee (by omega),by simp[dD],ae⟩
 have r1:(a==b)=false:=by simp[dD]
 obtain⟨x,aa⟩:∃x,b3 c b=some x:=by
  have ao:=bC.2;have:=(e7.1 ok).2.1;simp only[ap,b']at ao;exact oF (by omega) (by omega)
 obtain⟨cX,cU,ch⟩:=mo aa;have c7:=mY aa af;have sM:=alP l (z1 aj af);have aa6:=fun h=>UC ok aj aa h
 rw[UO ok dD aj aa];unfold fQ;cases bb:(dI l).2.2 with
 | false=>
  rw[bb]at sM;rw[a6 (by decide)];dsimp only;rw[ok];exact amk ⟨aR,rfl,ee (by omega),r1,kV,kW,kX,sM,rfl,ae⟩
 | true=>
  rw[bb]at sM;rw[aZ rfl];dsimp only;rw[aa6 bb,ok];have az:=(Fb (rr ok aj) bb).2;have he:=sD az;generalize (dI l).2.1=r at sM az he ⊢;obtain⟨f4,HZ,_,fg⟩:=Gz ok aa;have sc:x.queue.length<=8388608:=by simp only[aL.sz]at c7;omega
  obtain⟨eU,fH⟩:=uz HZ he;have ka:b3 (setW (db c (dX c.ay a b) (dI l).1) b ⟨x.queue++[r],x.cp,x.bZ,x.cells,x.bM,x.bV.set r.bh.a7.toNat true,x.bm,x.b1⟩) b=some ⟨x.queue++[r],x.cp,x.bZ,x.cells,x.bM,x.bV.set r.bh.a7.toNat true,x.bm,x.b1⟩:=by
   obtain⟨q1,jK,_⟩:=eK aa;unfold b3 setW db;rw[aZ q1];exact List.getElem?_set_self jK
  have x1:=UR _ b r.bh.a7 (-1) _ ka f4 he (by omega) (fg _ he);rw[MH]at x1;have e2:aL.e ⟨x.queue++[r],x.cp,x.bZ,x.cells,x.bM,x.bV.set r.bh.a7.toNat true,x.bm,x.b1⟩=[.J 5 (x.queue.map aE.e++[r.e]),.J 5 (x.cp.map aE.e),.J 5 (x.bZ.map aE.e),.J 4 (x.cells.map Cell.e),.J 1 (x.bM.map ba),.J 1 ((x.bV.map cI).set r.bh.a7.toNat [B true]),.J 1 (x.bm.map cI),.J 2 (x.b1.map cD.e)]:=by
   simp only[aL.e,jV,kG];rfl
  rw[e2,<-qp]at x1;rw[show setW (setW (db c (dX c.ay a b) (dI l).1) b ⟨x.queue++[r],x.cp,x.bZ,x.cells,x.bM,x.bV.set r.bh.a7.toNat true,x.bm,x.b1⟩) b (GR ⟨x.queue++[r],x.cp,x.bZ,x.cells,x.bM,x.bV.set r.bh.a7.toNat true,x.bm,x.b1⟩ r.bh.a7 (-1))=setW (db c (dX c.ay a b) (dI l).1) b (k1 x r) by unfold setW db;simp only[qp];rfl]at x1;exact aml ⟨aR,rfl,ee (by omega),r1,kV,kW,kX,sM,rfl,kV,kW,kX,cX,cU,ch,y7 sc,y8 sc,ch,rfl,dY (aE.flat r),rfl,rfl,rfl,rfl,rfl,rfl,rfl,cX,cU,ch,rfl,cX,by rw[fN];exact cU,hX cX cU,he.1,eU,fH,hX cX cU,rfl,rfl,x1,ae⟩
theorem amW(c:aU)(a b:Int)(af:c.sz<=8388608):dC prog 158 [.ref (fQ c) (fQ (jq c a b).1),.ro (.one (I a)),.ro (.one (I b))] (.vals [.one (B (jq c a b).2)]):=by
 have post:=fun h=>UF (c:=c) (a:=a) (b:=b) h
 cases ok:cq c with
 | false=>
  rw[show jq c a b=(c,false) by unfold jq;simp[ok]];obtain⟨v,aR⟩:=Vd c.ay a b;unfold fQ;rw[ok];exact al3 ⟨aR,rfl,ae⟩
 | true=>
 replace post:=post ok;have aK:=ii (e7.1 ok).1;have aR:=Nl c.ay a b aK;unfold fQ;rw[post,ok];cases bC:(ap a 0 (c.ay.aq-1)&&ap b 0 (c.ay.aq-1)) with
 | false=>
  rw[t' bC]at aR;rw[show jq c a b=(c,false) by unfold jq;rw[GC bC];split<;>rfl];exact al4 ⟨aR,rfl,dr (by decide),ae⟩
 | true=>
 rw[b8]at bC;obtain⟨l,aj⟩:=xI ok bC.1 bC.2;obtain⟨kV,kW,kX⟩:=zZ aj;by_cases dD:a=b
 ·rw[show jq c a b=(c,false) by unfold jq;simp[dD]];exact al5 ⟨aR,rfl,ee (by omega),by simp[dD],ae⟩
 rw[UP ok dD aj];dsimp only;rw[Vj];exact al6 ⟨aR,rfl,ee (by omega),by simp[dD],kV,kW,kX,alQ l (z1 aj af),kV,kW,kX,ae⟩
theorem US(c:aU)(p:b9)(af:c.sz<=8388608):dC prog 128 [.ref (fQ c) (fQ (cY c p).1),.ro (.agg p.e)] (.vals [.one (B (cY c p).2)]):=by
 by_cases h1:p.kind=1
 ·rw[show cY c p=jn c p.a by unfold cY;simp[h1]];exact alA ⟨by rw[dp];exact h1,amS c p.a af,ae⟩
 have hD:(p.kind==1)=false:=by rw[h7,fM,dp];exact h1
 by_cases U:p.kind=2
 ·rw[show cY c p=jo c p.a by unfold cY;simp[U]];exact alB ⟨hD,by rw[dp];exact U,amT c p.a af,ae⟩
 have ih:(p.kind==2)=false:=by rw[h7,fM,dp];exact U
 by_cases ax:p.kind=3
 ·rw[show cY c p=iS c p.a by unfold cY;simp[ax]];exact alC ⟨hD,ih,by rw[dp];exact ax,amU c p.a af,ae⟩
 have ku:(p.kind==3)=false:=by rw[h7,fM,dp];exact ax
 by_cases aF:p.kind=4
 ·rw[show cY c p=jM c p.a p.b by unfold cY;simp[aF]];exact alD ⟨hD,ih,ku,by rw[dp];exact aF,amV c p.a p.b af,ae⟩
 have jh:(p.kind==4)=false:=by rw[h7,fM,dp];exact aF
 by_cases aQ:p.kind=5
 ·rw[show cY c p=jq c p.a p.b by unfold cY;simp[aQ]];exact alE ⟨hD,ih,ku,jh,by rw[dp];exact aQ,amW c p.a p.b af,ae⟩
 have kv:(p.kind==5)=false:=by rw[h7,fM,dp];exact aQ
 by_cases bb:p.kind=6
 ·rw[show cY c p=ij c p.a by unfold cY;simp[bb]];exact alF ⟨hD,ih,ku,jh,kv,by rw[dp];exact bb,aip c p.a af,ae⟩
 have n6:(p.kind==6)=false:=by rw[h7,fM,dp];exact bb
 by_cases bN:p.kind=7
 ·rw[show cY c p=jN c p.a by unfold cY;simp[bN]];exact alG ⟨hD,ih,ku,jh,kv,n6,by rw[dp];exact bN,aiP c p.a af,ae⟩
 have n7:(p.kind==7)=false:=by rw[h7,fM,dp];exact bN
 rw[show cY c p=(c,false) by unfold cY;simp[h1,U,ax,aF,aQ,bb,bN]];exact alH ⟨hD,ih,ku,jh,kv,n6,n7,ae⟩
theorem amX(c:aU)(p:b9)(af:c.sz<=8388608)(hw:fF c):aw 87 [.agg c.e,.agg p.e] [.agg (cY c p).1.e,.one (B (cY c p).2)]:=by
 by_cases h1:p.kind=1
 ·rw[show cY c p=jn c p.a by unfold cY;simp[h1]];exact alg ⟨by rw[dp];exact h1,alq c p.a af hw,ae⟩
 have hD:(p.kind==1)=false:=by rw[h7,fM,dp];exact h1
 by_cases U:p.kind=2
 ·rw[show cY c p=jo c p.a by unfold cY;simp[U]];exact alh ⟨hD,by rw[dp];exact U,alr c p.a af hw,ae⟩
 have ih:(p.kind==2)=false:=by rw[h7,fM,dp];exact U
 by_cases ax:p.kind=3
 ·rw[show cY c p=iS c p.a by unfold cY;simp[ax]];exact ali ⟨hD,ih,by rw[dp];exact ax,als c p.a af hw,ae⟩
 have ku:(p.kind==3)=false:=by rw[h7,fM,dp];exact ax
 by_cases aF:p.kind=4
 ·rw[show cY c p=jM c p.a p.b by unfold cY;simp[aF]];exact alj ⟨hD,ih,ku,by rw[dp];exact aF,alu c p.a p.b af hw,ae⟩
 have jh:(p.kind==4)=false:=by rw[h7,fM,dp];exact aF
 by_cases aQ:p.kind=5
 ·rw[show cY c p=jq c p.a p.b by unfold cY;simp[aQ]];exact aku ⟨hD,ih,ku,jh,by rw[dp];exact aQ,alv c p.a p.b af hw,ae⟩
 have kv:(p.kind==5)=false:=by rw[h7,fM,dp];exact aQ
 by_cases bb:p.kind=6
 ·rw[show cY c p=ij c p.a by unfold cY;simp[bb]];exact akv ⟨hD,ih,ku,jh,kv,by rw[dp];exact bb,ais c p.a af hw,ae⟩
 have n6:(p.kind==6)=false:=by rw[h7,fM,dp];exact bb
 by_cases bN:p.kind=7
 ·rw[show cY c p=jN c p.a by unfold cY;simp[bN]];exact akw ⟨hD,ih,ku,jh,kv,n6,by rw[dp];exact bN,aiQ c p.a af hw,ae⟩
 have n7:(p.kind==7)=false:=by rw[h7,fM,dp];exact bN
 rw[show cY c p=(c,false) by unfold cY;simp[h1,U,ax,aF,aQ,bb,bN]];exact akx ⟨hD,ih,ku,jh,kv,n6,n7,rD c af,ae⟩
