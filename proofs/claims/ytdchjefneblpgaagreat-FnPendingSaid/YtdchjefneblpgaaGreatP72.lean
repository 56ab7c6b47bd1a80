import Derived.Test.YtdchjefneblpgaaGreatP59
import Derived.Test.YtdchjefneblpgaaGreatGW
set_option linter.unusedVariables false
set_option linter.unusedSimpArgs false
namespace Go.Proofs.YtdchjefneblpgaaGreat
open Go.Sx Go.RowKit Go.Proofs.Tryz
end Go.Proofs.YtdchjefneblpgaaGreat
namespace Go.Proofs.YtdchjefneblpgaaGreat
open Go.Sx Go.RowKit Go.Proofs.Tryz
section
variable {xs : List aA} {r : aA} {t : List aA}
theorem BH(h:xs=r::t):((xs.map aA.e).drop 1).take ((xs.map aA.e).length-1)=t.map aA.e:=by subst h;exact tp (by simp)
theorem nV(h:xs=r::t):(0:Int)<(↑(xs.map aA.e).length:Int):=by subst h;simp only[bp,dn];omega
theorem qo(h:xs=r::t):(xs.map aA.e)[0]?=some r.e:=by subst h;rfl
theorem qc(h:xs=r::t):((↑(xs.map aA.e).length:Int)==0)=false:=by
 have:=nV h;rw[kq,ho,eu];omega
theorem vP(h:xs=[]):((↑(xs.map aA.e).length:Int)==0)=true:=by subst h;rfl
theorem x2(h:xs=r::t):decide ((↑(xs.map aA.e).length:Int)>0)=true:=dU (nV h)
theorem l2(h:xs=[]):decide ((↑(xs.map aA.e).length:Int)>0)=false:=by subst h;rfl
theorem qV:(0:Int)<=(some (1:Int)).getD 0:=by decide
theorem qW(h:xs=r::t):(some (1:Int)).getD 0<=(none:Option Int).getD (↑(xs.map aA.e).length:Int):=by
 have:=nV h;simp only[hl,Option.getD_none];omega
theorem qX{l:List (List D)}:(none:Option Int).getD (↑l.length:Int)<=(↑l.length:Int):=by simp
theorem rN(h:xs=r::t)(af:xs.length<=8388608):(([]:List (List D)).length+(((xs.map aA.e).drop 1).take ((xs.map aA.e).length-1)).length)*40<=140737488355328:=by
 rw[BH h];refine nl ?_;subst h;simp only[bp,dn]at *;omega
theorem rO(h:xs=r::t)(af:xs.length<=8388608):([]:List (List D)).length+(((xs.map aA.e).drop 1).take ((xs.map aA.e).length-1)).length<=9223372036854775807:=by
 rw[BH h];refine nI ?_;subst h;simp only[bp,dn]at *;omega
theorem rP(h:xs=r::t):Flat (((xs.map aA.e).drop 1).take ((xs.map aA.e).length-1)):=by rw[BH h];exact cn _ aA.flat _
theorem s7(h:xs=r::t):([]:List (List D))++((xs.map aA.e).drop 1).take ((xs.map aA.e).length-1)=t.map aA.e:=BH h
end
theorem As{xs:List aA}{a:List D}(h:xs.length<=8388608):((xs.map aA.e).length+[a].length)*40<=140737488355328:=by simp;omega
theorem Au{xs:List aA}{a:List D}(h:xs.length<=8388608):(xs.map aA.e).length+[a].length<=9223372036854775807:=by simp;omega
theorem aix(a:Int)(q:List aA)(r:aA)(b c d e:Int):bC.e ⟨a,q++[r],b,c,d,e⟩=[I a,.J 5 (q.map aA.e++[r.e]),I b,I c,I d,I e]:=by
 simp only[bC.e,e3];rfl
theorem Lk{l:bC}(h:k9 l=true):(0<=l.fh/\l.fh<=4)/\(0<=l.back/\l.back<=4)/\(0<=l.eV/\l.eV<=1000000000)/\(0<=l.dO/\l.dO<=1000000000)/\l.queue.length<=4:=by
 obtain⟨cC,b6,eH,l1,kG,ov,kf,ow⟩:=oR.1 h;simp only[aW,ci]at cC b6 eH kG;omega
theorem TQ(l:bC)(r:aA)(af:l.sz<=8388608):aK 258 [.agg l.e,.agg r.e] [.agg (eI l r).1.e,.one (B (eI l r).2)]:=by
 have h2:=D8 l af;have k:=DZ l af;have kg:=s0 r;have av:l.queue.length<=8388608:=af;cases h1:k9 l with
 | false=>
  rw[h1]at k;rw[show eI l r=(l,false) by unfold eI;simp[h1]];exact agZ ⟨h2,k,rfl,aj⟩
 | true=>
 rw[h1]at k;cases U:fZ r with
 | false=>
  rw[U]at kg;rw[show eI l r=(l,false) by unfold eI;simp[U]];exact ag0 ⟨h2,k,rfl,kg,rfl,aj⟩
 | true=>
 rw[U]at kg;by_cases au:l.fh=0
 ·rw[show eI l r=(l,false) by unfold eI;simp[au]];exact ag1 ⟨h2,k,rfl,kg,rfl,by rw[eu];exact au,aj⟩
 have M5:(l.fh==0)=false:=by rw[kq,ho,eu];exact au
 obtain⟨ki,kZ,oz,lv,mO⟩:=Lk h1;by_cases aH:l.eV<1000000000
 ·rw[show eI l r=(⟨l.cap,l.queue++[r],l.fh-1,l.back,l.eV+1,l.dO⟩,true) by unfold eI;simp[h1,U,au,aH]];dsimp only;rw[aix];exact ag3 ⟨h2,k,rfl,kg,rfl,M5,eX (by omega),As av,Au av,dk (aA.flat r),⟨by omega,by omega⟩,⟨by omega,by omega⟩,aj⟩
 rw[show eI l r=(l,false) by unfold eI;simp[aH]];dsimp only;exact ag2 ⟨h2,k,rfl,kg,rfl,M5,dU (by omega),aj⟩
theorem TR(l:bC)(af:l.sz<=8388608):aK 260 [.agg l.e] [.agg (dJ l).1.e,.agg (dJ l).2.1.e,.one (B (dJ l).2.2)]:=by
 have h2:=D8 l af;have k:=DZ l af;have av:l.queue.length<=8388608:=af;cases h1:k9 l with
 | false=>
  rw[h1]at k;rw[show dJ l=(l,Fe,false) by unfold dJ;simp[h1]];exact ag4 ⟨h2,k,rfl,aj⟩
 | true=>
 rw[h1]at k;cases U:l.queue with
 | nil=>
  rw[show dJ l=(l,Fe,false) by unfold dJ;rw[a6 h1];simp only[U]];exact ag5 ⟨h2,k,rfl,vP U,aj⟩
 | cons r q=>
  obtain⟨ki,kZ,oz,lv,mO⟩:=Lk h1;rw[show dJ l=(⟨l.cap,q,l.fh,l.back+1,l.eV,l.dO+1⟩,r,true) by unfold dJ;rw[a6 h1];simp only[U]];have e:bC.e ⟨l.cap,q,l.fh,l.back+1,l.eV,l.dO+1⟩=[I l.cap,.J 5 (((l.queue.map aA.e).drop 1).take ((l.queue.map aA.e).length-1)),I l.fh,I (l.back+1),I l.eV,I (l.dO+1)]:=by rw[BH U];rfl
  dsimp only;rw[e];exact ag6 ⟨h2,k,rfl,qc U,by omega,nV U,qo U,qV,qW U,qX,rN U av,rO U av,rP U,⟨by omega,by omega⟩,⟨by omega,by omega⟩,aj⟩
theorem TS(l:bC)(af:l.sz<=8388608):aK 261 [.agg l.e] [.agg (gw l).1.e,.one (B (gw l).2)]:=by
 have h2:=D8 l af;have k:=DZ l af;cases h1:k9 l with
 | false=>
  rw[h1]at k;rw[show gw l=(l,false) by unfold gw;simp[h1]];exact agO ⟨h2,k,rfl,aj⟩
 | true=>
 rw[h1]at k;by_cases au:l.back=0
 ·rw[show gw l=(l,false) by unfold gw;simp[au]];exact agP ⟨h2,k,rfl,by rw[eu];exact au,aj⟩
 obtain⟨ki,kZ,oz,lv,mO⟩:=Lk h1;rw[show gw l=(⟨l.cap,l.queue,l.fh+1,l.back-1,l.eV,l.dO⟩,true) by unfold gw;simp[h1,au]];exact agQ ⟨h2,k,rfl,by rw[kq,ho,eu];exact au,⟨by omega,by omega⟩,⟨by omega,by omega⟩,aj⟩
theorem aiy{n a b:Int}(aL:1<=n/\n<=4)(ag:aW a 0 (n-1)=true)(ah:aW b 0 (n-1)=true):bf .i64 (a*n)/\bf .i64 (a*n+b):=by
 simp only[aW,ci]at ag ah;have zN:n=1\/n=2\/n=3\/n=4:=by omega
 rcases zN with rfl | rfl | rfl | rfl<;>exact⟨⟨by omega,by omega⟩,⟨by omega,by omega⟩⟩
theorem Ll{n:Int}(h:bf .i64 n):IntKind.i64.wrap n=n:=by
 obtain⟨h1,U⟩:=h;simp only[IntKind.wrap_i64];omega
theorem TT(g:bW)(a b:Int):∃v,aK 61 [.agg g.e,.one (I a),.one (I b)] [.one (I v)]:=by
 cases ag:aW a 0 (IntKind.i64.wrap (g.ap-1)) with
 | false=>exact⟨_,Ux ⟨fL _ ag,rfl,aj⟩⟩
 | true=>
 cases ah:aW b 0 (IntKind.i64.wrap (g.ap-1)) with
 | false=>exact⟨_,Uy ⟨fL _ ag,rfl,fL _ ah,rfl,aj⟩⟩
 | true=>
 by_cases aL:g.ap<1
 ·exact⟨_,agV ⟨fL _ ag,rfl,fL _ ah,rfl,dU aL,aj⟩⟩
 exact⟨_,Uz ⟨fL _ ag,rfl,fL _ ah,rfl,eX aL,aj⟩⟩
theorem Lm(g:bW)(a b:Int)(aL:1<=g.ap/\g.ap<=4):aK 61 [.agg g.e,.one (I a),.one (I b)] [.one (I (dF g a b))]:=by
 have i1:IntKind.i64.wrap (g.ap-1)=g.ap-1:=Ll ⟨by omega,by omega⟩;have Af:∀(x:Int) (r:Bool),aW x 0 (g.ap-1)=r->aK 168 [.one (I x),.one (I 0),.one (I (IntKind.i64.wrap (g.ap-1)))] [.one (B r)]:=fun x r h=>by
  rw[i1];exact fL _ h
 cases ag:aW a 0 (g.ap-1) with
 | false=>
  rw[yP (by rw[ag];rfl)];exact Ux ⟨Af _ _ ag,rfl,aj⟩
 | true=>
 cases ah:aW b 0 (g.ap-1) with
 | false=>
  rw[yP (by rw[ag,ah];rfl)];exact Uy ⟨Af _ _ ag,rfl,Af _ _ ah,rfl,aj⟩
 | true=>
  obtain⟨qa,ou⟩:=aiy aL ag ah;have key:aK 61 [.agg g.e,.one (I a),.one (I b)] [.one (I (IntKind.i64.wrap (IntKind.i64.wrap (a*g.ap)+b)))]:=Uz ⟨Af a true ag,rfl,Af b true ah,rfl,eX (by omega),aj⟩;rw[Ll qa,Ll ou]at key;rw[(wS aL ag ah).1];exact key
theorem Ln(w:aP)(r:aA):(kept w r).e=[.J 5 (w.queue.map aA.e++[r.e]),.J 5 (w.ck.map aA.e),.J 5 (w.bT.map aA.e),.J 4 (w.cells.map Cell.e),.J 1 (w.bK.map cv),.J 1 (w.bL.map c6),.J 1 (w.bA.map c6),.J 2 (w.cu.map dA.e)]:=by
 simp only[kept,aP.e,e3];rfl
theorem aiz(w:aP)(r:aA):(hV w r).e=[.J 5 (w.queue.map aA.e++[r.e]),.J 5 (w.ck.map aA.e),.J 5 (w.bT.map aA.e),.J 4 (w.cells.map Cell.e),.J 1 ((w.bK.map cv).set r.bc.a8.toNat [I (w.bK.getD r.bc.a8.toNat 0-1)]),.J 1 ((w.bL.map c6).set r.bc.a8.toNat [B true]),.J 1 (w.bA.map c6),.J 2 (w.cu.map dA.e)]:=by
 simp only[hV,kX,aP.e,e3,jj];rfl
theorem aiA(w:aP)(e:Int):(ma w e).e=[.J 5 (w.queue.map aA.e),.J 5 (w.ck.map aA.e),.J 5 (w.bT.map aA.e),.J 4 (w.cells.map Cell.e),.J 1 ((w.bK.map cv).set e.toNat [I (w.bK.getD e.toNat 0+1)]),.J 1 (w.bL.map c6),.J 1 (w.bA.map c6),.J 2 (w.cu.map dA.e)]:=by
 simp only[ma,kX,aP.e,jj];rfl
end Go.Proofs.YtdchjefneblpgaaGreat
namespace Go.Proofs.YtdchjefneblpgaaGreat
open Go.Sx Go.RowKit Go.Proofs.Tryz
variable{c:aU}{w:Int}
theorem aiB(h:b9 c w=none):aW w 0 ((↑(c.ap.map aP.e).length:Int)-1)=false:=by
 unfold b9 at h;simp only[aW,bp,jO];split at h
 ·rw[List.getElem?_eq_none_iff]at h;omega
 omega
variable{x:aP}
theorem TU(h:b9 c w=some x):aW w 0 ((↑(c.ap.map aP.e).length:Int)-1)=true:=by
 obtain⟨h1,U,_⟩:=er h;simp only[aW,bp,ci];omega
theorem Lo{i:Int}{x:bC}(h:ee c i=some x):0<=i/\i<(↑(c.bQ.map bC.e).length:Int)/\(c.bQ.map bC.e)[i.toNat]?=some x.e:=by
 obtain⟨h1,U,au⟩:=iq h;exact⟨h1,by rw[bp];omega,eP bC.e au⟩
theorem Lp{i:Int}{x:bC}(h:ee c i=some x)(ad:c.sz<=8388608):x.sz<=8388608:=aU.On ad (c8 (iq h).2.2)
theorem Vf(ad:c.sz<=8388608):bf .i64 ((↑(c.ap.map aP.e).length:Int)-1):=by
 have:=aU.xe ad;exact⟨by rw[bp];omega,by rw[bp];omega⟩
theorem BI(c:aU)(w:Int)(y:aP)(b:Bool):mg (setW c w y) b=[.J 4 (c.aF.nodes.map Node.e),I c.aF.ap,I c.aF.cap,.J 8 ((c.ap.map aP.e).set w.toNat y.e),.J 6 (c.bQ.map bC.e),.J 5 (c.tokens.map b'.e),.J 3 (c.news.map cA.e),B b]:=by simp only[setW,mg,jj]
theorem TV(c:aU)(i:Int)(y:bC)(b:Bool):mg (c0 c i y) b=[.J 4 (c.aF.nodes.map Node.e),I c.aF.ap,I c.aF.cap,.J 8 (c.ap.map aP.e),.J 6 ((c.bQ.map bC.e).set i.toNat y.e),.J 5 (c.tokens.map b'.e),.J 3 (c.news.map cA.e),B b]:=by simp only[c0,mg,jj]
theorem Lq(c:aU)(w i:Int)(y:aP)(z:bC)(b:Bool):mg (setW (c0 c i z) w y) b=[.J 4 (c.aF.nodes.map Node.e),I c.aF.ap,I c.aF.cap,.J 8 ((c.ap.map aP.e).set w.toNat y.e),.J 6 ((c.bQ.map bC.e).set i.toNat z.e),.J 5 (c.tokens.map b'.e),.J 3 (c.news.map cA.e),B b]:=by simp only[setW,c0,mg,jj]
theorem TW(ok:cF c=true)(aa:b9 c w=some x):x.bK.length=4/\x.bL.length=4/\x.bA.length=4/\(∀e:Int,0<=e/\e<=3->-1000000<=x.bK.getD e.toNat 0/\x.bK.getD e.toNat 0<=1000000):=by
 obtain⟨_,_,_,_,kG,ov,kf,_,sL,_⟩:=h6.1 (jH ok aa);refine⟨kG,ov,kf,fun e he=>?_⟩;have af:e.toNat<x.bK.length:=by omega
 rw[eW]at sL;have:=sL _ (rZ af);rw[iw,fC af,hl];simpa only[qA,fr,lf,aW,ci,tq,Bool.not_not,Bool.not_eq_eq_eq_not,ks,jO,Classical.not_not]using this
variable{r:aA}{t:List aA}
theorem aiC(ok:cF c=true)(aa:b9 c w=some x)(ae:x.ck=r::t):lF c w=qC c w x r t (eE r.key c.aF.ap):=by
 unfold lF;rw[a6 ok,aa];dsimp only;rw[ae]
theorem aiD{o:Int}(h:o=w):qC c w x r t o=(setW c w (kept (iP x t) r),true):=a6 h
variable{l:bC}
theorem ahN{o:Int}(h:o≠w)(af:ee c (dF c.aF w o)=some l):qC c w x r t o=if (eI l r).2 then (setW (c0 c (dF c.aF w o) (eI l r).1) w (ma (iP x t) r.bc.a8),true) else (c,false):=by
 unfold qC;rw[aX h,af]
variable{a b:Int}
theorem TX(h:(aW a 0 (c.aF.ap-1)&&aW b 0 (c.aF.ap-1))=false):ee c (dF c.aF a b)=none:=by
 rw[yP h];rfl
theorem ahO(ok:cF c=true)(dW:a≠b)(af:ee c (dF c.aF a b)=some l)(aa:b9 c b=some x):lG c a b=if (dJ l).2.2 then (setW (c0 c (dF c.aF a b) (dJ l).1) b (hV x (dJ l).2.1),true) else (c,false):=by
 unfold lG;rw[a6 (by simp[ok,dW]),af,aa]
theorem ahP(ok:cF c=true)(dW:a≠b)(af:ee c (dF c.aF a b)=some l):k2 c a b=(c0 c (dF c.aF a b) (gw l).1,(gw l).2):=by
 unfold k2;rw[a6 (by simp[ok,dW]),af]
theorem Lr(c:aU)(w:Int)(ad:c.sz<=8388608):bU prog 257 [.ref (fA c) (fA c),.ro (.one (I w))] (.vals [.one (B (cF c&&(b9 c w).isSome))]):=by
 unfold fA;cases ok:cF c with
 | false=>exact agF ⟨rfl,aj⟩
 | true=>
  cases aa:b9 c w with
  | none=>exact UB ⟨rfl,Vf ad,fL _ (aiB aa),aj⟩
  | some x=>exact UB ⟨rfl,Vf ad,fL _ (TU aa),aj⟩
def Fl(x:aP)(e d:Int):aP:=⟨x.queue,x.ck,x.bT,x.cells,kX x.bK e d,x.bL,x.bA,x.cu⟩
theorem TY(w:aP)(e d:Int):(Fl w e d).e=[.J 5 (w.queue.map aA.e),.J 5 (w.ck.map aA.e),.J 5 (w.bT.map aA.e),.J 4 (w.cells.map Cell.e),.J 1 ((w.bK.map cv).set e.toNat [I (w.bK.getD e.toNat 0+d)]),.J 1 (w.bL.map c6),.J 1 (w.bA.map c6),.J 2 (w.cu.map dA.e)]:=by
 simp only[Fl,kX,aP.e,jj];rfl
theorem TZ(c:aU)(w e d:Int)(x:aP)(aa:b9 c w=some x)(aH:x.bK.length=4)(he:0<=e/\e<=3)(ax:-1<=d/\d<=1)(ae:-1000000<=x.bK.getD e.toNat 0/\x.bK.getD e.toNat 0<=1000000):
  bU prog 259 [.ref (mg c true) (mg (setW c w (Fl x e d)) (aW (x.bK.getD e.toNat 0+d) (-1000000) 1000000)),.ro (.one (I w)),.ro (.one (I e)),.ro (.one (I d))] (.vals []):=by
 obtain⟨dR,dM,eh⟩:=rM aa;obtain⟨s1,s2⟩:=HF aH he;rw[BI,TY];exact agK ⟨dR,dM,eh,dR,dM,eh,he.1,s1,s2,⟨by omega,by omega⟩,he.1,s1,s2,eh,rfl,rfl,rfl,rfl,rfl,dR,by rw[eQ];exact dM,sj dR dM,he.1,by rw[eQ];exact s1,sj he.1 s1,iN _ _ _,aj⟩
theorem ahQ(c:aU)(w:Int)(ad:c.sz<=8388608):bU prog 170 [.ref (fA c) (fA (mb c w).1),.ro (.one (I w))] (.vals [.one (B (mb c w).2)]):=by
 have post:=fun h=>Tl (c:=c) (w:=w) h
 have is:=Lr c w ad;cases ok:cF c with
 | false=>
  rw[ok]at is;rw[show mb c w=(c,false) by unfold mb;simp[ok]];exact UD ⟨is,rfl,aj⟩
 | true=>
 replace post:=post ok;cases aa:b9 c w with
 | none=>
  rw[ok,aa]at is;rw[show mb c w=(c,false) by unfold mb;simp[aa]];exact UD ⟨is,rfl,aj⟩
 | some x=>
 rw[ok,aa]at is;obtain⟨dR,dM,eh⟩:=rM aa;have di:=uL aa ad;have Gs:=(fU.1 ok).1;have Fp:=jH ok aa;have hu:f' c.aF x=match x.ck,x.queue with
  | [],r::q=>(⟨q,(dL c.aF x.cells r).2.1,x.bT,(dL c.aF x.cells r).1,x.bK,x.bL,(if ct c.aF r then x.bA.set r.bc.a8.toNat true else x.bA),x.cu⟩,true)
  | _,_=>(x,false):=by unfold f';rw[Gs,Fp];rfl
 have sQ:mb c w=(setW c w (f' c.aF x).1,(f' c.aF x).2):=by unfold mb;simp[ok,aa]
 cases au:x.ck with
 | cons r q=>
  rw[sQ,show f' c.aF x=(x,false) by rw[hu,au]];dsimp only;rw[uG aa];exact aih ⟨is,rfl,dR,dM,eh,x2 au,aj⟩
 | nil=>
 cases aH:x.queue with
 | nil=>
  rw[sQ,show f' c.aF x=(x,false) by rw[hu,au,aH]];dsimp only;rw[uG aa];exact aii ⟨is,rfl,dR,dM,eh,l2 au,vP aH,aj⟩
 | cons r q=>
  have mB:x.cells.length<=8388608:=by simp only[aP.sz]at di;omega
  have lX:x.queue.length<=8388608:=by simp only[aP.sz]at di;omega
  have ao:=aU.vj ad;have st:=R8 c.aF x.cells r ao mB;have sc:=R9 c.aF r ao;obtain⟨cC,_,_,_,_,_,kf,_⟩:=h6.1 Fp;rw[aH,qj]at cC;have he:=uH cC.1;obtain⟨c1,c2⟩:=xq kf he;unfold fA at is ⊢;rw[post];rw[ok]at is ⊢;cases ba:ct c.aF r with
  | true=>
   rw[ba]at sc;rw[sQ,show f' c.aF x=(⟨q,(dL c.aF x.cells r).2.1,x.bT,(dL c.aF x.cells r).1,x.bK,x.bL,x.bA.set r.bc.a8.toNat true,x.cu⟩,true) by rw[hu,au,aH];simp only[ba,fO]];have e:aP.e ⟨q,(dL c.aF x.cells r).2.1,x.bT,(dL c.aF x.cells r).1,x.bK,x.bL,x.bA.set r.bc.a8.toNat true,x.cu⟩=[.J 5 ([]++((x.queue.map aA.e).drop 1).take ((x.queue.map aA.e).length-1)),.J 5 ((dL c.aF x.cells r).2.1.map aA.e),.J 5 (x.bT.map aA.e),.J 4 ((dL c.aF x.cells r).1.map Cell.e),.J 1 (x.bK.map cv),.J 1 (x.bL.map c6),.J 1 ((x.bA.map c6).set r.bc.a8.toNat [B true]),.J 2 (x.cu.map dA.e)]:=by
    rw[s7 aH];simp only[aP.e,jj];rfl
   dsimp only;rw[BI,e];have key:=aij ⟨is,rfl,dR,dM,eh,l2 au,qc aH,by omega,nV aH,qo aH,st,qV,qW aH,qX,rN aH lX,rO aH lX,rP aH,sc,rfl,he.1,c1,c2,eh,rfl,rfl,rfl,rfl,dR,by rw[eQ];exact dM,sj dR dM,rfl,rfl,rfl,rfl,rfl,aj⟩;simp only[Ci]at key;exact key
  | false=>
   rw[ba]at sc;rw[sQ,show f' c.aF x=(⟨q,(dL c.aF x.cells r).2.1,x.bT,(dL c.aF x.cells r).1,x.bK,x.bL,x.bA,x.cu⟩,true) by rw[hu,au,aH];simp only[ba];rfl];have e:aP.e ⟨q,(dL c.aF x.cells r).2.1,x.bT,(dL c.aF x.cells r).1,x.bK,x.bL,x.bA,x.cu⟩=[.J 5 ([]++((x.queue.map aA.e).drop 1).take ((x.queue.map aA.e).length-1)),.J 5 ((dL c.aF x.cells r).2.1.map aA.e),.J 5 (x.bT.map aA.e),.J 4 ((dL c.aF x.cells r).1.map Cell.e),.J 1 (x.bK.map cv),.J 1 (x.bL.map c6),.J 1 (x.bA.map c6),.J 2 (x.cu.map dA.e)]:=by
    rw[s7 aH];rfl
   dsimp only;rw[BI,e];exact aik ⟨is,rfl,dR,dM,eh,l2 au,qc aH,by omega,nV aH,qo aH,st,qV,qW aH,qX,rN aH lX,rO aH lX,rP aH,sc,rfl,dR,dM,eh,rfl,rfl,rfl,rfl,rfl,aj⟩
theorem ahR(c:aU)(w:Int)(ad:c.sz<=8388608):bU prog 171 [.ref (fA c) (fA (mc c w).1),.ro (.one (I w))] (.vals [.one (B (mc c w).2)]):=by
 have post:=fun h=>Tm (c:=c) (w:=w) h
 have is:=Lr c w ad;cases ok:cF c with
 | false=>
  rw[ok]at is;rw[show mc c w=(c,false) by unfold mc;simp[ok]];exact UA ⟨is,rfl,aj⟩
 | true=>
 replace post:=post ok;cases aa:b9 c w with
 | none=>
  rw[ok,aa]at is;rw[show mc c w=(c,false) by unfold mc;simp[aa]];exact UA ⟨is,rfl,aj⟩
 | some x=>
 rw[ok,aa]at is;obtain⟨dR,dM,eh⟩:=rM aa;have di:=uL aa ad;have Gs:=(fU.1 ok).1;have Fp:=jH ok aa;have jz:x.bT.length<=8388608:=by simp only[aP.sz]at di;omega
 have hu:ga c.aF x=match x.ck,x.queue,x.bT with
  | [],[],r::t=>(⟨[r],[],t,x.cells,x.bK,x.bL,x.bA,x.cu⟩,true)
  | _,_,_=>(x,false):=by unfold ga;rw[Gs,Fp];rfl
 have sQ:mc c w=(setW c w (ga c.aF x).1,(ga c.aF x).2):=by unfold mc;simp[ok,aa]
 cases au:x.ck with
 | cons r q=>
  rw[sQ,show ga c.aF x=(x,false) by rw[hu,au]];dsimp only;rw[uG aa];exact ahb ⟨is,rfl,dR,dM,eh,x2 au,aj⟩
 | nil=>
 cases aH:x.queue with
 | cons r q=>
  rw[sQ,show ga c.aF x=(x,false) by rw[hu,au,aH]];dsimp only;rw[uG aa];exact ahc ⟨is,rfl,dR,dM,eh,l2 au,x2 aH,aj⟩
 | nil=>
 cases ba:x.bT with
 | nil=>
  rw[sQ,show ga c.aF x=(x,false) by rw[hu,au,aH,ba]];dsimp only;rw[uG aa];exact agD ⟨is,rfl,dR,dM,eh,l2 au,l2 aH,vP ba,aj⟩
 | cons r t=>
  unfold fA at is ⊢;rw[post];rw[ok]at is ⊢;rw[sQ,show ga c.aF x=(⟨[r],[],t,x.cells,x.bK,x.bL,x.bA,x.cu⟩,true) by rw[hu,au,aH,ba]];have e:aP.e ⟨[r],[],t,x.cells,x.bK,x.bL,x.bA,x.cu⟩=[.J 5 ([r.e]),.J 5 (x.ck.map aA.e),.J 5 ([]++((x.bT.map aA.e).drop 1).take ((x.bT.map aA.e).length-1)),.J 4 (x.cells.map Cell.e),.J 1 (x.bK.map cv),.J 1 (x.bL.map c6),.J 1 (x.bA.map c6),.J 2 (x.cu.map dA.e)]:=by
   rw[s7 ba,au];rfl
  dsimp only;rw[BI,e];exact agE ⟨is,rfl,dR,dM,eh,l2 au,l2 aH,qc ba,by omega,nV ba,qo ba,qV,qW ba,qX,rN ba jz,rO ba jz,rP ba,dR,dM,eh,rfl,rfl,rfl,rfl,rfl,rfl,aj⟩
theorem ahS(c:aU)(w:Int)(ad:c.sz<=8388608):bU prog 151 [.ref (fA c) (fA (lF c w).1),.ro (.one (I w))] (.vals [.one (B (lF c w).2)]):=by
 have is:=Lr c w ad;cases ok:cF c with
 | false=>
  rw[ok]at is;rw[show lF c w=(c,false) by unfold lF;simp[ok]];exact UC ⟨is,rfl,aj⟩
 | true=>
 cases aa:b9 c w with
 | none=>
  rw[ok,aa]at is;rw[show lF c w=(c,false) by unfold lF;simp[aa]];exact UC ⟨is,rfl,aj⟩
 | some x=>
 rw[ok,aa]at is;obtain⟨dR,dM,eh⟩:=rM aa;have di:=uL aa ad;have aL:=jZ (fU.1 ok).1;cases ae:x.ck with
 | nil=>
  rw[show lF c w=(c,false) by unfold lF;rw[a6 ok,aa];dsimp only;rw[ae]];exact agG ⟨is,rfl,dR,dM,eh,vP ae,aj⟩
 | cons r t=>
  have sO:=R6 r.key c.aF.ap (by omega);have ar:=(Ks (jH ok aa) ae).2;have he:=uH ar;have lX:x.queue.length<=8388608:=by simp only[aP.sz]at di;omega
  have mI:x.ck.length<=8388608:=by simp only[aP.sz]at di;omega
  obtain⟨f4,_,_,eT⟩:=TW ok aa;rw[aiC ok aa ae];have HY:=D2 r.key aL.1;generalize eE r.key c.aF.ap=o at sO HY;by_cases how:o=w
  ·have vv:(o != w)=false:=by simp[how]
   rw[aiD how];unfold fA at is ⊢;dsimp only;rw[Tj ok aa ae];rw[ok]at is ⊢;have e:(kept (iP x t) r).e=[.J 5 (x.queue.map aA.e++[r.e]),.J 5 ([]++((x.ck.map aA.e).drop 1).take ((x.ck.map aA.e).length-1)),.J 5 (x.bT.map aA.e),.J 4 (x.cells.map Cell.e),.J 1 (x.bK.map cv),.J 1 (x.bL.map c6),.J 1 (x.bA.map c6),.J 2 (x.cu.map dA.e)]:=by
    rw[s7 ae,Ln];rfl
   rw[BI,e];have key:=agJ ⟨is,rfl,dR,dM,eh,qc ae,dR,dM,eh,by omega,nV ae,qo ae,sO,vv,dR,dM,eh,As lX,Au lX,eh,rfl,dk (aA.flat r),rfl,rfl,rfl,rfl,rfl,rfl,rfl,rfl,rfl,rfl,rfl,rfl,rfl,dR,dM,eh,rfl,dR,by rw[eQ];exact dM,sj dR dM,qV,qW ae,qX,rN ae mI,rO ae mI,rP ae,dR,by rw[eQ];exact dM,sj dR dM,aj⟩;simp only[Ci]at key;exact key
  have vv:(o != w)=true:=by simp[how]
  have win:aW w 0 (c.aF.ap-1)=true:=by
   have:=TU aa;rwa[bp,(fU.1 ok).2.1]at this
  obtain⟨l,af⟩:=D3 ok win HY;obtain⟨ri,rj,rk⟩:=Lo af;have a':=Lm c.aF w o aL;have mh:=TQ l r (Lp af ad);have Zn:=fun h=>Ti ok aa ae HY how af h
  rw[ahN how af];cases br:(eI l r).2 with
  | false=>
   rw[br]at mh;exact agH ⟨is,rfl,dR,dM,eh,qc ae,dR,dM,eh,by omega,nV ae,qo ae,sO,vv,a',ri,rj,rk,mh,rfl,aj⟩
  | true=>
   rw[br]at mh;rw[a6 rfl];unfold fA at is ⊢;dsimp only;rw[Zn br];rw[ok]at is ⊢;have xb:=TZ (c0 c (dF c.aF w o) (eI l r).1) w r.bc.a8 1 x (Bw.trans aa) f4 he (by omega) (eT _ he);rw[TV,Lq,TY]at xb;have e:(ma (iP x t) r.bc.a8).e=[.J 5 (x.queue.map aA.e),.J 5 ([]++((x.ck.map aA.e).drop 1).take ((x.ck.map aA.e).length-1)),.J 5 (x.bT.map aA.e),.J 4 (x.cells.map Cell.e),.J 1 ((x.bK.map cv).set r.bc.a8.toNat [I (x.bK.getD r.bc.a8.toNat 0+1)]),.J 1 (x.bL.map c6),.J 1 (x.bA.map c6),.J 2 (x.cu.map dA.e)]:=by
    rw[s7 ae,aiA];rfl
   rw[Lq,e];have key:=agI ⟨is,rfl,dR,dM,eh,qc ae,dR,dM,eh,by omega,nV ae,qo ae,sO,vv,a',ri,rj,rk,mh,rfl,ri,rj,rk,xb,dR,by rw[eQ];exact dM,sj dR dM,qV,qW ae,qX,rN ae mI,rO ae mI,rP ae,dR,by rw[eQ];exact dM,sj dR dM,aj⟩;simp only[Ci]at key;exact key
theorem ahT(c:aU)(a b:Int)(ad:c.sz<=8388608):bU prog 156 [.ref (fA c) (fA (lG c a b).1),.ro (.one (I a)),.ro (.one (I b))] (.vals [.one (B (lG c a b).2)]):=by
 cases ok:cF c with
 | false=>
  rw[show lG c a b=(c,false) by unfold lG;simp[ok]];obtain⟨v,a'⟩:=TT c.aF a b;unfold fA;rw[ok];exact agL ⟨a',rfl,aj⟩
 | true=>
 have aL:=jZ (fU.1 ok).1;have a':=Lm c.aF a b aL;cases bI:(aW a 0 (c.aF.ap-1)&&aW b 0 (c.aF.ap-1)) with
 | false=>
  rw[yP bI]at a';rw[show lG c a b=(c,false) by unfold lG;rw[TX bI];split<;>rfl];unfold fA;rw[ok];exact agM ⟨a',rfl,dU (by decide),aj⟩
 | true=>
 rw[ca]at bI;obtain⟨l,af⟩:=D3 ok bI.1 bI.2;obtain⟨ri,rj,rk⟩:=Lo af;by_cases dW:a=b
 ·rw[show lG c a b=(c,false) by unfold lG;simp[dW]];unfold fA;rw[ok];exact aid ⟨a',rfl,eX (by omega),by simp[dW],aj⟩
 have vv:(a==b)=false:=by simp[dW]
 obtain⟨x,aa⟩:∃x,b9 c b=some x:=by
  have ah:=bI.2;have:=(fU.1 ok).2.1;simp only[aW,ci]at ah;exact py (by omega) (by omega)
 obtain⟨dR,dM,eh⟩:=rM aa;have di:=uL aa ad;have BR:=TR l (Lp af ad);have Zq:=fun h=>Tk ok af aa h
 rw[ahO ok dW af aa];unfold fA;cases br:(dJ l).2.2 with
 | false=>
  rw[br]at BR;rw[aX (by decide)];dsimp only;rw[ok];exact aie ⟨a',rfl,eX (by omega),vv,ri,rj,rk,BR,rfl,aj⟩
 | true=>
  rw[br]at BR;rw[a6 rfl];dsimp only;rw[Zq br,ok];have ar:=(JV (rI ok af) br).2;have he:=uH ar;generalize (dJ l).2.1=r at BR ar he ⊢;obtain⟨f4,WI,_,eT⟩:=TW ok aa;have lX:x.queue.length<=8388608:=by simp only[aP.sz]at di;omega
  obtain⟨fQ,fH⟩:=xq WI he;have jE:b9 (setW (c0 c (dF c.aF a b) (dJ l).1) b ⟨x.queue++[r],x.ck,x.bT,x.cells,x.bK,x.bL.set r.bc.a8.toNat true,x.bA,x.cu⟩) b=some ⟨x.queue++[r],x.ck,x.bT,x.cells,x.bK,x.bL.set r.bc.a8.toNat true,x.bA,x.cu⟩:=by
   obtain⟨q1,k1,_⟩:=er aa;unfold b9 setW c0;rw[a6 q1];exact List.getElem?_set_self k1
  have xb:=TZ _ b r.bc.a8 (-1) _ jE f4 he (by omega) (eT _ he);rw[Lq]at xb;have e2:aP.e ⟨x.queue++[r],x.ck,x.bT,x.cells,x.bK,x.bL.set r.bc.a8.toNat true,x.bA,x.cu⟩=[.J 5 (x.queue.map aA.e++[r.e]),.J 5 (x.ck.map aA.e),.J 5 (x.bT.map aA.e),.J 4 (x.cells.map Cell.e),.J 1 (x.bK.map cv),.J 1 ((x.bL.map c6).set r.bc.a8.toNat [B true]),.J 1 (x.bA.map c6),.J 2 (x.cu.map dA.e)]:=by
   simp only[aP.e,e3,jj];rfl
  rw[e2,<-Ci]at xb;rw[show setW (setW (c0 c (dF c.aF a b) (dJ l).1) b ⟨x.queue++[r],x.ck,x.bT,x.cells,x.bK,x.bL.set r.bc.a8.toNat true,x.bA,x.cu⟩) b (Fl ⟨x.queue++[r],x.ck,x.bT,x.cells,x.bK,x.bL.set r.bc.a8.toNat true,x.bA,x.cu⟩ r.bc.a8 (-1))=setW (c0 c (dF c.aF a b) (dJ l).1) b (hV x r) by unfold setW c0;simp only[Ci];rfl]at xb;exact aif ⟨a',rfl,eX (by omega),vv,ri,rj,rk,BR,rfl,ri,rj,rk,dR,dM,eh,As lX,Au lX,eh,rfl,dk (aA.flat r),rfl,rfl,rfl,rfl,rfl,rfl,rfl,dR,dM,eh,rfl,dR,by rw[eQ];exact dM,sj dR dM,he.1,fQ,fH,sj dR dM,rfl,rfl,xb,aj⟩
theorem ahU(c:aU)(a b:Int)(ad:c.sz<=8388608):bU prog 158 [.ref (fA c) (fA (k2 c a b).1),.ro (.one (I a)),.ro (.one (I b))] (.vals [.one (B (k2 c a b).2)]):=by
 have post:=fun h=>Tn (c:=c) (a:=a) (b:=b) h
 cases ok:cF c with
 | false=>
  rw[show k2 c a b=(c,false) by unfold k2;simp[ok]];obtain⟨v,a'⟩:=TT c.aF a b;unfold fA;rw[ok];exact ag7 ⟨a',rfl,aj⟩
 | true=>
 replace post:=post ok;have aL:=jZ (fU.1 ok).1;have a':=Lm c.aF a b aL;unfold fA;rw[post,ok];cases bI:(aW a 0 (c.aF.ap-1)&&aW b 0 (c.aF.ap-1)) with
 | false=>
  rw[yP bI]at a';rw[show k2 c a b=(c,false) by unfold k2;rw[TX bI];split<;>rfl];exact ag8 ⟨a',rfl,dU (by decide),aj⟩
 | true=>
 rw[ca]at bI;obtain⟨l,af⟩:=D3 ok bI.1 bI.2;obtain⟨ri,rj,rk⟩:=Lo af;by_cases dW:a=b
 ·rw[show k2 c a b=(c,false) by unfold k2;simp[dW]];exact ag9 ⟨a',rfl,eX (by omega),by simp[dW],aj⟩
 rw[ahP ok dW af];dsimp only;rw[TV];exact aha ⟨a',rfl,eX (by omega),by simp[dW],ri,rj,rk,TS l (Lp af ad),ri,rj,rk,aj⟩
theorem T0(c:aU)(p:cE)(ad:c.sz<=8388608):bU prog 128 [.ref (fA c) (fA (de c p).1),.ro (.agg p.e)] (.vals [.one (B (de c p).2)]):=by
 by_cases h1:p.kind=1
 ·rw[show de c p=mb c p.a by unfold de;simp[h1]];exact ail ⟨by rw[eu];exact h1,ahQ c p.a ad,aj⟩
 have ki:(p.kind==1)=false:=by rw[kq,ho,eu];exact h1
 by_cases U:p.kind=2
 ·rw[show de c p=mc c p.a by unfold de;simp[U]];exact aim ⟨ki,by rw[eu];exact U,ahR c p.a ad,aj⟩
 have kZ:(p.kind==2)=false:=by rw[kq,ho,eu];exact U
 by_cases au:p.kind=3
 ·rw[show de c p=lF c p.a by unfold de;simp[au]];exact ain ⟨ki,kZ,by rw[eu];exact au,ahS c p.a ad,aj⟩
 have oz:(p.kind==3)=false:=by rw[kq,ho,eu];exact au
 by_cases aH:p.kind=4
 ·rw[show de c p=lG c p.a p.b by unfold de;simp[aH]];exact aio ⟨ki,kZ,oz,by rw[eu];exact aH,ahT c p.a p.b ad,aj⟩
 have lv:(p.kind==4)=false:=by rw[kq,ho,eu];exact aH
 by_cases ba:p.kind=5
 ·rw[show de c p=k2 c p.a p.b by unfold de;simp[ba]];exact aip ⟨ki,kZ,oz,lv,by rw[eu];exact ba,ahU c p.a p.b ad,aj⟩
 have mO:(p.kind==5)=false:=by rw[kq,ho,eu];exact ba
 by_cases br:p.kind=6
 ·rw[show de c p=kK c p.a by unfold de;simp[br]];exact aiq ⟨ki,kZ,oz,lv,mO,by rw[eu];exact br,agq c p.a ad,aj⟩
 have n6:(p.kind==6)=false:=by rw[kq,ho,eu];exact br
 by_cases b7:p.kind=7
 ·rw[show de c p=lH c p.a by unfold de;simp[b7]];exact air ⟨ki,kZ,oz,lv,mO,n6,by rw[eu];exact b7,agd c p.a ad,aj⟩
 have n7:(p.kind==7)=false:=by rw[kq,ho,eu];exact b7
 rw[show de c p=(c,false) by unfold de;simp[h1,U,au,aH,ba,br,b7]];exact ais ⟨ki,kZ,oz,lv,mO,n6,n7,aj⟩
