import Derived.Test.YtdchjefneblpgaaGreatP61
import Derived.Test.YtdchjefneblpgaaGreatGW
set_option linter.unusedVariables false
set_option linter.unusedSimpArgs false
namespace Go.Proofs.YtdchjefneblpgaaGreat
open Go.Sx Go.RowKit Go.Proofs.Tryz
end Go.Proofs.YtdchjefneblpgaaGreat
namespace Go.Proofs.YtdchjefneblpgaaGreat
open Go.Sx Go.RowKit Go.Proofs.Tryz
section
variable {xs : List aB} {r : aB} {t : List aB}
theorem BP(h:xs=r::t):((xs.map aB.e).drop 1).take ((xs.map aB.e).length-1)=t.map aB.e:=by subst h;exact zR (by simp)
theorem nV(h:xs=r::t):(0:Int)<(↑(xs.map aB.e).length:Int):=by subst h;simp only[bA,dK];omega
theorem qO(h:xs=r::t):(xs.map aB.e)[0]?=some r.e:=by subst h;rfl
theorem qo(h:xs=r::t):((↑(xs.map aB.e).length:Int)==0)=false:=by
 have:=nV h;rw[lj,hc,ed];omega
theorem wo(h:xs=[]):((↑(xs.map aB.e).length:Int)==0)=true:=by subst h;rfl
theorem yI(h:xs=r::t):decide ((↑(xs.map aB.e).length:Int)>0)=true:=bU (nV h)
theorem l7(h:xs=[]):decide ((↑(xs.map aB.e).length:Int)>0)=false:=by subst h;rfl
theorem q5:(0:Int)<=(some (1:Int)).getD 0:=by decide
theorem q6(h:xs=r::t):(some (1:Int)).getD 0<=(none:Option Int).getD (↑(xs.map aB.e).length:Int):=by
 have:=nV h;simp only[ji,Option.getD_none];omega
theorem q7{l:List (List D)}:(none:Option Int).getD (↑l.length:Int)<=(↑l.length:Int):=by simp
theorem r1(h:xs=r::t)(ag:xs.length<=8388608):(([]:List (List D)).length+(((xs.map aB.e).drop 1).take ((xs.map aB.e).length-1)).length)*40<=140737488355328:=by
 rw[BP h];refine nl ?_;subst h;simp only[bA,dK]at *;omega
theorem rA(h:xs=r::t)(ag:xs.length<=8388608):([]:List (List D)).length+(((xs.map aB.e).drop 1).take ((xs.map aB.e).length-1)).length<=9223372036854775807:=by
 rw[BP h];refine mJ ?_;subst h;simp only[bA,dK]at *;omega
theorem rB(h:xs=r::t):Flat (((xs.map aB.e).drop 1).take ((xs.map aB.e).length-1)):=by rw[BP h];exact cM _ aB.flat _
theorem tj(h:xs=r::t):([]:List (List D))++((xs.map aB.e).drop 1).take ((xs.map aB.e).length-1)=t.map aB.e:=BP h
end
theorem A3{xs:List aB}{a:List D}(h:xs.length<=8388608):((xs.map aB.e).length+[a].length)*40<=140737488355328:=by simp;omega
theorem A4{xs:List aB}{a:List D}(h:xs.length<=8388608):(xs.map aB.e).length+[a].length<=9223372036854775807:=by simp;omega
theorem aqS(a:Int)(q:List aB)(r:aB)(b c d e:Int):bD.e ⟨a,q++[r],b,c,d,e⟩=[I a,.J 5 (q.map aB.e++[r.e]),I b,I c,I d,I e]:=by
 simp only[bD.e,gW];rfl
theorem NF{l:bD}(h:jM l=true):(0<=l.eM/\l.eM<=4)/\(0<=l.back/\l.back<=4)/\(0<=l.eu/\l.eu<=1000000000)/\(0<=l.dv/\l.dv<=1000000000)/\l.queue.length<=4:=by
 obtain⟨cG,cg,cE,l2,kb,ot,kq,ou⟩:=oU.1 h;simp only[ar,cr]at cG cg cE kb;omega
theorem WB(l:bD)(r:aB)(ag:l.sz<=8388608):aw 258 [.agg l.e,.agg r.e] [.agg (eY l r).1.e,.one (B (eY l r).2)]:=by
 have hU:=FM l ag;have k:=Er l ag;have hy:=tf r;have az:l.queue.length<=8388608:=ag;cases h1:jM l with
 | false=>
  rw[h1]at k;rw[show eY l r=(l,false) by unfold eY;simp[h1]];exact apk ⟨hU,k,rfl,ad⟩
 | true=>
 rw[h1]at k;cases U:eL r with
 | false=>
  rw[U]at hy;rw[show eY l r=(l,false) by unfold eY;simp[U]];exact apl ⟨hU,k,rfl,hy,rfl,ad⟩
 | true=>
 rw[U]at hy;by_cases ax:l.eM=0
 ·rw[show eY l r=(l,false) by unfold eY;simp[ax]];exact apm ⟨hU,k,rfl,hy,rfl,by rw[ed];exact ax,ad⟩
 have PH:(l.eM==0)=false:=by rw[lj,hc,ed];exact ax
 obtain⟨iD,js,oz,lC,mH⟩:=NF h1;by_cases aK:l.eu<1000000000
 ·rw[show eY l r=(⟨l.cap,l.queue++[r],l.eM-1,l.back,l.eu+1,l.dv⟩,true) by unfold eY;simp[h1,U,ax,aK]];dsimp only;rw[aqS];exact apo ⟨hU,k,rfl,hy,rfl,PH,bY (by omega),A3 az,A4 az,dU (aB.flat r),⟨by omega,by omega⟩,⟨by omega,by omega⟩,ad⟩
 rw[show eY l r=(l,false) by unfold eY;simp[aK]];dsimp only;exact apn ⟨hU,k,rfl,hy,rfl,PH,bU (by omega),ad⟩
theorem WC(l:bD)(ag:l.sz<=8388608):aw 260 [.agg l.e] [.agg (dV l).1.e,.agg (dV l).2.1.e,.one (B (dV l).2.2)]:=by
 have hU:=FM l ag;have k:=Er l ag;have az:l.queue.length<=8388608:=ag;cases h1:jM l with
 | false=>
  rw[h1]at k;rw[show dV l=(l,F8,false) by unfold dV;simp[h1]];exact apq ⟨hU,k,rfl,ad⟩
 | true=>
 rw[h1]at k;cases U:l.queue with
 | nil=>
  rw[show dV l=(l,F8,false) by unfold dV;rw[bi h1];simp only[U]];exact apr ⟨hU,k,rfl,wo U,ad⟩
 | cons r q=>
  obtain⟨iD,js,oz,lC,mH⟩:=NF h1;rw[show dV l=(⟨l.cap,q,l.eM,l.back+1,l.eu,l.dv+1⟩,r,true) by unfold dV;rw[bi h1];simp only[U]];have e:bD.e ⟨l.cap,q,l.eM,l.back+1,l.eu,l.dv+1⟩=[I l.cap,.J 5 (((l.queue.map aB.e).drop 1).take ((l.queue.map aB.e).length-1)),I l.eM,I (l.back+1),I l.eu,I (l.dv+1)]:=by rw[BP U];rfl
  dsimp only;rw[e];exact aps ⟨hU,k,rfl,qo U,by omega,nV U,qO U,q5,q6 U,q7,r1 U az,rA U az,rB U,⟨by omega,by omega⟩,⟨by omega,by omega⟩,ad⟩
theorem WD(l:bD)(ag:l.sz<=8388608):aw 261 [.agg l.e] [.agg (gw l).1.e,.one (B (gw l).2)]:=by
 have hU:=FM l ag;have k:=Er l ag;cases h1:jM l with
 | false=>
  rw[h1]at k;rw[show gw l=(l,false) by unfold gw;simp[h1]];exact ao9 ⟨hU,k,rfl,ad⟩
 | true=>
 rw[h1]at k;by_cases ax:l.back=0
 ·rw[show gw l=(l,false) by unfold gw;simp[ax]];exact apa ⟨hU,k,rfl,by rw[ed];exact ax,ad⟩
 obtain⟨iD,js,oz,lC,mH⟩:=NF h1;rw[show gw l=(⟨l.cap,l.queue,l.eM+1,l.back-1,l.eu,l.dv⟩,true) by unfold gw;simp[h1,ax]];exact apb ⟨hU,k,rfl,by rw[lj,hc,ed];exact ax,⟨by omega,by omega⟩,⟨by omega,by omega⟩,ad⟩
theorem aqT{n a b:Int}(aR:1<=n/\n<=4)(ae:ar a 0 (n-1)=true)(aj:ar b 0 (n-1)=true):aG .i64 (a*n)/\aG .i64 (a*n+b):=by
 simp only[ar,cr]at ae aj;have wb:n=1\/n=2\/n=3\/n=4:=by omega
 rcases wb with rfl | rfl | rfl | rfl<;>exact⟨⟨by omega,by omega⟩,⟨by omega,by omega⟩⟩
theorem zw{n:Int}(h:aG .i64 n):IntKind.i64.wrap n=n:=by
 obtain⟨h1,U⟩:=h;simp only[IntKind.wrap_i64];omega
theorem WE(g:bS)(a b:Int):∃v,aw 61 [.agg g.e,.one (I a),.one (I b)] [.one (I v)]:=by
 cases ae:ar a 0 (IntKind.i64.wrap (g.ap-1)) with
 | false=>exact⟨_,NB ⟨fD _ ae,rfl,ad⟩⟩
 | true=>
 cases aj:ar b 0 (IntKind.i64.wrap (g.ap-1)) with
 | false=>exact⟨_,NC ⟨fD _ ae,rfl,fD _ aj,rfl,ad⟩⟩
 | true=>
 by_cases aR:g.ap<1
 ·exact⟨_,apg ⟨fD _ ae,rfl,fD _ aj,rfl,bU aR,ad⟩⟩
 exact⟨_,ND ⟨fD _ ae,rfl,fD _ aj,rfl,bY aR,ad⟩⟩
theorem NG(g:bS)(a b:Int)(aR:1<=g.ap/\g.ap<=4):aw 61 [.agg g.e,.one (I a),.one (I b)] [.one (I (dR g a b))]:=by
 have i1:IntKind.i64.wrap (g.ap-1)=g.ap-1:=zw ⟨by omega,by omega⟩;have ql:∀(x:Int) (r:Bool),ar x 0 (g.ap-1)=r->aw 168 [.one (I x),.one (I 0),.one (I (IntKind.i64.wrap (g.ap-1)))] [.one (B r)]:=fun x r h=>by
  rw[i1];exact fD _ h
 cases ae:ar a 0 (g.ap-1) with
 | false=>
  rw[zi (by rw[ae];rfl)];exact NB ⟨ql _ _ ae,rfl,ad⟩
 | true=>
 cases aj:ar b 0 (g.ap-1) with
 | false=>
  rw[zi (by rw[ae,aj];rfl)];exact NC ⟨ql _ _ ae,rfl,ql _ _ aj,rfl,ad⟩
 | true=>
  obtain⟨lA,lB⟩:=aqT aR ae aj;have key:aw 61 [.agg g.e,.one (I a),.one (I b)] [.one (I (IntKind.i64.wrap (IntKind.i64.wrap (a*g.ap)+b)))]:=ND ⟨ql a true ae,rfl,ql b true aj,rfl,bY (by omega),ad⟩;rw[zw lA,zw lB]at key;rw[(xo aR ae aj).1];exact key
theorem NH(w:aQ)(r:aB):(kept w r).e=[.J 5 (w.queue.map aB.e++[r.e]),.J 5 (w.b3.map aB.e),.J 5 (w.bK.map aB.e),.J 4 (w.cells.map Cell.e),.J 1 (w.bG.map bb),.J 1 (w.bN.map cy),.J 1 (w.bB.map cy),.J 2 (w.b'.map cx.e)]:=by
 simp only[kept,aQ.e,gW];rfl
theorem aqU(w:aQ)(r:aB):(hN w r).e=[.J 5 (w.queue.map aB.e++[r.e]),.J 5 (w.b3.map aB.e),.J 5 (w.bK.map aB.e),.J 4 (w.cells.map Cell.e),.J 1 ((w.bG.map bb).set r.bq.bh.toNat [I (w.bG.getD r.bq.bh.toNat 0-1)]),.J 1 ((w.bN.map cy).set r.bq.bh.toNat [B true]),.J 1 (w.bB.map cy),.J 2 (w.b'.map cx.e)]:=by
 simp only[hN,k6,aQ.e,gW,jV];rfl
theorem aqV(w:aQ)(e:Int):(ma w e).e=[.J 5 (w.queue.map aB.e),.J 5 (w.b3.map aB.e),.J 5 (w.bK.map aB.e),.J 4 (w.cells.map Cell.e),.J 1 ((w.bG.map bb).set e.toNat [I (w.bG.getD e.toNat 0+1)]),.J 1 (w.bN.map cy),.J 1 (w.bB.map cy),.J 2 (w.b'.map cx.e)]:=by
 simp only[ma,k6,aQ.e,jV];rfl
end Go.Proofs.YtdchjefneblpgaaGreat
namespace Go.Proofs.YtdchjefneblpgaaGreat
open Go.Sx Go.RowKit Go.Proofs.Tryz
variable{c:a8}{w:Int}
theorem aqW(h:cp c w=none):ar w 0 ((↑(c.ap.map aQ.e).length:Int)-1)=false:=by
 unfold cp at h;simp only[ar,bA,kA];split at h
 ·rw[List.getElem?_eq_none_iff]at h;omega
 omega
variable{x:aQ}
theorem WG(h:cp c w=some x):ar w 0 ((↑(c.ap.map aQ.e).length:Int)-1)=true:=by
 obtain⟨h1,U,_⟩:=eJ h;simp only[ar,bA,cr];omega
theorem NI{i:Int}{x:bD}(h:eB c i=some x):0<=i/\i<(↑(c.bR.map bD.e).length:Int)/\(c.bR.map bD.e)[i.toNat]?=some x.e:=by
 obtain⟨h1,U,ax⟩:=ij h;exact⟨h1,by rw[bA];omega,bW bD.e ax⟩
theorem NJ{i:Int}{x:bD}(h:eB c i=some x)(ak:c.sz<=8388608):x.sz<=8388608:=a8.QO ak (cS (ij h).2.2)
theorem XX(ak:c.sz<=8388608):aG .i64 ((↑(c.ap.map aQ.e).length:Int)-1):=by
 have:=a8.zF ak;exact⟨by rw[bA];omega,by rw[bA];omega⟩
theorem BQ(c:a8)(w:Int)(y:aQ)(b:Bool):mj (setW c w y) b=[.J 4 (c.aC.nodes.map Node.e),I c.aC.ap,I c.aC.cap,.J 8 ((c.ap.map aQ.e).set w.toNat y.e),.J 6 (c.bR.map bD.e),.J 5 (c.tokens.map bT.e),.J 3 (c.news.map cb.e),B b]:=by simp only[setW,mj,jV]
theorem WH(c:a8)(i:Int)(y:bD)(b:Bool):mj (dd c i y) b=[.J 4 (c.aC.nodes.map Node.e),I c.aC.ap,I c.aC.cap,.J 8 (c.ap.map aQ.e),.J 6 ((c.bR.map bD.e).set i.toNat y.e),.J 5 (c.tokens.map bT.e),.J 3 (c.news.map cb.e),B b]:=by simp only[dd,mj,jV]
theorem M6(c:a8)(w i:Int)(y:aQ)(z:bD)(b:Bool):mj (setW (dd c i z) w y) b=[.J 4 (c.aC.nodes.map Node.e),I c.aC.ap,I c.aC.cap,.J 8 ((c.ap.map aQ.e).set w.toNat y.e),.J 6 ((c.bR.map bD.e).set i.toNat z.e),.J 5 (c.tokens.map bT.e),.J 3 (c.news.map cb.e),B b]:=by simp only[setW,dd,mj,jV]
theorem WI(ok:cK c=true)(aa:cp c w=some x):x.bG.length=4/\x.bN.length=4/\x.bB.length=4/\(∀e:Int,0<=e/\e<=3->-1000000<=x.bG.getD e.toNat 0/\x.bG.getD e.toNat 0<=1000000):=by
 obtain⟨_,_,_,_,kb,ot,kq,_,sW,_⟩:=hZ.1 (jO ok aa);refine⟨kb,ot,kq,fun e he=>?_⟩;have ag:e.toNat<x.bG.length:=by omega
 rw[fh]at sW;have:=sW _ (zP ag);rw[iv,h4 ag,ji];simpa only[nU,fP,jx,ar,cr,vx,Bool.not_not,Bool.not_eq_eq_eq_not,jj,kA,Classical.not_not]using this
variable{r:aB}{t:List aB}
theorem aqX(ok:cK c=true)(aa:cp c w=some x)(ai:x.b3=r::t):lG c w=qz c w x r t (eh r.key c.aC.ap):=by
 unfold lG;rw[bi ok,aa];dsimp only;rw[ai]
theorem ap8{o:Int}(h:o=w):qz c w x r t o=(setW c w (kept (iM x t) r),true):=bi h
variable{l:bD}
theorem ap9{o:Int}(h:o≠w)(ag:eB c (dR c.aC w o)=some l):qz c w x r t o=if (eY l r).2 then (setW (dd c (dR c.aC w o) (eY l r).1) w (ma (iM x t) r.bq.bh),true) else (c,false):=by
 unfold qz;rw[ba h,ag]
variable{a b:Int}
theorem WJ(h:(ar a 0 (c.aC.ap-1)&&ar b 0 (c.aC.ap-1))=false):eB c (dR c.aC a b)=none:=by
 rw[zi h];rfl
theorem aqa(ok:cK c=true)(ek:a≠b)(ag:eB c (dR c.aC a b)=some l)(aa:cp c b=some x):lH c a b=if (dV l).2.2 then (setW (dd c (dR c.aC a b) (dV l).1) b (hN x (dV l).2.1),true) else (c,false):=by
 unfold lH;rw[bi (by simp[ok,ek]),ag,aa]
theorem aqb(ok:cK c=true)(ek:a≠b)(ag:eB c (dR c.aC a b)=some l):lf c a b=(dd c (dR c.aC a b) (gw l).1,(gw l).2):=by
 unfold lf;rw[bi (by simp[ok,ek]),ag]
theorem M7(c:a8)(w:Int)(ak:c.sz<=8388608):bZ prog 257 [.ref (fz c) (fz c),.ro (.one (I w))] (.vals [.one (B (cK c&&(cp c w).isSome))]):=by
 unfold fz;cases ok:cK c with
 | false=>exact ao0 ⟨rfl,ad⟩
 | true=>
  cases aa:cp c w with
  | none=>exact Xo ⟨rfl,XX ak,fD _ (aqW aa),ad⟩
  | some x=>exact Xo ⟨rfl,XX ak,fD _ (WG aa),ad⟩
def Gf(x:aQ)(e d:Int):aQ:=⟨x.queue,x.b3,x.bK,x.cells,k6 x.bG e d,x.bN,x.bB,x.b'⟩
theorem WK(w:aQ)(e d:Int):(Gf w e d).e=[.J 5 (w.queue.map aB.e),.J 5 (w.b3.map aB.e),.J 5 (w.bK.map aB.e),.J 4 (w.cells.map Cell.e),.J 1 ((w.bG.map bb).set e.toNat [I (w.bG.getD e.toNat 0+d)]),.J 1 (w.bN.map cy),.J 1 (w.bB.map cy),.J 2 (w.b'.map cx.e)]:=by
 simp only[Gf,k6,aQ.e,jV];rfl
theorem WL(c:a8)(w e d:Int)(x:aQ)(aa:cp c w=some x)(aK:x.bG.length=4)(he:0<=e/\e<=3)(aE:-1<=d/\d<=1)(ai:-1000000<=x.bG.getD e.toNat 0/\x.bG.getD e.toNat 0<=1000000):
  bZ prog 259 [.ref (mj c true) (mj (setW c w (Gf x e d)) (ar (x.bG.getD e.toNat 0+d) (-1000000) 1000000)),.ro (.one (I w)),.ro (.one (I e)),.ro (.one (I d))] (.vals []):=by
 obtain⟨ec,ea,eD⟩:=r0 aa;obtain⟨s1,s2⟩:=Jk aK he;rw[BQ,WK];exact ao5 ⟨ec,ea,eD,ec,ea,eD,he.1,s1,s2,⟨by omega,by omega⟩,he.1,s1,s2,eD,rfl,rfl,rfl,rfl,rfl,ec,by rw[e8];exact ea,sv ec ea,he.1,by rw[e8];exact s1,sv he.1 s1,iJ _ _ _,ad⟩
theorem aqc(c:a8)(w:Int)(ak:c.sz<=8388608):bZ prog 170 [.ref (fz c) (fz (mb c w).1),.ro (.one (I w))] (.vals [.one (B (mb c w).2)]):=by
 have post:=fun h=>T0 (c:=c) (w:=w) h
 have is:=M7 c w ak;cases ok:cK c with
 | false=>
  rw[ok]at is;rw[show mb c w=(c,false) by unfold mb;simp[ok]];exact Xq ⟨is,rfl,ad⟩
 | true=>
 replace post:=post ok;cases aa:cp c w with
 | none=>
  rw[ok,aa]at is;rw[show mb c w=(c,false) by unfold mb;simp[aa]];exact Xq ⟨is,rfl,ad⟩
 | some x=>
 rw[ok,aa]at is;obtain⟨ec,ea,eD⟩:=r0 aa;have eT:=uP aa ak;have HG:=(fO.1 ok).1;have Gj:=jO ok aa;have hu:fX c.aC x=match x.b3,x.queue with
  | [],r::q=>(⟨q,(d' c.aC x.cells r).2.1,x.bK,(d' c.aC x.cells r).1,x.bG,x.bN,(if cw c.aC r then x.bB.set r.bq.bh.toNat true else x.bB),x.b'⟩,true)
  | _,_=>(x,false):=by unfold fX;rw[HG,Gj];rfl
 have s3:mb c w=(setW c w (fX c.aC x).1,(fX c.aC x).2):=by unfold mb;simp[ok,aa]
 cases ax:x.b3 with
 | cons r q=>
  rw[s3,show fX c.aC x=(x,false) by rw[hu,ax]];dsimp only;rw[u2 aa];exact aqC ⟨is,rfl,ec,ea,eD,yI ax,ad⟩
 | nil=>
 cases aK:x.queue with
 | nil=>
  rw[s3,show fX c.aC x=(x,false) by rw[hu,ax,aK]];dsimp only;rw[u2 aa];exact aqD ⟨is,rfl,ec,ea,eD,l7 ax,wo aK,ad⟩
 | cons r q=>
  have p':x.cells.length<=8388608:=by simp only[aQ.sz]at eT;omega
  have lZ:x.queue.length<=8388608:=by simp only[aQ.sz]at eT;omega
  have av:=a8.p0 ak;have st:=Up c.aC x.cells r av p';have sn:=Uq c.aC r av;obtain⟨cG,_,_,_,_,_,kq,_⟩:=hZ.1 Gj;rw[aK,qA]at cG;have he:=u3 cG.1;obtain⟨c1,c2⟩:=x3 kq he;unfold fz at is ⊢;rw[post];rw[ok]at is ⊢;cases a7:cw c.aC r with
  | true=>
   rw[a7]at sn;rw[s3,show fX c.aC x=(⟨q,(d' c.aC x.cells r).2.1,x.bK,(d' c.aC x.cells r).1,x.bG,x.bN,x.bB.set r.bq.bh.toNat true,x.b'⟩,true) by rw[hu,ax,aK];simp only[a7,fQ]];have e:aQ.e ⟨q,(d' c.aC x.cells r).2.1,x.bK,(d' c.aC x.cells r).1,x.bG,x.bN,x.bB.set r.bq.bh.toNat true,x.b'⟩=[.J 5 ([]++((x.queue.map aB.e).drop 1).take ((x.queue.map aB.e).length-1)),.J 5 ((d' c.aC x.cells r).2.1.map aB.e),.J 5 (x.bK.map aB.e),.J 4 ((d' c.aC x.cells r).1.map Cell.e),.J 1 (x.bG.map bb),.J 1 (x.bN.map cy),.J 1 ((x.bB.map cy).set r.bq.bh.toNat [B true]),.J 2 (x.b'.map cx.e)]:=by
    rw[tj aK];simp only[aQ.e,jV];rfl
   dsimp only;rw[BQ,e];have key:=aqE ⟨is,rfl,ec,ea,eD,l7 ax,qo aK,by omega,nV aK,qO aK,st,q5,q6 aK,q7,r1 aK lZ,rA aK lZ,rB aK,sn,rfl,he.1,c1,c2,eD,rfl,rfl,rfl,rfl,ec,by rw[e8];exact ea,sv ec ea,rfl,rfl,rfl,rfl,rfl,ad⟩;simp only[C1]at key;exact key
  | false=>
   rw[a7]at sn;rw[s3,show fX c.aC x=(⟨q,(d' c.aC x.cells r).2.1,x.bK,(d' c.aC x.cells r).1,x.bG,x.bN,x.bB,x.b'⟩,true) by rw[hu,ax,aK];simp only[a7];rfl];have e:aQ.e ⟨q,(d' c.aC x.cells r).2.1,x.bK,(d' c.aC x.cells r).1,x.bG,x.bN,x.bB,x.b'⟩=[.J 5 ([]++((x.queue.map aB.e).drop 1).take ((x.queue.map aB.e).length-1)),.J 5 ((d' c.aC x.cells r).2.1.map aB.e),.J 5 (x.bK.map aB.e),.J 4 ((d' c.aC x.cells r).1.map Cell.e),.J 1 (x.bG.map bb),.J 1 (x.bN.map cy),.J 1 (x.bB.map cy),.J 2 (x.b'.map cx.e)]:=by
    rw[tj aK];rfl
   dsimp only;rw[BQ,e];exact aqF ⟨is,rfl,ec,ea,eD,l7 ax,qo aK,by omega,nV aK,qO aK,st,q5,q6 aK,q7,r1 aK lZ,rA aK lZ,rB aK,sn,rfl,ec,ea,eD,rfl,rfl,rfl,rfl,rfl,ad⟩
theorem aqd(c:a8)(w:Int)(ak:c.sz<=8388608):bZ prog 171 [.ref (fz c) (fz (mc c w).1),.ro (.one (I w))] (.vals [.one (B (mc c w).2)]):=by
 have post:=fun h=>T1 (c:=c) (w:=w) h
 have is:=M7 c w ak;cases ok:cK c with
 | false=>
  rw[ok]at is;rw[show mc c w=(c,false) by unfold mc;simp[ok]];exact Xn ⟨is,rfl,ad⟩
 | true=>
 replace post:=post ok;cases aa:cp c w with
 | none=>
  rw[ok,aa]at is;rw[show mc c w=(c,false) by unfold mc;simp[aa]];exact Xn ⟨is,rfl,ad⟩
 | some x=>
 rw[ok,aa]at is;obtain⟨ec,ea,eD⟩:=r0 aa;have eT:=uP aa ak;have HG:=(fO.1 ok).1;have Gj:=jO ok aa;have jC:x.bK.length<=8388608:=by simp only[aQ.sz]at eT;omega
 have hu:fY c.aC x=match x.b3,x.queue,x.bK with
  | [],[],r::t=>(⟨[r],[],t,x.cells,x.bG,x.bN,x.bB,x.b'⟩,true)
  | _,_,_=>(x,false):=by unfold fY;rw[HG,Gj];rfl
 have s3:mc c w=(setW c w (fY c.aC x).1,(fY c.aC x).2):=by unfold mc;simp[ok,aa]
 cases ax:x.b3 with
 | cons r q=>
  rw[s3,show fY c.aC x=(x,false) by rw[hu,ax]];dsimp only;rw[u2 aa];exact apx ⟨is,rfl,ec,ea,eD,yI ax,ad⟩
 | nil=>
 cases aK:x.queue with
 | cons r q=>
  rw[s3,show fY c.aC x=(x,false) by rw[hu,ax,aK]];dsimp only;rw[u2 aa];exact aoX ⟨is,rfl,ec,ea,eD,l7 ax,yI aK,ad⟩
 | nil=>
 cases a7:x.bK with
 | nil=>
  rw[s3,show fY c.aC x=(x,false) by rw[hu,ax,aK,a7]];dsimp only;rw[u2 aa];exact aoY ⟨is,rfl,ec,ea,eD,l7 ax,l7 aK,wo a7,ad⟩
 | cons r t=>
  unfold fz at is ⊢;rw[post];rw[ok]at is ⊢;rw[s3,show fY c.aC x=(⟨[r],[],t,x.cells,x.bG,x.bN,x.bB,x.b'⟩,true) by rw[hu,ax,aK,a7]];have e:aQ.e ⟨[r],[],t,x.cells,x.bG,x.bN,x.bB,x.b'⟩=[.J 5 ([r.e]),.J 5 (x.b3.map aB.e),.J 5 ([]++((x.bK.map aB.e).drop 1).take ((x.bK.map aB.e).length-1)),.J 4 (x.cells.map Cell.e),.J 1 (x.bG.map bb),.J 1 (x.bN.map cy),.J 1 (x.bB.map cy),.J 2 (x.b'.map cx.e)]:=by
   rw[tj a7,ax];rfl
  dsimp only;rw[BQ,e];exact aoZ ⟨is,rfl,ec,ea,eD,l7 ax,l7 aK,qo a7,by omega,nV a7,qO a7,q5,q6 a7,q7,r1 a7 jC,rA a7 jC,rB a7,ec,ea,eD,rfl,rfl,rfl,rfl,rfl,rfl,ad⟩
theorem aqe(c:a8)(w:Int)(ak:c.sz<=8388608):bZ prog 151 [.ref (fz c) (fz (lG c w).1),.ro (.one (I w))] (.vals [.one (B (lG c w).2)]):=by
 have is:=M7 c w ak;cases ok:cK c with
 | false=>
  rw[ok]at is;rw[show lG c w=(c,false) by unfold lG;simp[ok]];exact Xp ⟨is,rfl,ad⟩
 | true=>
 cases aa:cp c w with
 | none=>
  rw[ok,aa]at is;rw[show lG c w=(c,false) by unfold lG;simp[aa]];exact Xp ⟨is,rfl,ad⟩
 | some x=>
 rw[ok,aa]at is;obtain⟨ec,ea,eD⟩:=r0 aa;have eT:=uP aa ak;have aR:=je (fO.1 ok).1;cases ai:x.b3 with
 | nil=>
  rw[show lG c w=(c,false) by unfold lG;rw[bi ok,aa];dsimp only;rw[ai]];exact ao1 ⟨is,rfl,ec,ea,eD,wo ai,ad⟩
 | cons r t=>
  have pv:=T2 r.key c.aC.ap (by omega);have aA:=(Lw (jO ok aa) ai).2;have he:=u3 aA;have lZ:x.queue.length<=8388608:=by simp only[aQ.sz]at eT;omega
  have mB:x.b3.length<=8388608:=by simp only[aQ.sz]at eT;omega
  obtain⟨f4,_,_,e3⟩:=WI ok aa;rw[aqX ok aa ai];have JC:=zj r.key aR.1;generalize eh r.key c.aC.ap=o at pv JC;by_cases how:o=w
  ·have vT:(o != w)=false:=by simp[how]
   rw[ap8 how];unfold fz at is ⊢;dsimp only;rw[TY ok aa ai];rw[ok]at is ⊢;have e:(kept (iM x t) r).e=[.J 5 (x.queue.map aB.e++[r.e]),.J 5 ([]++((x.b3.map aB.e).drop 1).take ((x.b3.map aB.e).length-1)),.J 5 (x.bK.map aB.e),.J 4 (x.cells.map Cell.e),.J 1 (x.bG.map bb),.J 1 (x.bN.map cy),.J 1 (x.bB.map cy),.J 2 (x.b'.map cx.e)]:=by
    rw[tj ai,NH];rfl
   rw[BQ,e];have key:=ao4 ⟨is,rfl,ec,ea,eD,qo ai,ec,ea,eD,by omega,nV ai,qO ai,pv,vT,ec,ea,eD,A3 lZ,A4 lZ,eD,rfl,dU (aB.flat r),rfl,rfl,rfl,rfl,rfl,rfl,rfl,rfl,rfl,rfl,rfl,rfl,rfl,ec,ea,eD,rfl,ec,by rw[e8];exact ea,sv ec ea,q5,q6 ai,q7,r1 ai mB,rA ai mB,rB ai,ec,by rw[e8];exact ea,sv ec ea,ad⟩;simp only[C1]at key;exact key
  have vT:(o != w)=true:=by simp[how]
  have win:ar w 0 (c.aC.ap-1)=true:=by
   have:=WG aa;rwa[bA,(fO.1 ok).2.1]at this
  obtain⟨l,ag⟩:=FG ok win JC;obtain⟨ru,rv,ry⟩:=NI ag;have aW:=NG c.aC w o aR;have ml:=WB l r (NJ ag ak);have acG:=fun h=>TX ok aa ai JC how ag h
  rw[ap9 how ag];cases bp:(eY l r).2 with
  | false=>
   rw[bp]at ml;exact ao2 ⟨is,rfl,ec,ea,eD,qo ai,ec,ea,eD,by omega,nV ai,qO ai,pv,vT,aW,ru,rv,ry,ml,rfl,ad⟩
  | true=>
   rw[bp]at ml;rw[bi rfl];unfold fz at is ⊢;dsimp only;rw[acG bp];rw[ok]at is ⊢;have xJ:=WL (dd c (dR c.aC w o) (eY l r).1) w r.bq.bh 1 x (B8.trans aa) f4 he (by omega) (e3 _ he);rw[WH,M6,WK]at xJ;have e:(ma (iM x t) r.bq.bh).e=[.J 5 (x.queue.map aB.e),.J 5 ([]++((x.b3.map aB.e).drop 1).take ((x.b3.map aB.e).length-1)),.J 5 (x.bK.map aB.e),.J 4 (x.cells.map Cell.e),.J 1 ((x.bG.map bb).set r.bq.bh.toNat [I (x.bG.getD r.bq.bh.toNat 0+1)]),.J 1 (x.bN.map cy),.J 1 (x.bB.map cy),.J 2 (x.b'.map cx.e)]:=by
    rw[tj ai,aqV];rfl
   rw[M6,e];have key:=ao3 ⟨is,rfl,ec,ea,eD,qo ai,ec,ea,eD,by omega,nV ai,qO ai,pv,vT,aW,ru,rv,ry,ml,rfl,ru,rv,ry,xJ,ec,by rw[e8];exact ea,sv ec ea,q5,q6 ai,q7,r1 ai mB,rA ai mB,rB ai,ec,by rw[e8];exact ea,sv ec ea,ad⟩;simp only[C1]at key;exact key
theorem aqf(c:a8)(a b:Int)(ak:c.sz<=8388608):bZ prog 156 [.ref (fz c) (fz (lH c a b).1),.ro (.one (I a)),.ro (.one (I b))] (.vals [.one (B (lH c a b).2)]):=by
 cases ok:cK c with
 | false=>
  rw[show lH c a b=(c,false) by unfold lH;simp[ok]];obtain⟨v,aW⟩:=WE c.aC a b;unfold fz;rw[ok];exact ao6 ⟨aW,rfl,ad⟩
 | true=>
 have aR:=je (fO.1 ok).1;have aW:=NG c.aC a b aR;cases bQ:(ar a 0 (c.aC.ap-1)&&ar b 0 (c.aC.ap-1)) with
 | false=>
  rw[zi bQ]at aW;rw[show lH c a b=(c,false) by unfold lH;rw[WJ bQ];split<;>rfl];unfold fz;rw[ok];exact aqy ⟨aW,rfl,bU (by decide),ad⟩
 | true=>
 rw[cm]at bQ;obtain⟨l,ag⟩:=FG ok bQ.1 bQ.2;obtain⟨ru,rv,ry⟩:=NI ag;by_cases ek:a=b
 ·rw[show lH c a b=(c,false) by unfold lH;simp[ek]];unfold fz;rw[ok];exact aqz ⟨aW,rfl,bY (by omega),by simp[ek],ad⟩
 have vT:(a==b)=false:=by simp[ek]
 obtain⟨x,aa⟩:∃x,cp c b=some x:=by
  have aj:=bQ.2;have:=(fO.1 ok).2.1;simp only[ar,cr]at aj;exact pF (by omega) (by omega)
 obtain⟨ec,ea,eD⟩:=r0 aa;have eT:=uP aa ak;have Cu:=WC l (NJ ag ak);have acJ:=fun h=>TZ ok ag aa h
 rw[aqa ok ek ag aa];unfold fz;cases bp:(dV l).2.2 with
 | false=>
  rw[bp]at Cu;rw[ba (by decide)];dsimp only;rw[ok];exact aqA ⟨aW,rfl,bY (by omega),vT,ru,rv,ry,Cu,rfl,ad⟩
 | true=>
  rw[bp]at Cu;rw[bi rfl];dsimp only;rw[acJ bp,ok];have aA:=(Ly (rV ok ag) bp).2;have he:=u3 aA;generalize (dV l).2.1=r at Cu aA he ⊢;obtain⟨f4,aab,_,e3⟩:=WI ok aa;have lZ:x.queue.length<=8388608:=by simp only[aQ.sz]at eT;omega
  obtain⟨eP,eX⟩:=x3 aab he;have ka:cp (setW (dd c (dR c.aC a b) (dV l).1) b ⟨x.queue++[r],x.b3,x.bK,x.cells,x.bG,x.bN.set r.bq.bh.toNat true,x.bB,x.b'⟩) b=some ⟨x.queue++[r],x.b3,x.bK,x.cells,x.bG,x.bN.set r.bq.bh.toNat true,x.bB,x.b'⟩:=by
   obtain⟨q1,k9,_⟩:=eJ aa;unfold cp setW dd;rw[bi q1];exact List.getElem?_set_self k9
  have xJ:=WL _ b r.bq.bh (-1) _ ka f4 he (by omega) (e3 _ he);rw[M6]at xJ;have e2:aQ.e ⟨x.queue++[r],x.b3,x.bK,x.cells,x.bG,x.bN.set r.bq.bh.toNat true,x.bB,x.b'⟩=[.J 5 (x.queue.map aB.e++[r.e]),.J 5 (x.b3.map aB.e),.J 5 (x.bK.map aB.e),.J 4 (x.cells.map Cell.e),.J 1 (x.bG.map bb),.J 1 ((x.bN.map cy).set r.bq.bh.toNat [B true]),.J 1 (x.bB.map cy),.J 2 (x.b'.map cx.e)]:=by
   simp only[aQ.e,gW,jV];rfl
  rw[e2,<-C1]at xJ;rw[show setW (setW (dd c (dR c.aC a b) (dV l).1) b ⟨x.queue++[r],x.b3,x.bK,x.cells,x.bG,x.bN.set r.bq.bh.toNat true,x.bB,x.b'⟩) b (Gf ⟨x.queue++[r],x.b3,x.bK,x.cells,x.bG,x.bN.set r.bq.bh.toNat true,x.bB,x.b'⟩ r.bq.bh (-1))=setW (dd c (dR c.aC a b) (dV l).1) b (hN x r) by unfold setW dd;simp only[C1];rfl]at xJ;exact aqB ⟨aW,rfl,bY (by omega),vT,ru,rv,ry,Cu,rfl,ru,rv,ry,ec,ea,eD,A3 lZ,A4 lZ,eD,rfl,dU (aB.flat r),rfl,rfl,rfl,rfl,rfl,rfl,rfl,ec,ea,eD,rfl,ec,by rw[e8];exact ea,sv ec ea,he.1,eP,eX,sv ec ea,rfl,rfl,xJ,ad⟩
theorem aqg(c:a8)(a b:Int)(ak:c.sz<=8388608):bZ prog 158 [.ref (fz c) (fz (lf c a b).1),.ro (.one (I a)),.ro (.one (I b))] (.vals [.one (B (lf c a b).2)]):=by
 have post:=fun h=>Ts (c:=c) (a:=a) (b:=b) h
 cases ok:cK c with
 | false=>
  rw[show lf c a b=(c,false) by unfold lf;simp[ok]];obtain⟨v,aW⟩:=WE c.aC a b;unfold fz;rw[ok];exact apt ⟨aW,rfl,ad⟩
 | true=>
 replace post:=post ok;have aR:=je (fO.1 ok).1;have aW:=NG c.aC a b aR;unfold fz;rw[post,ok];cases bQ:(ar a 0 (c.aC.ap-1)&&ar b 0 (c.aC.ap-1)) with
 | false=>
  rw[zi bQ]at aW;rw[show lf c a b=(c,false) by unfold lf;rw[WJ bQ];split<;>rfl];exact apu ⟨aW,rfl,bU (by decide),ad⟩
 | true=>
 rw[cm]at bQ;obtain⟨l,ag⟩:=FG ok bQ.1 bQ.2;obtain⟨ru,rv,ry⟩:=NI ag;by_cases ek:a=b
 ·rw[show lf c a b=(c,false) by unfold lf;simp[ek]];exact apv ⟨aW,rfl,bY (by omega),by simp[ek],ad⟩
 rw[aqb ok ek ag];dsimp only;rw[WH];exact apw ⟨aW,rfl,bY (by omega),by simp[ek],ru,rv,ry,WD l (NJ ag ak),ru,rv,ry,ad⟩
theorem WM(c:a8)(p:cP)(ak:c.sz<=8388608):bZ prog 128 [.ref (fz c) (fz (dA c p).1),.ro (.agg p.e)] (.vals [.one (B (dA c p).2)]):=by
 by_cases h1:p.kind=1
 ·rw[show dA c p=mb c p.a by unfold dA;simp[h1]];exact aqG ⟨by rw[ed];exact h1,aqc c p.a ak,ad⟩
 have iD:(p.kind==1)=false:=by rw[lj,hc,ed];exact h1
 by_cases U:p.kind=2
 ·rw[show dA c p=mc c p.a by unfold dA;simp[U]];exact aqH ⟨iD,by rw[ed];exact U,aqd c p.a ak,ad⟩
 have js:(p.kind==2)=false:=by rw[lj,hc,ed];exact U
 by_cases ax:p.kind=3
 ·rw[show dA c p=lG c p.a by unfold dA;simp[ax]];exact aqI ⟨iD,js,by rw[ed];exact ax,aqe c p.a ak,ad⟩
 have oz:(p.kind==3)=false:=by rw[lj,hc,ed];exact ax
 by_cases aK:p.kind=4
 ·rw[show dA c p=lH c p.a p.b by unfold dA;simp[aK]];exact aqJ ⟨iD,js,oz,by rw[ed];exact aK,aqf c p.a p.b ak,ad⟩
 have lC:(p.kind==4)=false:=by rw[lj,hc,ed];exact aK
 by_cases a7:p.kind=5
 ·rw[show dA c p=lf c p.a p.b by unfold dA;simp[a7]];exact aqK ⟨iD,js,oz,lC,by rw[ed];exact a7,aqg c p.a p.b ak,ad⟩
 have mH:(p.kind==5)=false:=by rw[lj,hc,ed];exact a7
 by_cases bp:p.kind=6
 ·rw[show dA c p=kV c p.a by unfold dA;simp[bp]];exact aqL ⟨iD,js,oz,lC,mH,by rw[ed];exact bp,aoA c p.a ak,ad⟩
 have n6:(p.kind==6)=false:=by rw[lj,hc,ed];exact bp
 by_cases b6:p.kind=7
 ·rw[show dA c p=lI c p.a by unfold dA;simp[b6]];exact aqM ⟨iD,js,oz,lC,mH,n6,by rw[ed];exact b6,amV c p.a ak,ad⟩
 have n7:(p.kind==7)=false:=by rw[lj,hc,ed];exact b6
 rw[show dA c p=(c,false) by unfold dA;simp[h1,U,ax,aK,a7,bp,b6]];exact aqN ⟨iD,js,oz,lC,mH,n6,n7,ad⟩
end Go.Proofs.YtdchjefneblpgaaGreat
namespace Go.Proofs.YtdchjefneblpgaaGreat
open Go.Sx Go.RowKit Go.Proofs.Tryz
theorem aqh(c:a8)(l:List cP)(ak:c.sz+4*l.length<=8388608):
  c' prog (aq f15 0) (zv (l.map cP.e) 0 [] (c.aC.nodes.map Node.e) c.aC.ap c.aC.cap (c.ap.map aQ.e) (c.bR.map bD.e) (c.tokens.map bT.e) (c.news.map cb.e) (cK c) 0 0) (.exit 0)
   (NE ((dc c l).2.map cy) ((dc c l).1.aC.nodes.map Node.e) (dc c l).1.aC.ap (dc c l).1.aC.cap ((dc c l).1.ap.map aQ.e) ((dc c l).1.bR.map bD.e) ((dc c l).1.tokens.map bT.e) ((dc c l).1.news.map cb.e) (cK (dc c l).1) 0 0):=by
 have ag:l.length<=8388608:=by omega
 have k:=e6 (P:=prog) (c:=(aq f15 0)) (cC 0) l.length (fun i:Nat=>zv (l.map cP.e) i ((dc c (l.take i)).2.map cy) ((dc c (l.take i)).1.aC.nodes.map Node.e) (dc c (l.take i)).1.aC.ap (dc c (l.take i)).1.aC.cap ((dc c (l.take i)).1.ap.map aQ.e) ((dc c (l.take i)).1.bR.map bD.e) ((dc c (l.take i)).1.tokens.map bT.e) ((dc c (l.take i)).1.news.map cb.e) (cK (dc c (l.take i)).1) 0 0) (fun i hi=>by
  obtain⟨p,hp⟩:=db hi;have aR:=K3 (l.take i) c;have ai:=Vb c l i;rw[Va c hp];dsimp only;rw[B'];generalize dc c (l.take i)=o at*;exact aph ⟨bV hi,bk,bm hi,bl cP.e hp,WM o.1 p (by omega),by simp[aR];omega,by simp[aR];omega,HD [(dA o.1 p).2],c3 hi ag,ad⟩) (api ⟨dk,ad⟩)
 rw[lh]at k;exact k
theorem aqi(c:a8)(l:List cP)(ak:c.sz+4*l.length<=8388608)(hw:hS c):aw 15 [.agg c.e,.one (.J 3 (l.map cP.e))] [.agg (dc c l).1.e,.one (.J 1 ((dc c l).2.map cy))]:=
 apj ⟨Mz c (by omega) hw,aqh c l ak,ad⟩
def im(c:a8):a8×Nat:=((dc c (fZ c)).1,mu (dc c (fZ c)).2)
theorem aqj{c d:a8}(h:d.aC=c.aC):fZ d=fZ c:=by unfold fZ;rw[h]
theorem Fv(c:a8):n3 c (im c).1:=K4 _ _
theorem WN(c:a8):(im c).1.sz<=c.sz+400:=by
 have:=FI (fZ c) c;have:=Vo c;unfold im;dsimp only;omega
theorem aqk(c:a8)(l:List cP)(ak:c.sz+4*l.length<=8388608):bZ prog 131 [.ref (fz c) (fz (dc c l).1),.ro (.one (.J 3 (l.map cP.e)))] (.vals [.one (I (mu (dc c l).2))]):=by
 have ag:l.length<=8388608:=by omega
 have k:=e6 (P:=prog) (c:=(aq f131 0)) (cC 0) l.length (fun i:Nat=>w9 (l.map cP.e) i (mu (dc c (l.take i)).2) ((dc c (l.take i)).1.aC.nodes.map Node.e) (dc c (l.take i)).1.aC.ap (dc c (l.take i)).1.aC.cap ((dc c (l.take i)).1.ap.map aQ.e) ((dc c (l.take i)).1.bR.map bD.e) ((dc c (l.take i)).1.tokens.map bT.e) ((dc c (l.take i)).1.news.map cb.e) (cK (dc c (l.take i)).1)) (fun i hi=>by
  obtain⟨p,hp⟩:=db hi;have aR:=K3 (l.take i) c;have aE:=ah2 (dc c (l.take i)).2;have ai:=Vb c l i;have bH:=FJ i l;rw[Va c hp];dsimp only;rw[ah3];generalize dc c (l.take i)=o at*;have st:=WM o.1 p (by omega);cases aj:(dA o.1 p).2 with
  | true=>
   rw[aj]at st;exact aqO ⟨bV hi,bk,bm hi,bl cP.e hp,st,rfl,⟨by omega,by omega⟩,c3 hi ag,ad⟩
  | false=>
   rw[aj]at st;exact aqP ⟨bV hi,bk,bm hi,bl cP.e hp,st,rfl,c3 hi ag,ad⟩) (aqQ ⟨dk,ad⟩)
 rw[lh]at k;exact aqR ⟨k,ad⟩
def gE:Nat->a8->Nat->a8×Nat
 | 0,c,k=>(c,k)
 | n+1,c,k=>if (im c).2=0 then ((im c).1,k+1) else gE n (im c).1 (k+1)
def oK(c:a8)(wu:Int):a8×Nat:=gE (gG wu 0 3000).toNat c 0
theorem WO:∀(n:Nat) (c:a8) (k:Nat),(gE n c k).1.sz<=c.sz+n*400
 | 0,c,k=>ei _
 | n+1,c,k=>by
  have h1:=WN c;have U:=WO n (im c).1 (k+1);unfold gE;split
  ·dsimp only;omega
  omega
theorem WQ:∀(n:Nat) (c:a8) (k:Nat),n3 c (gE n c k).1
 | 0,c,k=>.rfl
 | n+1,c,k=>by
  unfold gE;split
  ·exact Fv c
  exact (Fv c).trans (WQ n _ _)
theorem aql{n:Nat}{c:a8}{k:Nat}(bg:¬(im c).2=0):gE (n+1) c k=gE n (im c).1 (k+1):=by
 conv=>lhs;unfold gE
 rw[ba bg]
theorem aqm(n:Int):∃k:Nat,gG n 0 3000=k/\k<=3000:=by
 refine⟨(gG n 0 3000).toNat,?_,?_⟩<;>(unfold gG;simp only[show ¬(3000:Int)<0 by omega,ll];split<;>(try split)<;>omega)
theorem Jw(n:Nat):((n:Int)==0)=decide (n=0):=by
 rw[Bool.eq_iff_iff];simp only[ed,cr];omega
theorem WR(m:Nat)(hm:m<=3000)(l:List cP):∀(n:Nat) (c:a8) (k:Nat),k+n=m->fZ c=l->c.sz+n*400<=8388608->
  c' prog (aq f16 0) (uS (l.map cP.e) m ((k:Int)+1) (c.aC.nodes.map Node.e) c.aC.ap c.aC.cap (c.ap.map aQ.e) (c.bR.map bD.e) (c.tokens.map bT.e) (c.news.map cb.e) (cK c) 0 0) .ret
    (Nz (gE n c k).2 ((gE n c k).1.aC.nodes.map Node.e) (gE n c k).1.aC.ap (gE n c k).1.aC.cap ((gE n c k).1.ap.map aQ.e) ((gE n c k).1.bR.map bD.e) ((gE n c k).1.tokens.map bT.e) ((gE n c k).1.news.map cb.e))\/
  (gE n c k).2=m/\c' prog (aq f16 0) (uS (l.map cP.e) m ((k:Int)+1) (c.aC.nodes.map Node.e) c.aC.ap c.aC.cap (c.ap.map aQ.e) (c.bR.map bD.e) (c.tokens.map bT.e) (c.news.map cb.e) (cK c) 0 0) (.exit 0)
    (NA m ((gE n c k).1.aC.nodes.map Node.e) (gE n c k).1.aC.ap (gE n c k).1.aC.cap ((gE n c k).1.ap.map aQ.e) ((gE n c k).1.bR.map bD.e) ((gE n c k).1.tokens.map bT.e) ((gE n c k).1.news.map cb.e) (cK (gE n c k).1) 0 0)
 | 0,c,k,hk,_,_=>.inr ⟨by unfold gE;omega,.last (cC 0) (apd ⟨bY (by omega),ad⟩)⟩
 | n+1,c,k,hk,ag,ak=>by
  have r:=aqk c l (by have:=Vo c;rw[ag]at this;omega);have ai:=WN c;have av:=(Fv c).aC;have e1:im c=((dc c l).1,mu (dc c l).2):=by unfold im;rw[ag]
  by_cases bg:(im c).2=0
  ·rw[show gE (n+1) c k=((im c).1,k+1) by unfold gE;rw[bi bg]];rw[e1]at bg ⊢;exact .inl (.last dZ (apc ⟨bU (by omega),r,by rw[Jw];exact iV bg,ad⟩))
  rw[aql bg];have dI:=WR m hm l n (im c).1 (k+1) (by omega) ((aqj av).trans ag) (by omega);rw[e1]at bg dI ⊢;rcases dI with dI | ⟨acu,dI⟩
  ·exact .inl (.more (Xm ⟨bU (by omega),r,by rw[Jw];exact lN bg,⟨by omega,by omega⟩,ad⟩) dI)
  exact .inr ⟨acu,.more (Xm ⟨bU (by omega),r,by rw[Jw];exact lN bg,⟨by omega,by omega⟩,ad⟩) dI⟩
theorem aqn(c:a8)(wu:Int)(ak:c.sz+1200000<=8388608)(hw:hS c):aw 16 [.agg c.e,.one (I wu)] [.agg (oK c wu).1.e,.one (I (oK c wu).2)]:=by
 have b:=EK wu 0 3000;obtain⟨m,hm,aj⟩:=aqm wu;unfold oK;rw[hm]at b ⊢;rw[oX];rcases WR m (by omega) (fZ c) m c 0 (by omega) rfl (by omega) with k | ⟨cG,k⟩
 ·exact ape ⟨Mz c (by omega) hw,Vp c,b,k,ad⟩
 rw[cG];exact apf ⟨Mz c (by omega) hw,Vp c,b,k,ad⟩
