import Derived.Test.YthfnndblgbjniaaGreatDoorP40
import Derived.Test.YthfnndblgbjniaaGreatDoorGW
set_option linter.unusedVariables false
set_option linter.unusedSimpArgs false
namespace Go.Proofs.YthfnndblgbjniaaGreatDoor
open Go.Sx Go.RowKit Go.Proofs.Tryz
end Go.Proofs.YthfnndblgbjniaaGreatDoor
namespace Go.Proofs.YthfnndblgbjniaaGreatDoor
open Go.Sx Go.RowKit Go.Proofs.Tryz
section
variable {xs : List aH} {r : aH} {t : List aH}
theorem JT(h:xs=r::t):((xs.map aH.e).drop 1).take ((xs.map aH.e).length-1)=t.map aH.e:=by grind
theorem nY(h:xs=r::t):(0:Int)<(↑(xs.map aH.e).length:Int):=by grind
theorem o8(h:xs=r::t):(xs.map aH.e)[0]?=some r.e:=by subst h;rfl
theorem oJ(h:xs=r::t):((↑(xs.map aH.e).length:Int)==0)=false:=by
 grind
theorem tV(h:xs=[]):((↑(xs.map aH.e).length:Int)==0)=true:=by subst h;rfl
theorem vZ(h:xs=r::t):decide ((↑(xs.map aH.e).length:Int)>0)=true:=dV (nY h)
theorem kK(h:xs=[]):decide ((↑(xs.map aH.e).length:Int)>0)=false:=by subst h;rfl
theorem pz:(0:Int)<=(some (1:Int)).getD 0:=by decide
theorem pA(h:xs=r::t):(some (1:Int)).getD 0<=(none:Option Int).getD (↑(xs.map aH.e).length:Int):=by
 grind
theorem pB{l:List (List D)}:(none:Option Int).getD (↑l.length:Int)<=(↑l.length:Int):=by simp
theorem p5(h:xs=r::t)(au:xs.length<=8388608):(([]:List (List D)).length+(((xs.map aH.e).drop 1).take ((xs.map aH.e).length-1)).length)*40<=140737488355328:=by
 grind
theorem qd(h:xs=r::t)(au:xs.length<=8388608):([]:List (List D)).length+(((xs.map aH.e).drop 1).take ((xs.map aH.e).length-1)).length<=9223372036854775807:=by
 grind
theorem qe(h:xs=r::t):Flat (((xs.map aH.e).drop 1).take ((xs.map aH.e).length-1)):=by grind[JT,dD,aH.flat]
theorem rA(h:xs=r::t):([]:List (List D))++((xs.map aH.e).drop 1).take ((xs.map aH.e).length-1)=t.map aH.e:=JT h
end
theorem yk{xs:List aH}{a:List D}(h:xs.length<=8388608):((xs.map aH.e).length+[a].length)*40<=140737488355328:=by simp;omega
theorem yl{xs:List aH}{a:List D}(h:xs.length<=8388608):(xs.map aH.e).length+[a].length<=9223372036854775807:=by simp;omega
theorem af8(a:Int)(q:List aH)(r:aH)(b c d e:Int):bA.e ⟨a,q++[r],b,c,d,e⟩=[I a,.J 5 (q.map aH.e++[r.e]),I b,I c,I d,I e]:=by
 grind[bA.e]
theorem JU{l:bA}(h:iw l=true):(0<=l.eK/\l.eK<=4)/\(0<=l.back/\l.back<=4)/\(0<=l.fb/\l.fb<=1000000000)/\(0<=l.dd/\l.dd<=1000000000)/\l.queue.length<=4:=by
 obtain⟨c6,b8,e9,lQ,iP,mx,jT,nJ⟩:=sv.1 h;simp only[av,cW]at c6 b8 e9 iP;omega
theorem Sr(l:bA)(r:aH)(au:l.sz<=8388608):ax 160 [.agg l.e,.agg r.e] [.agg (eY l r).1.e,.one (B (eY l r).2)]:=by
 have fL:=C2 l au;have k:=B0 l au;have iQ:=rr r;have aM:l.queue.length<=8388608:=au;cases U:iw l with
 | false=>
  rw[U]at k;rw[show eY l r=(l,false) by grind[eY]];exact afr ⟨fL,k,rfl,ad⟩
 | true=>
 rw[U]at k;cases aa:e6 r with
 | false=>
  rw[aa]at iQ;rw[show eY l r=(l,false) by grind[eY]];exact afs ⟨fL,k,rfl,iQ,rfl,ad⟩
 | true=>
 rw[aa]at iQ;by_cases aA:l.eK=0
 ·rw[show eY l r=(l,false) by grind[eY]];exact aft ⟨fL,k,rfl,iQ,rfl,by grind,ad⟩
 have L9:(l.eK==0)=false:=by grind
 obtain⟨je,jy,la,kJ,mC⟩:=JU U;by_cases aO:l.fb<1000000000
 ·rw[show eY l r=(⟨l.cap,l.queue++[r],l.eK-1,l.back,l.fb+1,l.dd⟩,true) by grind[eY]];dsimp only;rw[af8];exact afv ⟨fL,k,rfl,iQ,rfl,L9,eC (by omega),yk aM,yl aM,fG (aH.flat r),⟨by omega,by omega⟩,⟨by omega,by omega⟩,ad⟩
 rw[show eY l r=(l,false) by grind[eY]];dsimp only;exact afu ⟨fL,k,rfl,iQ,rfl,L9,dV (by omega),ad⟩
theorem Ss(l:bA)(au:l.sz<=8388608):ax 162 [.agg l.e] [.agg (ef l).1.e,.agg (ef l).2.1.e,.one (B (ef l).2.2)]:=by
 have fL:=C2 l au;have k:=B0 l au;have aM:l.queue.length<=8388608:=au;cases U:iw l with
 | false=>
  rw[U]at k;rw[show ef l=(l,Df,false) by grind[ef]];exact afw ⟨fL,k,rfl,ad⟩
 | true=>
 rw[U]at k;cases aa:l.queue with
 | nil=>
  rw[show ef l=(l,Df,false) by simp_all[ef,bU]];exact afx ⟨fL,k,rfl,tV aa,ad⟩
 | cons r q=>
  obtain⟨je,jy,la,kJ,mC⟩:=JU U;rw[show ef l=(⟨l.cap,q,l.eK,l.back+1,l.fb,l.dd+1⟩,r,true) by simp_all[ef,bU]];have e:bA.e ⟨l.cap,q,l.eK,l.back+1,l.fb,l.dd+1⟩=[I l.cap,.J 5 (((l.queue.map aH.e).drop 1).take ((l.queue.map aH.e).length-1)),I l.eK,I (l.back+1),I l.fb,I (l.dd+1)]:=by rw[JT aa];rfl
  dsimp only;rw[e];exact aeI ⟨fL,k,rfl,oJ aa,by omega,nY aa,o8 aa,pz,pA aa,pB,p5 aa aM,qd aa aM,qe aa,⟨by omega,by omega⟩,⟨by omega,by omega⟩,ad⟩
theorem St(l:bA)(au:l.sz<=8388608):ax 163 [.agg l.e] [.agg (fR l).1.e,.one (B (fR l).2)]:=by
 have fL:=C2 l au;have k:=B0 l au;cases U:iw l with
 | false=>
  rw[U]at k;rw[show fR l=(l,false) by grind[fR]];exact afg ⟨fL,k,rfl,ad⟩
 | true=>
 rw[U]at k;by_cases aA:l.back=0
 ·rw[show fR l=(l,false) by grind[fR]];exact afh ⟨fL,k,rfl,by grind,ad⟩
 obtain⟨je,jy,la,kJ,mC⟩:=JU U;rw[show fR l=(⟨l.cap,l.queue,l.eK+1,l.back-1,l.fb,l.dd⟩,true) by grind[fR]];exact afi ⟨fL,k,rfl,by grind,⟨by omega,by omega⟩,⟨by omega,by omega⟩,ad⟩
theorem af9{n a b:Int}(a7:1<=n/\n<=4)(ai:av a 0 (n-1)=true)(aw:av b 0 (n-1)=true):aK .i64 (a*n)/\aK .i64 (a*n+b):=by
 simp only[av,cW]at ai aw;have A9:n=1\/n=2\/n=3\/n=4:=by omega
 rcases A9 with rfl | rfl | rfl | rfl<;>exact⟨⟨by omega,by omega⟩,⟨by omega,by omega⟩⟩
theorem Su{n:Int}(h:aK .i64 n):IntKind.i64.wrap n=n:=by
 obtain⟨U,aa⟩:=h;grind[IntKind.wrap_i64]
theorem Sv(g:b1)(a b:Int):∃v,ax 159 [.agg g.e,.one (I a),.one (I b)] [.one (I v)]:=by
 cases ai:av a 0 (IntKind.i64.wrap (g.aB-1)) with
 | false=>exact⟨_,Si ⟨fi _ _ _ _ ai,rfl,ad⟩⟩
 | true=>
 cases aw:av b 0 (IntKind.i64.wrap (g.aB-1)) with
 | false=>exact⟨_,Sj ⟨fi _ _ _ _ ai,rfl,fi _ _ _ _ aw,rfl,ad⟩⟩
 | true=>
 by_cases a7:g.aB<1
 ·exact⟨_,afn ⟨fi _ _ _ _ ai,rfl,fi _ _ _ _ aw,rfl,dV a7,ad⟩⟩
 exact⟨_,Sk ⟨fi _ _ _ _ ai,rfl,fi _ _ _ _ aw,rfl,eC a7,ad⟩⟩
theorem JV(g:b1)(a b:Int)(a7:1<=g.aB/\g.aB<=4):ax 159 [.agg g.e,.one (I a),.one (I b)] [.one (I (eZ g a b))]:=by
 have i1:IntKind.i64.wrap (g.aB-1)=g.aB-1:=Su ⟨by omega,by omega⟩;have ya:∀(x:Int) (r:Bool),av x 0 (g.aB-1)=r->ax 65 [.one (I x),.one (I 0),.one (I (IntKind.i64.wrap (g.aB-1)))] [.one (B r)]:=fun x r h=>by
  grind[fi]
 cases ai:av a 0 (g.aB-1) with
 | false=>
  rw[zm (by rw[ai];rfl)];exact Si ⟨ya _ _ ai,rfl,ad⟩
 | true=>
 cases aw:av b 0 (g.aB-1) with
 | false=>
  rw[zm (by grind)];exact Sj ⟨ya _ _ ai,rfl,ya _ _ aw,rfl,ad⟩
 | true=>
  obtain⟨vV,tU⟩:=af9 a7 ai aw;have key:ax 159 [.agg g.e,.one (I a),.one (I b)] [.one (I (IntKind.i64.wrap (IntKind.i64.wrap (a*g.aB)+b)))]:=Sk ⟨ya a true ai,rfl,ya b true aw,rfl,eC (by omega),ad⟩;grind[Su,Ja]
theorem JW(w:aR)(r:aH):(kept w r).e=[.J 5 (w.queue.map aH.e++[r.e]),.J 5 (w.cn.map aH.e),.J 5 (w.cb.map aH.e),.J 4 (w.cells.map Cell.e),.J 1 (w.bN.map ba),.J 1 (w.bW.map cu),.J 1 (w.bB.map cu),.J 2 (w.bx.map ca.e)]:=by
 grind[kept,aR.e]
theorem aga(w:aR)(r:aH):(hR w r).e=[.J 5 (w.queue.map aH.e++[r.e]),.J 5 (w.cn.map aH.e),.J 5 (w.cb.map aH.e),.J 4 (w.cells.map Cell.e),.J 1 ((w.bN.map ba).set r.bJ.bh.toNat [I (w.bN.getD r.bJ.bh.toNat 0-1)]),.J 1 ((w.bW.map cu).set r.bJ.bh.toNat [B true]),.J 1 (w.bB.map cu),.J 2 (w.bx.map ca.e)]:=by
 simp only[hR,k9,aR.e,gy,jK];rfl
theorem agb(w:aR)(e:Int):(l1 w e).e=[.J 5 (w.queue.map aH.e),.J 5 (w.cn.map aH.e),.J 5 (w.cb.map aH.e),.J 4 (w.cells.map Cell.e),.J 1 ((w.bN.map ba).set e.toNat [I (w.bN.getD e.toNat 0+1)]),.J 1 (w.bW.map cu),.J 1 (w.bB.map cu),.J 2 (w.bx.map ca.e)]:=by
 simp only[l1,k9,aR.e,jK];rfl
end Go.Proofs.YthfnndblgbjniaaGreatDoor
namespace Go.Proofs.YthfnndblgbjniaaGreatDoor
open Go.Sx Go.RowKit Go.Proofs.Tryz
variable{c:bb}{w:Int}
theorem agc(h:db c w=none):av w 0 ((↑(c.aB.map aR.e).length:Int)-1)=false:=by
 grind[db,av,cr,n']
variable{x:aR}
theorem Sw(h:db c w=some x):av w 0 ((↑(c.aB.map aR.e).length:Int)-1)=true:=by
 obtain⟨U,aa,_⟩:=jj h;simp only[av,cr,cW];omega
theorem JX{i:Int}{x:bA}(h:gE c i=some x):0<=i/\i<(↑(c.b2.map bA.e).length:Int)/\(c.b2.map bA.e)[i.toNat]?=some x.e:=by
 obtain⟨U,aa,aA⟩:=p4 h;grind
theorem JY{i:Int}{x:bA}(h:gE c i=some x)(ap:c.sz<=8388608):x.sz<=8388608:=bb.Gz ap (ee (p4 h).2.2)
theorem Th(ap:c.sz<=8388608):aK .i64 ((↑(c.aB.map aR.e).length:Int)-1):=by
 have:=bb.vf ap;exact⟨by grind,by grind⟩
theorem yW(c:bb)(w:Int)(y:aR)(b:Bool):kQ (setW c w y) b=[.J 4 (c.aG.nodes.map Node.e),I c.aG.aB,I c.aG.cap,.J 8 ((c.aB.map aR.e).set w.toNat y.e),.J 6 (c.b2.map bA.e),.J 5 (c.tokens.map b4.e),.J 3 (c.news.map bR.e),B b]:=by grind[setW,kQ,jK]
theorem Sy(c:bb)(i:Int)(y:bA)(b:Bool):kQ (dO c i y) b=[.J 4 (c.aG.nodes.map Node.e),I c.aG.aB,I c.aG.cap,.J 8 (c.aB.map aR.e),.J 6 ((c.b2.map bA.e).set i.toNat y.e),.J 5 (c.tokens.map b4.e),.J 3 (c.news.map bR.e),B b]:=by grind[dO,kQ,jK]
theorem JZ(c:bb)(w i:Int)(y:aR)(z:bA)(b:Bool):kQ (setW (dO c i z) w y) b=[.J 4 (c.aG.nodes.map Node.e),I c.aG.aB,I c.aG.cap,.J 8 ((c.aB.map aR.e).set w.toNat y.e),.J 6 ((c.b2.map bA.e).set i.toNat z.e),.J 5 (c.tokens.map b4.e),.J 3 (c.news.map bR.e),B b]:=by grind[setW,dO,kQ,jK]
theorem Sz(ok:cO c=true)(ao:db c w=some x):x.bN.length=4/\x.bW.length=4/\x.bB.length=4/\(∀e:Int,0<=e/\e<=3->-1000000<=x.bN.getD e.toNat 0/\x.bN.getD e.toNat 0<=1000000):=by
 obtain⟨_,_,_,_,iP,mx,jT,_,q6,_⟩:=iy.1 (lp ok ao);refine⟨iP,mx,jT,fun e he=>?_⟩;have au:e.toNat<x.bN.length:=by omega
 rw[hv]at q6;have:=q6 _ (rQ au);rw[jJ,ih au,j5];simpa only[l0,hT,j6,av,cW,tj,Bool.not_not,Bool.not_eq_eq_eq_not,jm,n',Classical.not_not]using this
variable{r:aH}{t:List aH}
theorem agd(ok:cO c=true)(ao:db c w=some x)(aj:x.cn=r::t):ln c w=sZ c w x r t (jh r.key c.aG.aB):=by
 simp_all[ln,bU]
theorem age{o:Int}(h:o=w):sZ c w x r t o=(setW c w (kept (ji x t) r),true):=bU h
variable{l:bA}
theorem agf{o:Int}(h:o≠w)(au:gE c (eZ c.aG w o)=some l):sZ c w x r t o=if (eY l r).2 then (setW (dO c (eZ c.aG w o) (eY l r).1) w (l1 (ji x t) r.bJ.bh),true) else (c,false):=by
 simp_all[sZ,bE]
variable{a b:Int}
theorem SA(h:(av a 0 (c.aG.aB-1)&&av b 0 (c.aG.aB-1))=false):gE c (eZ c.aG a b)=none:=by
 rw[zm h];rfl
theorem agh(ok:cO c=true)(hL:a≠b)(au:gE c (eZ c.aG a b)=some l)(ao:db c b=some x):lo c a b=if (ef l).2.2 then (setW (dO c (eZ c.aG a b) (ef l).1) b (hR x (ef l).2.1),true) else (c,false):=by
 simp_all[lo,bU]
theorem agi(ok:cO c=true)(hL:a≠b)(au:gE c (eZ c.aG a b)=some l):ko c a b=(dO c (eZ c.aG a b) (fR l).1,(fR l).2):=by
 simp_all[ko,bU]
theorem J0(c:bb)(w:Int)(ap:c.sz<=8388608):bP prog 155 [.ref (e7 c) (e7 c),.ro (.one (I w))] (.vals [.one (B (cO c&&(db c w).isSome))]):=by
 unfold e7;cases ok:cO c with
 | false=>exact aeR ⟨rfl,ad⟩
 | true=>
  cases ao:db c w with
  | none=>exact Sm ⟨rfl,Th ap,fi _ _ _ _ (agc ao),ad⟩
  | some x=>exact Sm ⟨rfl,Th ap,fi _ _ _ _ (Sw ao),ad⟩
def Dm(x:aR)(e d:Int):aR:=⟨x.queue,x.cn,x.cb,x.cells,k9 x.bN e d,x.bW,x.bB,x.bx⟩
theorem SB(w:aR)(e d:Int):(Dm w e d).e=[.J 5 (w.queue.map aH.e),.J 5 (w.cn.map aH.e),.J 5 (w.cb.map aH.e),.J 4 (w.cells.map Cell.e),.J 1 ((w.bN.map ba).set e.toNat [I (w.bN.getD e.toNat 0+d)]),.J 1 (w.bW.map cu),.J 1 (w.bB.map cu),.J 2 (w.bx.map ca.e)]:=by
 simp only[Dm,k9,aR.e,jK];rfl
theorem SC(c:bb)(w e d:Int)(x:aR)(ao:db c w=some x)(aO:x.bN.length=4)(he:0<=e/\e<=3)(aF:-1<=d/\d<=1)(aj:-1000000<=x.bN.getD e.toNat 0/\x.bN.getD e.toNat 0<=1000000):
  bP prog 161 [.ref (kQ c true) (kQ (setW c w (Dm x e d)) (av (x.bN.getD e.toNat 0+d) (-1000000) 1000000)),.ro (.one (I w)),.ro (.one (I e)),.ro (.one (I d))] (.vals []):=by
 obtain⟨dF,dT,dR⟩:=o5 ao;obtain⟨s1,s2⟩:=Gt aO he;rw[yW,SB];exact aeW ⟨dF,dT,dR,dF,dT,dR,he.1,s1,s2,⟨by omega,by omega⟩,he.1,s1,s2,dR,rfl,rfl,rfl,rfl,rfl,dF,by grind,qF dF dT,he.1,by grind,qF he.1 s1,hA _ _ _,ad⟩
theorem agj(c:bb)(w:Int)(ap:c.sz<=8388608):bP prog 110 [.ref (e7 c) (e7 (ll c w).1),.ro (.one (I w))] (.vals [.one (B (ll c w).2)]):=by
 have post:=fun h=>acd (c:=c) (w:=w) h
 have is:=J0 c w ap;cases ok:cO c with
 | false=>
  rw[ok]at is;rw[show ll c w=(c,false) by grind[ll]];exact Sp ⟨is,rfl,ad⟩
 | true=>
 replace post:=post ok;cases ao:db c w with
 | none=>
  rw[ok,ao]at is;rw[show ll c w=(c,false) by grind[ll]];exact Sp ⟨is,rfl,ad⟩
 | some x=>
 rw[ok,ao]at is;obtain⟨dF,dT,dR⟩:=o5 ao;have eL:=ry ao ap;have Vm:=(ib.1 ok).1;have Ti:=lp ok ao;have hu:fr c.aG x=match x.cn,x.queue with
  | [],r::q=>(⟨q,(ev c.aG x.cells r).2.1,x.cb,(ev c.aG x.cells r).1,x.bN,x.bW,(if dq c.aG r then x.bB.set r.bJ.bh.toNat true else x.bB),x.bx⟩,true)
  | _,_=>(x,false):=by grind[fr]
 have ra:ll c w=(setW c w (fr c.aG x).1,(fr c.aG x).2):=by grind[ll]
 cases aA:x.cn with
 | cons r q=>
  rw[ra,show fr c.aG x=(x,false) by rw[hu,aA]];dsimp only;rw[rv ao];exact ae2 ⟨is,rfl,dF,dT,dR,vZ aA,ad⟩
 | nil=>
 cases aO:x.queue with
 | nil=>
  rw[ra,show fr c.aG x=(x,false) by grind];dsimp only;rw[rv ao];exact ae3 ⟨is,rfl,dF,dT,dR,kK aA,tV aO,ad⟩
 | cons r q=>
  have qN:x.cells.length<=8388608:=by grind[aR.sz]
  have kF:x.queue.length<=8388608:=by grind[aR.sz]
  have ay:=bb.nh ap;have st:=Rf c.aG x.cells r ay qN;have qy:=Rg c.aG r ay;obtain⟨c6,_,_,_,_,_,jT,_⟩:=iy.1 Ti;rw[aO,sr]at c6;have he:=ss c6.1;obtain⟨bX,cw⟩:=vp jT he;unfold e7 at is ⊢;rw[post];rw[ok]at is ⊢;cases a8:dq c.aG r with
  | true=>
   rw[a8]at qy;rw[ra,show fr c.aG x=(⟨q,(ev c.aG x.cells r).2.1,x.cb,(ev c.aG x.cells r).1,x.bN,x.bW,x.bB.set r.bJ.bh.toNat true,x.bx⟩,true) by grind];have e:aR.e ⟨q,(ev c.aG x.cells r).2.1,x.cb,(ev c.aG x.cells r).1,x.bN,x.bW,x.bB.set r.bJ.bh.toNat true,x.bx⟩=[.J 5 ([]++((x.queue.map aH.e).drop 1).take ((x.queue.map aH.e).length-1)),.J 5 ((ev c.aG x.cells r).2.1.map aH.e),.J 5 (x.cb.map aH.e),.J 4 ((ev c.aG x.cells r).1.map Cell.e),.J 1 (x.bN.map ba),.J 1 (x.bW.map cu),.J 1 ((x.bB.map cu).set r.bJ.bh.toNat [B true]),.J 2 (x.bx.map ca.e)]:=by
    rw[rA aO];simp only[aR.e,jK];rfl
   dsimp only;rw[yW,e];have key:=ae4 ⟨is,rfl,dF,dT,dR,kK aA,oJ aO,by omega,nY aO,o8 aO,st,pz,pA aO,pB,p5 aO kF,qd aO kF,qe aO,qy,rfl,he.1,bX,cw,dR,rfl,rfl,rfl,rfl,dF,by grind,qF dF dT,rfl,rfl,rfl,rfl,rfl,ad⟩;simp only[Ai]at key;exact key
  | false=>
   rw[a8]at qy;rw[ra,show fr c.aG x=(⟨q,(ev c.aG x.cells r).2.1,x.cb,(ev c.aG x.cells r).1,x.bN,x.bW,x.bB,x.bx⟩,true) by grind];have e:aR.e ⟨q,(ev c.aG x.cells r).2.1,x.cb,(ev c.aG x.cells r).1,x.bN,x.bW,x.bB,x.bx⟩=[.J 5 ([]++((x.queue.map aH.e).drop 1).take ((x.queue.map aH.e).length-1)),.J 5 ((ev c.aG x.cells r).2.1.map aH.e),.J 5 (x.cb.map aH.e),.J 4 ((ev c.aG x.cells r).1.map Cell.e),.J 1 (x.bN.map ba),.J 1 (x.bW.map cu),.J 1 (x.bB.map cu),.J 2 (x.bx.map ca.e)]:=by
    rw[rA aO];rfl
   dsimp only;rw[yW,e];exact ae5 ⟨is,rfl,dF,dT,dR,kK aA,oJ aO,by omega,nY aO,o8 aO,st,pz,pA aO,pB,p5 aO kF,qd aO kF,qe aO,qy,rfl,dF,dT,dR,rfl,rfl,rfl,rfl,rfl,ad⟩
theorem agk(c:bb)(w:Int)(ap:c.sz<=8388608):bP prog 111 [.ref (e7 c) (e7 (lm c w).1),.ro (.one (I w))] (.vals [.one (B (lm c w).2)]):=by
 have post:=fun h=>ace (c:=c) (w:=w) h
 have is:=J0 c w ap;cases ok:cO c with
 | false=>
  rw[ok]at is;rw[show lm c w=(c,false) by grind[lm]];exact Sl ⟨is,rfl,ad⟩
 | true=>
 replace post:=post ok;cases ao:db c w with
 | none=>
  rw[ok,ao]at is;rw[show lm c w=(c,false) by grind[lm]];exact Sl ⟨is,rfl,ad⟩
 | some x=>
 rw[ok,ao]at is;obtain⟨dF,dT,dR⟩:=o5 ao;have eL:=ry ao ap;have Vm:=(ib.1 ok).1;have Ti:=lp ok ao;have ij:x.cb.length<=8388608:=by grind[aR.sz]
 have hu:fs c.aG x=match x.cn,x.queue,x.cb with
  | [],[],r::t=>(⟨[r],[],t,x.cells,x.bN,x.bW,x.bB,x.bx⟩,true)
  | _,_,_=>(x,false):=by grind[fs]
 have ra:lm c w=(setW c w (fs c.aG x).1,(fs c.aG x).2):=by grind[lm]
 cases aA:x.cn with
 | cons r q=>
  rw[ra,show fs c.aG x=(x,false) by rw[hu,aA]];dsimp only;rw[rv ao];exact aeN ⟨is,rfl,dF,dT,dR,vZ aA,ad⟩
 | nil=>
 cases aO:x.queue with
 | cons r q=>
  rw[ra,show fs c.aG x=(x,false) by grind];dsimp only;rw[rv ao];exact aeO ⟨is,rfl,dF,dT,dR,kK aA,vZ aO,ad⟩
 | nil=>
 cases a8:x.cb with
 | nil=>
  rw[ra,show fs c.aG x=(x,false) by grind];dsimp only;rw[rv ao];exact aeP ⟨is,rfl,dF,dT,dR,kK aA,kK aO,tV a8,ad⟩
 | cons r t=>
  unfold e7 at is ⊢;rw[post];rw[ok]at is ⊢;rw[ra,show fs c.aG x=(⟨[r],[],t,x.cells,x.bN,x.bW,x.bB,x.bx⟩,true) by grind];have e:aR.e ⟨[r],[],t,x.cells,x.bN,x.bW,x.bB,x.bx⟩=[.J 5 ([r.e]),.J 5 (x.cn.map aH.e),.J 5 ([]++((x.cb.map aH.e).drop 1).take ((x.cb.map aH.e).length-1)),.J 4 (x.cells.map Cell.e),.J 1 (x.bN.map ba),.J 1 (x.bW.map cu),.J 1 (x.bB.map cu),.J 2 (x.bx.map ca.e)]:=by
   rw[rA a8,aA];rfl
  dsimp only;rw[yW,e];exact aeQ ⟨is,rfl,dF,dT,dR,kK aA,kK aO,oJ a8,by omega,nY a8,o8 a8,pz,pA a8,pB,p5 a8 ij,qd a8 ij,qe a8,dF,dT,dR,rfl,rfl,rfl,rfl,rfl,rfl,ad⟩
theorem agl(c:bb)(w:Int)(ap:c.sz<=8388608):bP prog 112 [.ref (e7 c) (e7 (ln c w).1),.ro (.one (I w))] (.vals [.one (B (ln c w).2)]):=by
 have is:=J0 c w ap;cases ok:cO c with
 | false=>
  rw[ok]at is;rw[show ln c w=(c,false) by grind[ln]];exact Sn ⟨is,rfl,ad⟩
 | true=>
 cases ao:db c w with
 | none=>
  rw[ok,ao]at is;rw[show ln c w=(c,false) by grind[ln]];exact Sn ⟨is,rfl,ad⟩
 | some x=>
 rw[ok,ao]at is;obtain⟨dF,dT,dR⟩:=o5 ao;have eL:=ry ao ap;have a7:=mQ (ib.1 ok).1;cases aj:x.cn with
 | nil=>
  rw[show ln c w=(c,false) by simp_all[ln,bU]];exact aeS ⟨is,rfl,dF,dT,dR,tV aj,ad⟩
 | cons r t=>
  have t':=Qb r.key c.aG.aB (by omega);have aI:=(I8 (lp ok ao) aj).2;have he:=ss aI;have kF:x.queue.length<=8388608:=by grind[aR.sz]
  have nD:x.cn.length<=8388608:=by grind[aR.sz]
  obtain⟨f4,_,_,ey⟩:=Sz ok ao;rw[agd ok ao aj];have GN:=ab5 r.key a7.1;generalize jh r.key c.aG.aB=o at t' GN;by_cases how:o=w
  ·have tH:(o != w)=false:=by simp[how]
   rw[age how];unfold e7 at is ⊢;dsimp only;rw[aca ok ao aj];rw[ok]at is ⊢;have e:(kept (ji x t) r).e=[.J 5 (x.queue.map aH.e++[r.e]),.J 5 ([]++((x.cn.map aH.e).drop 1).take ((x.cn.map aH.e).length-1)),.J 5 (x.cb.map aH.e),.J 4 (x.cells.map Cell.e),.J 1 (x.bN.map ba),.J 1 (x.bW.map cu),.J 1 (x.bB.map cu),.J 2 (x.bx.map ca.e)]:=by
    rw[rA aj,JW];rfl
   rw[yW,e];have key:=aeV ⟨is,rfl,dF,dT,dR,oJ aj,dF,dT,dR,by omega,nY aj,o8 aj,t',tH,dF,dT,dR,yk kF,yl kF,dR,rfl,fG (aH.flat r),rfl,rfl,rfl,rfl,rfl,rfl,rfl,rfl,rfl,rfl,rfl,rfl,rfl,dF,dT,dR,rfl,dF,by grind,qF dF dT,pz,pA aj,pB,p5 aj nD,qd aj nD,qe aj,dF,by grind,qF dF dT,ad⟩;simp only[Ai]at key;exact key
  have tH:(o != w)=true:=by simp[how]
  have win:av w 0 (c.aG.aB-1)=true:=by
   have:=Sw ao;rwa[cr,(ib.1 ok).2.1]at this
  obtain⟨l,au⟩:=Jb ok win GN;obtain⟨pS,pT,pU⟩:=JX au;have aV:=JV c.aG w o a7;have kS:=Sr l r (JY au ap);have Xl:=fun h=>ab9 ok ao aj GN how au h
  rw[agf how au];cases bG:(eY l r).2 with
  | false=>
   rw[bG]at kS;exact aeT ⟨is,rfl,dF,dT,dR,oJ aj,dF,dT,dR,by omega,nY aj,o8 aj,t',tH,aV,pS,pT,pU,kS,rfl,ad⟩
  | true=>
   rw[bG]at kS;rw[bU rfl];unfold e7 at is ⊢;dsimp only;rw[Xl bG];rw[ok]at is ⊢;have vd:=SC (dO c (eZ c.aG w o) (eY l r).1) w r.bJ.bh 1 x (zn.trans ao) f4 he (by omega) (ey _ he);rw[Sy,JZ,SB]at vd;have e:(l1 (ji x t) r.bJ.bh).e=[.J 5 (x.queue.map aH.e),.J 5 ([]++((x.cn.map aH.e).drop 1).take ((x.cn.map aH.e).length-1)),.J 5 (x.cb.map aH.e),.J 4 (x.cells.map Cell.e),.J 1 ((x.bN.map ba).set r.bJ.bh.toNat [I (x.bN.getD r.bJ.bh.toNat 0+1)]),.J 1 (x.bW.map cu),.J 1 (x.bB.map cu),.J 2 (x.bx.map ca.e)]:=by
    rw[rA aj,agb];rfl
   rw[JZ,e];have key:=aeU ⟨is,rfl,dF,dT,dR,oJ aj,dF,dT,dR,by omega,nY aj,o8 aj,t',tH,aV,pS,pT,pU,kS,rfl,pS,pT,pU,vd,dF,by grind,qF dF dT,pz,pA aj,pB,p5 aj nD,qd aj nD,qe aj,dF,by grind,qF dF dT,ad⟩;simp only[Ai]at key;exact key
theorem agm(c:bb)(a b:Int)(ap:c.sz<=8388608):bP prog 113 [.ref (e7 c) (e7 (lo c a b).1),.ro (.one (I a)),.ro (.one (I b))] (.vals [.one (B (lo c a b).2)]):=by
 cases ok:cO c with
 | false=>
  rw[show lo c a b=(c,false) by grind[lo]];obtain⟨v,aV⟩:=Sv c.aG a b;unfold e7;rw[ok];exact aeX ⟨aV,rfl,ad⟩
 | true=>
 have a7:=mQ (ib.1 ok).1;have aV:=JV c.aG a b a7;cases bH:(av a 0 (c.aG.aB-1)&&av b 0 (c.aG.aB-1)) with
 | false=>
  rw[zm bH]at aV;rw[show lo c a b=(c,false) by grind[lo,SA]];unfold e7;rw[ok];exact aeY ⟨aV,rfl,dV (by decide),ad⟩
 | true=>
 rw[cJ]at bH;obtain⟨l,au⟩:=Jb ok bH.1 bH.2;obtain⟨pS,pT,pU⟩:=JX au;by_cases hL:a=b
 ·rw[show lo c a b=(c,false) by grind[lo]];unfold e7;rw[ok];exact aeZ ⟨aV,rfl,eC (by omega),by simp[hL],ad⟩
 have tH:(a==b)=false:=by simp[hL]
 obtain⟨x,ao⟩:∃x,db c b=some x:=by
  have aw:=bH.2;have:=(ib.1 ok).2.1;simp only[av,cW]at aw;grind[CX]
 obtain⟨dF,dT,dR⟩:=o5 ao;have eL:=ry ao ap;have zG:=Ss l (JY au ap);have Xo:=fun h=>acb ok au ao h
 rw[agh ok hL au ao];unfold e7;cases bG:(ef l).2.2 with
 | false=>
  rw[bG]at zG;rw[bE (by decide)];dsimp only;rw[ok];exact ae0 ⟨aV,rfl,eC (by omega),tH,pS,pT,pU,zG,rfl,ad⟩
 | true=>
  rw[bG]at zG;rw[bU rfl];dsimp only;rw[Xo bG,ok];have aI:=(I' (zl ok au) bG).2;have he:=ss aI;generalize (ef l).2.1=r at zG aI he ⊢;obtain⟨f4,Vf,_,ey⟩:=Sz ok ao;have kF:x.queue.length<=8388608:=by grind[aR.sz]
  obtain⟨hK,gj⟩:=vp Vf he;have iO:db (setW (dO c (eZ c.aG a b) (ef l).1) b ⟨x.queue++[r],x.cn,x.cb,x.cells,x.bN,x.bW.set r.bJ.bh.toNat true,x.bB,x.bx⟩) b=some ⟨x.queue++[r],x.cn,x.cb,x.cells,x.bN,x.bW.set r.bJ.bh.toNat true,x.bB,x.bx⟩:=by
   obtain⟨q1,lT,_⟩:=jj ao;simp_all[db,setW,dO,bU]
  have vd:=SC _ b r.bJ.bh (-1) _ iO f4 he (by omega) (ey _ he);rw[JZ]at vd;have e2:aR.e ⟨x.queue++[r],x.cn,x.cb,x.cells,x.bN,x.bW.set r.bJ.bh.toNat true,x.bB,x.bx⟩=[.J 5 (x.queue.map aH.e++[r.e]),.J 5 (x.cn.map aH.e),.J 5 (x.cb.map aH.e),.J 4 (x.cells.map Cell.e),.J 1 (x.bN.map ba),.J 1 ((x.bW.map cu).set r.bJ.bh.toNat [B true]),.J 1 (x.bB.map cu),.J 2 (x.bx.map ca.e)]:=by
   simp only[aR.e,gy,jK];rfl
  rw[e2,<-Ai]at vd;rw[show setW (setW (dO c (eZ c.aG a b) (ef l).1) b ⟨x.queue++[r],x.cn,x.cb,x.cells,x.bN,x.bW.set r.bJ.bh.toNat true,x.bB,x.bx⟩) b (Dm ⟨x.queue++[r],x.cn,x.cb,x.cells,x.bN,x.bW.set r.bJ.bh.toNat true,x.bB,x.bx⟩ r.bJ.bh (-1))=setW (dO c (eZ c.aG a b) (ef l).1) b (hR x r) by unfold setW dO;simp only[Ai];rfl]at vd;exact ae1 ⟨aV,rfl,eC (by omega),tH,pS,pT,pU,zG,rfl,pS,pT,pU,dF,dT,dR,yk kF,yl kF,dR,rfl,fG (aH.flat r),rfl,rfl,rfl,rfl,rfl,rfl,rfl,dF,dT,dR,rfl,dF,by grind,qF dF dT,he.1,hK,gj,qF dF dT,rfl,rfl,vd,ad⟩
theorem agn(c:bb)(a b:Int)(ap:c.sz<=8388608):bP prog 114 [.ref (e7 c) (e7 (ko c a b).1),.ro (.one (I a)),.ro (.one (I b))] (.vals [.one (B (ko c a b).2)]):=by
 have post:=fun h=>acf (c:=c) (a:=a) (b:=b) h
 cases ok:cO c with
 | false=>
  rw[show ko c a b=(c,false) by grind[ko]];obtain⟨v,aV⟩:=Sv c.aG a b;unfold e7;rw[ok];exact aeJ ⟨aV,rfl,ad⟩
 | true=>
 replace post:=post ok;have a7:=mQ (ib.1 ok).1;have aV:=JV c.aG a b a7;unfold e7;rw[post,ok];cases bH:(av a 0 (c.aG.aB-1)&&av b 0 (c.aG.aB-1)) with
 | false=>
  rw[zm bH]at aV;rw[show ko c a b=(c,false) by grind[ko,SA]];exact aeK ⟨aV,rfl,dV (by decide),ad⟩
 | true=>
 rw[cJ]at bH;obtain⟨l,au⟩:=Jb ok bH.1 bH.2;obtain⟨pS,pT,pU⟩:=JX au;by_cases hL:a=b
 ·rw[show ko c a b=(c,false) by grind[ko]];exact aeL ⟨aV,rfl,eC (by omega),by simp[hL],ad⟩
 rw[agi ok hL au];dsimp only;rw[Sy];exact aeM ⟨aV,rfl,eC (by omega),by simp[hL],pS,pT,pU,St l (JY au ap),pS,pT,pU,ad⟩
theorem SD(c:bb)(p:c')(ap:c.sz<=8388608):bP prog 63 [.ref (e7 c) (e7 (eN c p).1),.ro (.agg p.e)] (.vals [.one (B (eN c p).2)]):=by
 by_cases U:p.kind=1
 ·rw[show eN c p=ll c p.a by grind[eN]];exact ae6 ⟨by grind,agj c p.a ap,ad⟩
 have je:(p.kind==1)=false:=by grind
 by_cases aa:p.kind=2
 ·rw[show eN c p=lm c p.a by grind[eN]];exact ae7 ⟨je,by grind,agk c p.a ap,ad⟩
 have jy:(p.kind==2)=false:=by grind
 by_cases aA:p.kind=3
 ·rw[show eN c p=ln c p.a by grind[eN]];exact aey ⟨je,jy,by grind,agl c p.a ap,ad⟩
 have la:(p.kind==3)=false:=by grind
 by_cases aO:p.kind=4
 ·rw[show eN c p=lo c p.a p.b by grind[eN]];exact aez ⟨je,jy,la,by grind,agm c p.a p.b ap,ad⟩
 have kJ:(p.kind==4)=false:=by grind
 by_cases a8:p.kind=5
 ·rw[show eN c p=ko c p.a p.b by grind[eN]];exact aeA ⟨je,jy,la,kJ,by grind,agn c p.a p.b ap,ad⟩
 have mC:(p.kind==5)=false:=by grind
 by_cases bG:p.kind=6
 ·rw[show eN c p=kp c p.a by grind[eN]];exact aeB ⟨je,jy,la,kJ,mC,by grind,abS c p.a ap,ad⟩
 have n6:(p.kind==6)=false:=by grind
 by_cases b9:p.kind=7
 ·rw[show eN c p=fz c p.a by grind[eN]];exact aeC ⟨je,jy,la,kJ,mC,n6,by grind,QV c p.a ap,ad⟩
 have tY:(p.kind==7)=false:=by grind
 rw[show eN c p=(c,false) by grind[eN]];exact aeD ⟨je,jy,la,kJ,mC,n6,tY,ad⟩
end Go.Proofs.YthfnndblgbjniaaGreatDoor
namespace Go.Proofs.YthfnndblgbjniaaGreatDoor
open Go.Sx Go.RowKit Go.Proofs.Tryz
theorem RN(l:bA)(r:aH)(h:l.dd<=9223372036854775807):(eY l r).1.dd<=9223372036854775807:=by
 unfold eY;split<;>exact h
theorem RO(l:bA)(h:l.dd<=9223372036854775807):(fR l).1.dd<=9223372036854775807:=by
 unfold fR;split<;>exact h
theorem RP(l:bA)(h:l.dd<=9223372036854775807):(ef l).1.dd<=9223372036854775807:=by
 unfold ef;split
 ·rename_i bc;obtain⟨_,_,_,_,iP,_,jT,_⟩:=sv.1 bc;simp only[av,cW]at iP;split
  ·exact h
  dsimp only;omega
 exact h
variable{c:bb}
theorem gi.dO{i:Int}{l:bA}(h:gi c)(au:l.dd<=9223372036854775807):gi (dO c i l):=by
 intro x ao;rcases ps ao with U | rfl
 ·exact h x U
 exact au
theorem gi.at{i:Int}{x:bA}(h:gE c i=some x)(hw:gi c):x.dd<=9223372036854775807:=hw _ (ee (p4 h).2.2)
structure ly (c d:bb):Prop where
 aG:d.aG=c.aG
 dd:gi c->gi d
 td:d.aB.length=c.aB.length
theorem ly.rfl:ly c c:=⟨Eq.refl _,id,Eq.refl _⟩
theorem ly.b2{d:bb}(U:d.aG=c.aG)(aa:d.b2=c.b2)(aA:d.aB.length=c.aB.length:=by simp[setW,iA,ea,dO,told,f']):ly c d:=⟨U,fun h x ao=>h x (aa▸ao),aA⟩
theorem ago(c:bb)(e:Int)(t:b4)(x:aR):ly c (ft c e t x).1:=by
 unfold ft;split
 ·split
  ·exact .b2 rfl rfl
  split
  ·split
   ·exact .b2 rfl rfl
   exact .rfl
  split
  ·exact .b2 rfl rfl
  exact .b2 rfl rfl
 exact .rfl
theorem agp(c:bb)(p:c'):ly c (eN c p).1:=by
 unfold eN;split
 ·unfold ll;split
  ·split
   ·exact .b2 rfl rfl
   exact .rfl
  exact .rfl
 split
 ·unfold lm;split
  ·split
   ·exact .b2 rfl rfl
   exact .rfl
  exact .rfl
 split
 ·unfold ln;split
  ·split
   ·split
    ·unfold sZ;split
     ·exact .b2 rfl rfl
     split
     ·rename_i l au;split
      ·exact⟨rfl,fun h=>gi.dO h (RN l _ (gi.at au h)),by simp[setW,dO]⟩
      exact .rfl
     exact .rfl
    exact .rfl
   exact .rfl
  exact .rfl
 split
 ·unfold lo;split
  ·split
   ·rename_i l x au ao;split
    ·exact⟨rfl,fun h=>gi.dO h (RP l (gi.at au h)),by simp[setW,dO]⟩
    exact .rfl
   exact .rfl
  exact .rfl
 split
 ·unfold ko;split
  ·split
   ·rename_i l au;exact⟨rfl,fun h=>gi.dO h (RO l (gi.at au h)),by simp[setW,dO]⟩
   exact .rfl
  exact .rfl
 split
 ·unfold kp;split
  ·split
   ·split
    ·exact .rfl
    split
    ·exact ago c _ _ _
    exact .rfl
   exact .rfl
  exact .rfl
 split
 ·unfold fz;split
  ·split
   ·split
    ·exact .b2 rfl rfl
    exact .rfl
   exact .rfl
  exact .rfl
 exact .rfl
theorem J1{α:Type}{f:α->List D}{xs:List α}{a:α}:(xs++[a]).map f=xs.map f++[f a]:=by simp
def dK:bb->List c'->bb×List Bool
 | c,[]=>(c,[])
 | c,p::l=>((dK (eN c p).1 l).1,(eN c p).2::(dK (eN c p).1 l).2)
theorem RQ(p:c'):∀(l:List c') (c:bb),dK c (l++[p])=((eN (dK c l).1 p).1,(dK c l).2++[(eN (dK c l).1 p).2])
 | [],c=>rfl
 | q::l,c=>by
  have d':=RQ p l (eN c q).1;simp only[List.cons_append,dK,d']
theorem RR{l:List c'}{i:Nat}{p:c'}(c:bb)(h:l[i]?=some p):dK c (l.take (i+1))=((eN (dK c (l.take i)).1 p).1,(dK c (l.take i)).2++[(eN (dK c (l.take i)).1 p).2]):=by
 rw[rS,h,Ao,RQ]
theorem J2:∀(l:List c') (c:bb),(dK c l).2.length=l.length
 | [],_=>rfl
 | q::l,c=>by simp only[dK,gP,J2 l]
theorem C5:∀(l:List c') (c:bb),(dK c l).1.sz<=c.sz+4*l.length
 | [],c=>ht _
 | q::l,c=>by
  have:=C5 l (eN c q).1;have:=QQ c q;simp only[dK,gP];omega
theorem ly.trans{d e:bb}(h:ly c d)(k:ly d e):ly c e:=⟨k.aG.trans h.aG,fun x=>k.dd (h.dd x),k.td.trans h.td⟩
theorem J3:∀(l:List c') (c:bb),ly c (dK c l).1
 | [],_=>.rfl
 | q::l,c=>(agp c q).trans (J3 l _)
theorem J4{α:Type}(i:Nat)(l:List α):(l.take i).length<=l.length:=by rw[qm];omega
theorem RS(c:bb)(l:List c')(i:Nat):(dK c (l.take i)).1.sz<=c.sz+4*l.length:=by
 have:=C5 (l.take i) c;have:=J4 i l;omega
def r5(l:List Bool):Nat:=(l.filter id).length
theorem agq(l:List Bool):r5 l<=l.length:=rO _ _
theorem agr(l:List Bool)(b:Bool):r5 (l++[b])=r5 l+(if b then 1 else 0):=by
 cases b<;>simp[r5]
end Go.Proofs.YthfnndblgbjniaaGreatDoor
namespace Go.Proofs.YthfnndblgbjniaaGreatDoor
open Go.Sx Go.RowKit Go.Proofs.Tryz
def yX(w:Nat):List c':=[⟨1,w,0⟩,⟨3,w,0⟩,⟨2,w,0⟩,⟨7,w,0⟩]
def rL(a b:Nat):List c':=if a=b then [] else [⟨4,a,b⟩,⟨5,a,b⟩]
def rB(n:Nat):List c':=(List.range n).flatMap yX
def rC(a n:Nat):List c':=(List.range n).flatMap (rL a)
def rD(m n:Nat):List c':=(List.range n).flatMap fun a=>rC a m
def oneOf(e:Nat):List c':=[⟨6,e,0⟩]
def uA(n:Nat):List c':=(List.range n).flatMap oneOf
def mR(c:bb):List c':=rB (hl c.aG.aB 0 4).toNat++rD (hl c.aG.aB 0 4).toNat (hl c.aG.aB 0 4).toNat++uA 4
theorem ags(n:Nat):rB (n+1)=rB n++yX n:=by simp[rB,List.range_succ]
theorem agt(a n:Nat):rC a (n+1)=rC a n++rL a n:=by simp[rC,List.range_succ]
theorem agu(m n:Nat):rD m (n+1)=rD m n++rC n m:=by simp[rD,List.range_succ]
theorem agv(n:Nat):uA (n+1)=uA n++[⟨6,n,0⟩]:=by simp[uA,List.range_succ,oneOf]
theorem J5(n:Nat):(rB n).length<=n*4:=by
 have h:=wJ yX 4 (fun _=>by simp[yX]) (List.range n);rwa[xc]at h
theorem RT(a n:Nat):(rC a n).length<=n*2:=by
 have h:=wJ (rL a) 2 (fun b=>by unfold rL;split<;>simp) (List.range n);rwa[xc]at h
theorem J6(m n:Nat):(rD m n).length<=n*(m*2):=by
 have h:=wJ (fun a=>rC a m) (m*2) (fun a=>RT a m) (List.range n);rwa[xc]at h
theorem RU(n:Nat):(uA n).length<=n*1:=by
 have h:=wJ oneOf 1 (fun _=>by simp[oneOf]) (List.range n);rwa[xc]at h
theorem RV(n:Int):∃k:Nat,hl n 0 4=k/\k<=4:=by
 refine⟨(hl n 0 4).toNat,?_,?_⟩<;>(unfold hl;simp only[show ¬(4:Int)<0 by omega,mY];split<;>(try split)<;>omega)
theorem GG(a b:Nat)(ai:a<=4)(aw:b<=4):a*(b*2)<=32:=by
 have:=Nat.mul_le_mul ai (gN 2 aw);omega
theorem RW(c:bb):(mR c).length<=100:=by
 obtain⟨k,bc,aO⟩:=RV c.aG.aB;unfold mR;rw[bc];have a:=J5 k;have b:=J6 k k;have e:=RU 4;have m:=GG k k aO aO;simp only[ku,po];omega
theorem RX(c:bb):ax 31 [.agg c.e] [.one (.J 3 ((mR c).map c'.e))]:=by
 have b:=Ch c.aG.aB 0 4;obtain⟨k,bc,aO⟩:=RV c.aG.aB;unfold mR;rw[bc]at b ⊢;have atr:=J5 k;have ats:=J6 k k;have m:=GG k k aO aO;have fk:=eu (P:=prog) (c:=(aq f31 0)) (cI 0) k (fun i:Nat=>yw k i ((rB i).map c'.e)) (fun i hi=>by
  have U:=J5 i;rw[ags,gy];exact amc ⟨dV (by omega),by simp;omega,by simp;omega,dD c'.e c'.flat (yX i),⟨by omega,by omega⟩,ad⟩) (amd ⟨eC (by omega),ad⟩)
 have yd:=fun (a:Nat) (ai:a<k)=>eu (P:=prog) (c:=(aq f31 2)) (cI 4) k (fun i:Nat=>uW k a i ((rB k++rD k a++rC a i).map c'.e)) (fun i hi=>by
  have U:=RT a i;have aa:=J6 k a;have aA:=GG a k (by omega) aO;rw[agt,<-rR,gy (l₂:=rL a i)];by_cases hL:a=i
  ·have e:(rL a i).map c'.e=[]:=by simp[rL,hL]
   rw[e,kt];exact alo ⟨dV (by omega),by simp[hL],⟨by omega,by omega⟩,ad⟩
  have e:(rL a i).map c'.e=[[I 4,I a,I i],[I 5,I a,I i]]:=by simp[rL,hL,c'.e]
  rw[e];have b7:Flat [[I 4,I a,I i],[I 5,I a,I i]]:=by rw[<-e];exact dD c'.e c'.flat _
  exact aln ⟨dV (by omega),by simp;omega,by simp;omega,by simp;omega,b7,⟨by omega,by omega⟩,ad⟩) (alp ⟨eC (by omega),ad⟩)
 have kI:=eu (P:=prog) (c:=(aq f31 1)) (cI 2) k (fun i:Nat=>y9 k i ((rB k++rD k i).map c'.e)) (fun i hi=>by
  have h:=yd i hi;rw[agu,<-rR];simp only[rC,LL,LK,kt]at h;exact alq ⟨dV (by omega),h,⟨by omega,by omega⟩,ad⟩) (alr ⟨eC (by omega),ad⟩)
 have Nb:=eu (P:=prog) (c:=(aq f31 3)) (cI 6) 4 (fun i:Nat=>y' i ((rB k++rD k k++uA i).map c'.e)) (fun i hi=>by
  have U:=RU i;rw[agv,<-rR,gy (l₂:=[_])];exact als ⟨dV (by omega),by simp;omega,by simp;omega,dD c'.e c'.flat [⟨6,i,0⟩],⟨by omega,by omega⟩,ad⟩) (alu ⟨eC (by omega),ad⟩)
 simp only[rD,LL,LK,kt]at kI;simp only[uA,LL,LK,kt]at Nb;rw[po];exact alv ⟨b,fk,kI,Nb,ad⟩
