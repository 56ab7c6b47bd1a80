import Derived.Test.YtdchjefneblpgaaGreatP42
import Derived.Test.YtdchjefneblpgaaGreatGW
import Derived.Test.YtdchjefneblpgaaGreatGX
set_option linter.unusedVariables false
set_option linter.unusedSimpArgs false
namespace Go.Proofs.YtdchjefneblpgaaGreat
open Go.Sx Go.RowKit Go.Proofs.Tryz
theorem agR{g:bR}{op:Int}{x:Node}(h:fF g op=some x):0<=op/\op<(↑(g.nodes.map Node.e).length:Int)/\(g.nodes.map Node.e)[op.toNat]?=some x.e:=by
 unfold fF at h;split at h
 ·have:=a1 h;exact⟨‹_›,by rw[cf];omega,bC Node.e h⟩
 cases h
theorem agS(g:bR)(r:aB)(av:g.sz<=8388608):ar 265 [.agg g.e,.agg r.e] [.one (B (dm g r))]:=by
 have k:=w9 g av;have gL:=uP r;have Hi:=Ka r.bp;cases h1:dY g with
 | false=>
  rw[h1]at k;rw[show dm g r=false by unfold dm;split<;>simp[jn,h1]];exact abI ⟨k,rfl,aa⟩
 | true=>
 rw[h1]at k;cases U:eR r with
 | false=>
  rw[U]at gL;rw[show dm g r=false by unfold dm;split<;>simp[jn,U]];exact abJ ⟨k,rfl,gL,rfl,aa⟩
 | true=>
 rw[U]at gL;cases ax:fF g r.op with
 | none=>
  rw[show dm g r=false by unfold dm;rw[ax]];exact abK ⟨k,rfl,gL,rfl,w6 g r.op false (by rw[ax];rfl) av,rfl,aa⟩
 | some x=>
  obtain⟨m1,m2,m3⟩:=agR ax;have Hf:=w6 g r.op true (by rw[ax];rfl) av;rw[show dm g r=jn g r x by unfold dm;rw[ax]];cases aI:(x.kind==7) with
  | false=>
   rw[show jn g r x=false by simp[jn,aI]];exact abN ⟨k,rfl,gL,rfl,Hf,rfl,m1,m2,m3,Hi,aI,aa⟩
  | true=>
  by_cases aX:0<x.outs.length
  ·rw[show jn g r x=!(eI r.bp).2 by simp[jn,h1,U,aI,aX]];exact abL ⟨k,rfl,gL,rfl,Hf,rfl,m1,m2,m3,Hi,aI,dM (by rw[cf];omega),aa⟩
  rw[show jn g r x=false by simp[jn,aX]];exact abM ⟨k,rfl,gL,rfl,Hf,rfl,m1,m2,m3,Hi,aI,eL (by rw[cf];omega),aa⟩
end Go.Proofs.YtdchjefneblpgaaGreat
namespace Go.Proofs.YtdchjefneblpgaaGreat
open Go.Sx Go.RowKit Go.Proofs.Tryz
section
variable {xs : List aB} {r : aB} {t : List aB}
theorem tt(h:xs=r::t):((xs.map aB.e).drop 1).take ((xs.map aB.e).length-1)=t.map aB.e:=by subst h;exact xr (by simp)
theorem kF(h:xs=r::t):(0:Int)<(↑(xs.map aB.e).length:Int):=by subst h;simp only[cf,gP];omega
theorem mm(h:xs=r::t):(xs.map aB.e)[0]?=some r.e:=by subst h;rfl
theorem l7(h:xs=r::t):((↑(xs.map aB.e).length:Int)==0)=false:=by
 have:=kF h;rw[AY,kL,hP];omega
theorem rB(h:xs=[]):((↑(xs.map aB.e).length:Int)==0)=true:=by subst h;rfl
theorem rG(h:xs=r::t):decide ((↑(xs.map aB.e).length:Int)>0)=true:=dM (kF h)
theorem h3(h:xs=[]):decide ((↑(xs.map aB.e).length:Int)>0)=false:=by subst h;rfl
theorem mE:(0:Int)<=(some (1:Int)).getD 0:=by decide
theorem mF(h:xs=r::t):(some (1:Int)).getD 0<=(none:Option Int).getD (↑(xs.map aB.e).length:Int):=by
 have:=kF h;simp only[jM,Option.getD_none];omega
theorem mG{l:List (List D)}:(none:Option Int).getD (↑l.length:Int)<=(↑l.length:Int):=by simp
theorem qz(h:xs=r::t)(ap:xs.length<=8388608):(([]:List (List D)).length+(((xs.map aB.e).drop 1).take ((xs.map aB.e).length-1)).length)*40<=140737488355328:=by
 rw[tt h];refine nl ?_;subst h;simp only[cf,gP]at *;omega
theorem qA(h:xs=r::t)(ap:xs.length<=8388608):([]:List (List D)).length+(((xs.map aB.e).drop 1).take ((xs.map aB.e).length-1)).length<=9223372036854775807:=by
 rw[tt h];refine jk ?_;subst h;simp only[cf,gP]at *;omega
theorem qB(h:xs=r::t):Flat (((xs.map aB.e).drop 1).take ((xs.map aB.e).length-1)):=by rw[tt h];exact dA _ aB.flat _
theorem r2(h:xs=r::t):([]:List (List D))++((xs.map aB.e).drop 1).take ((xs.map aB.e).length-1)=t.map aB.e:=tt h
end
theorem wu{xs:List aB}{a:List D}(h:xs.length<=8388608):((xs.map aB.e).length+[a].length)*40<=140737488355328:=by simp;omega
theorem wv{xs:List aB}{a:List D}(h:xs.length<=8388608):(xs.map aB.e).length+[a].length<=9223372036854775807:=by simp;omega
theorem agT(a:Int)(q:List aB)(r:aB)(b c d e:Int):bu.e ⟨a,q++[r],b,c,d,e⟩=[I a,.J 5 (q.map aB.e++[r.e]),I b,I c,I d,I e]:=by
 simp only[bu.e,gY];rfl
theorem Kh{l:bu}(h:iR l=true):(0<=l.eO/\l.eO<=4)/\(0<=l.back/\l.back<=4)/\(0<=l.fg/\l.fg<=1000000000)/\(0<=l.dh/\l.dh<=1000000000)/\l.queue.length<=4:=by
 obtain⟨c4,b8,fs,pa,jj,mT,jD,n4⟩:=sU.1 h;simp only[aq,cU]at c4 b8 fs jj;omega
theorem Th(l:bu)(r:aB)(ap:l.sz<=8388608):ar 258 [.agg l.e,.agg r.e] [.agg (e8 l r).1.e,.one (B (e8 l r).2)]:=by
 have dL:=DH l ap;have k:=CD l ap;have gL:=rT r;have aK:l.queue.length<=8388608:=ap;cases h1:iR l with
 | false=>
  rw[h1]at k;rw[show e8 l r=(l,false) by unfold e8;simp[h1]];exact ag0 ⟨dL,k,rfl,aa⟩
 | true=>
 rw[h1]at k;cases U:eR r with
 | false=>
  rw[U]at gL;rw[show e8 l r=(l,false) by unfold e8;simp[U]];exact ag1 ⟨dL,k,rfl,gL,rfl,aa⟩
 | true=>
 rw[U]at gL;by_cases ax:l.eO=0
 ·rw[show e8 l r=(l,false) by unfold e8;simp[ax]];exact ag2 ⟨dL,k,rfl,gL,rfl,by rw[hP];exact ax,aa⟩
 have MG:(l.eO==0)=false:=by rw[AY,kL,hP];exact ax
 obtain⟨kt,lv,n',k0,mY⟩:=Kh h1;by_cases aI:l.fg<1000000000
 ·rw[show e8 l r=(⟨l.cap,l.queue++[r],l.eO-1,l.back,l.fg+1,l.dh⟩,true) by unfold e8;simp[h1,U,ax,aI]];dsimp only;rw[agT];exact ag4 ⟨dL,k,rfl,gL,rfl,MG,eL (by omega),wu aK,wv aK,fV (aB.flat r),⟨by omega,by omega⟩,⟨by omega,by omega⟩,aa⟩
 rw[show e8 l r=(l,false) by unfold e8;simp[aI]];dsimp only;exact ag3 ⟨dL,k,rfl,gL,rfl,MG,dM (by omega),aa⟩
theorem Ti(l:bu)(ap:l.sz<=8388608):ar 260 [.agg l.e] [.agg (ek l).1.e,.agg (ek l).2.1.e,.one (B (ek l).2.2)]:=by
 have dL:=DH l ap;have k:=CD l ap;have aK:l.queue.length<=8388608:=ap;cases h1:iR l with
 | false=>
  rw[h1]at k;rw[show ek l=(l,DR,false) by unfold ek;simp[h1]];exact ag5 ⟨dL,k,rfl,aa⟩
 | true=>
 rw[h1]at k;cases U:l.queue with
 | nil=>
  rw[show ek l=(l,DR,false) by unfold ek;rw[bM h1];simp only[U]];exact ag6 ⟨dL,k,rfl,rB U,aa⟩
 | cons r q=>
  obtain⟨kt,lv,n',k0,mY⟩:=Kh h1;rw[show ek l=(⟨l.cap,q,l.eO,l.back+1,l.fg,l.dh+1⟩,r,true) by unfold ek;rw[bM h1];simp only[U]];have e:bu.e ⟨l.cap,q,l.eO,l.back+1,l.fg,l.dh+1⟩=[I l.cap,.J 5 (((l.queue.map aB.e).drop 1).take ((l.queue.map aB.e).length-1)),I l.eO,I (l.back+1),I l.fg,I (l.dh+1)]:=by rw[tt U];rfl
  dsimp only;rw[e];exact ag7 ⟨dL,k,rfl,l7 U,by omega,kF U,mm U,mE,mF U,mG,qz U aK,qA U aK,qB U,⟨by omega,by omega⟩,⟨by omega,by omega⟩,aa⟩
theorem Tj(l:bu)(ap:l.sz<=8388608):ar 261 [.agg l.e] [.agg (fX l).1.e,.one (B (fX l).2)]:=by
 have dL:=DH l ap;have k:=CD l ap;cases h1:iR l with
 | false=>
  rw[h1]at k;rw[show fX l=(l,false) by unfold fX;simp[h1]];exact afY ⟨dL,k,rfl,aa⟩
 | true=>
 rw[h1]at k;by_cases ax:l.back=0
 ·rw[show fX l=(l,false) by unfold fX;simp[ax]];exact afp ⟨dL,k,rfl,by rw[hP];exact ax,aa⟩
 obtain⟨kt,lv,n',k0,mY⟩:=Kh h1;rw[show fX l=(⟨l.cap,l.queue,l.eO+1,l.back-1,l.fg,l.dh⟩,true) by unfold fX;simp[h1,ax]];exact afq ⟨dL,k,rfl,by rw[AY,kL,hP];exact ax,⟨by omega,by omega⟩,⟨by omega,by omega⟩,aa⟩
theorem agU{n a b:Int}(a8:1<=n/\n<=4)(ag:aq a 0 (n-1)=true)(aw:aq b 0 (n-1)=true):aJ .i64 (a*n)/\aJ .i64 (a*n+b):=by
 simp only[aq,cU]at ag aw;have BO:n=1\/n=2\/n=3\/n=4:=by omega
 rcases BO with rfl | rfl | rfl | rfl<;>exact⟨⟨by omega,by omega⟩,⟨by omega,by omega⟩⟩
theorem Ki{n:Int}(h:aJ .i64 n):IntKind.i64.wrap n=n:=by
 obtain⟨h1,U⟩:=h;simp only[IntKind.wrap_i64];omega
theorem Tk(g:bR)(a b:Int):∃v,ar 61 [.agg g.e,.one (I a),.one (I b)] [.one (I v)]:=by
 cases ag:aq a 0 (IntKind.i64.wrap (g.ay-1)) with
 | false=>exact⟨_,S' ⟨fk _ ag,rfl,aa⟩⟩
 | true=>
 cases aw:aq b 0 (IntKind.i64.wrap (g.ay-1)) with
 | false=>exact⟨_,Ta ⟨fk _ ag,rfl,fk _ aw,rfl,aa⟩⟩
 | true=>
 by_cases a8:g.ay<1
 ·exact⟨_,afv ⟨fk _ ag,rfl,fk _ aw,rfl,dM a8,aa⟩⟩
 exact⟨_,Tb ⟨fk _ ag,rfl,fk _ aw,rfl,eL a8,aa⟩⟩
theorem Kj(g:bR)(a b:Int)(a8:1<=g.ay/\g.ay<=4):ar 61 [.agg g.e,.one (I a),.one (I b)] [.one (I (e9 g a b))]:=by
 have i1:IntKind.i64.wrap (g.ay-1)=g.ay-1:=Ki ⟨by omega,by omega⟩;have yI:∀(x:Int) (r:Bool),aq x 0 (g.ay-1)=r->ar 168 [.one (I x),.one (I 0),.one (I (IntKind.i64.wrap (g.ay-1)))] [.one (B r)]:=fun x r h=>by
  rw[i1];exact fk _ h
 cases ag:aq a 0 (g.ay-1) with
 | false=>
  rw[zY (by rw[ag];rfl)];exact S' ⟨yI _ _ ag,rfl,aa⟩
 | true=>
 cases aw:aq b 0 (g.ay-1) with
 | false=>
  rw[zY (by rw[ag,aw];rfl)];exact Ta ⟨yI _ _ ag,rfl,yI _ _ aw,rfl,aa⟩
 | true=>
  obtain⟨uz,sG⟩:=agU a8 ag aw;have key:ar 61 [.agg g.e,.one (I a),.one (I b)] [.one (I (IntKind.i64.wrap (IntKind.i64.wrap (a*g.ay)+b)))]:=Tb ⟨yI a true ag,rfl,yI b true aw,rfl,eL (by omega),aa⟩;rw[Ki uz,Ki sG]at key;rw[(JK a8 ag aw).1];exact key
theorem Kk(w:aR)(r:aB):(kept w r).e=[.J 5 (w.queue.map aB.e++[r.e]),.J 5 (w.ch.map aB.e),.J 5 (w.b3.map aB.e),.J 4 (w.cells.map Cell.e),.J 1 (w.bF.map a6),.J 1 (w.bO.map cq),.J 1 (w.br.map cq),.J 2 (w.bZ.map cw.e)]:=by
 simp only[kept,aR.e,gY];rfl
theorem agV(w:aR)(r:aB):(h6 w r).e=[.J 5 (w.queue.map aB.e++[r.e]),.J 5 (w.ch.map aB.e),.J 5 (w.b3.map aB.e),.J 4 (w.cells.map Cell.e),.J 1 ((w.bF.map a6).set r.bp.bc.toNat [I (w.bF.getD r.bp.bc.toNat 0-1)]),.J 1 ((w.bO.map cq).set r.bp.bc.toNat [B true]),.J 1 (w.br.map cq),.J 2 (w.bZ.map cw.e)]:=by
 simp only[h6,lr,aR.e,gY,ju];rfl
theorem agW(w:aR)(e:Int):(ml w e).e=[.J 5 (w.queue.map aB.e),.J 5 (w.ch.map aB.e),.J 5 (w.b3.map aB.e),.J 4 (w.cells.map Cell.e),.J 1 ((w.bF.map a6).set e.toNat [I (w.bF.getD e.toNat 0+1)]),.J 1 (w.bO.map cq),.J 1 (w.br.map cq),.J 2 (w.bZ.map cw.e)]:=by
 simp only[ml,lr,aR.e,ju];rfl
theorem agX(g:bR)(w:aR)(av:g.sz<=8388608)(hw:w.sz<=8388608):ar 169 [.agg g.e,.agg w.e] [.agg (ec g w).1.e,.one (B (ec g w).2)]:=by
 have dL:=Ji w hw;have k:=w9 g av;have kw:=Dx g w av hw;have oU:w.cells.length<=8388608:=by simp only[aR.sz]at hw;omega
 cases h1:dY g with
 | false=>
  rw[h1]at k;rw[show ec g w=(w,false) by unfold ec;simp[h1]];exact afR ⟨dL,k,rfl,aa⟩
 | true=>
 rw[h1]at k;cases U:et g w with
 | false=>
  rw[U]at kw;rw[show ec g w=(w,false) by unfold ec;simp[U]];exact afS ⟨dL,k,rfl,kw,rfl,aa⟩
 | true=>
 rw[U]at kw;have hu:ec g w=match w.ch,w.queue with
  | [],r::q=>(⟨q,(dv g w.cells r).2.1,w.b3,(dv g w.cells r).1,w.bF,w.bO,(if dm g r then w.br.set r.bp.bc.toNat true else w.br),w.bZ⟩,true)
  | _,_=>(w,false):=by unfold ec;rw[h1,U];rfl
 cases ax:w.ch with
 | cons r q=>
  rw[show ec g w=(w,false) by rw[hu,ax]];exact afT ⟨dL,k,rfl,kw,rfl,rG ax,aa⟩
 | nil=>
 cases aI:w.queue with
 | nil=>
  rw[show ec g w=(w,false) by rw[hu,ax,aI]];exact afU ⟨dL,k,rfl,kw,rfl,h3 ax,rB aI,aa⟩
 | cons r q=>
  have st:=abj g w.cells r av oU;have lT:=agS g r av;obtain⟨c4,_,_,_,_,_,jD,_⟩:=iz.1 U;rw[aI,rV]at c4;have he:=rW c4.1;obtain⟨c1,c2⟩:=tX jD he;cases aX:dm g r with
  | true=>
   rw[aX]at lT;rw[show ec g w=(⟨q,(dv g w.cells r).2.1,w.b3,(dv g w.cells r).1,w.bF,w.bO,w.br.set r.bp.bc.toNat true,w.bZ⟩,true) by rw[hu,ax,aI];simp only[aX,gC]];have e:aR.e ⟨q,(dv g w.cells r).2.1,w.b3,(dv g w.cells r).1,w.bF,w.bO,w.br.set r.bp.bc.toNat true,w.bZ⟩=[.J 5 (((w.queue.map aB.e).drop 1).take ((w.queue.map aB.e).length-1)),.J 5 ((dv g w.cells r).2.1.map aB.e),.J 5 (w.b3.map aB.e),.J 4 ((dv g w.cells r).1.map Cell.e),.J 1 (w.bF.map a6),.J 1 (w.bO.map cq),.J 1 ((w.br.map cq).set r.bp.bc.toNat [B true]),.J 2 (w.bZ.map cw.e)]:=by
    rw[tt aI];simp only[aR.e,ju];rfl
   dsimp only;rw[e];exact afV ⟨dL,k,rfl,kw,rfl,h3 ax,l7 aI,by omega,kF aI,mm aI,mE,mF aI,mG,st,lT,rfl,he.1,c1,c2,aa⟩
  | false=>
   rw[aX]at lT;rw[show ec g w=(⟨q,(dv g w.cells r).2.1,w.b3,(dv g w.cells r).1,w.bF,w.bO,w.br,w.bZ⟩,true) by rw[hu,ax,aI];simp only[aX];rfl];have e:aR.e ⟨q,(dv g w.cells r).2.1,w.b3,(dv g w.cells r).1,w.bF,w.bO,w.br,w.bZ⟩=[.J 5 (((w.queue.map aB.e).drop 1).take ((w.queue.map aB.e).length-1)),.J 5 ((dv g w.cells r).2.1.map aB.e),.J 5 (w.b3.map aB.e),.J 4 ((dv g w.cells r).1.map Cell.e),.J 1 (w.bF.map a6),.J 1 (w.bO.map cq),.J 1 (w.br.map cq),.J 2 (w.bZ.map cw.e)]:=by
    rw[tt aI];rfl
   dsimp only;rw[e];exact afW ⟨dL,k,rfl,kw,rfl,h3 ax,l7 aI,by omega,kF aI,mm aI,mE,mF aI,mG,st,lT,rfl,aa⟩
theorem agY(g:bR)(w:aR)(av:g.sz<=8388608)(hw:w.sz<=8388608):ar 164 [.agg g.e,.agg w.e] [.agg (eo g w).1.e,.one (B (eo g w).2)]:=by
 have dL:=Ji w hw;have k:=w9 g av;have kw:=Dx g w av hw;have aK:w.queue.length<=8388608:=by simp only[aR.sz]at hw;omega
 cases h1:dY g with
 | false=>
  rw[h1]at k;rw[show eo g w=(w,false) by unfold eo;simp[h1]];exact afL ⟨dL,k,rfl,aa⟩
 | true=>
 rw[h1]at k;cases U:et g w with
 | false=>
  rw[U]at kw;rw[show eo g w=(w,false) by unfold eo;simp[U]];exact afM ⟨dL,k,rfl,kw,rfl,aa⟩
 | true=>
 rw[U]at kw;have hu:eo g w=match w.ch,w.queue,w.b3 with
  | [],[],r::t=>(⟨[r],[],t,w.cells,w.bF,w.bO,w.br,w.bZ⟩,true)
  | _,_,_=>(w,false):=by unfold eo;rw[h1,U];rfl
 cases ax:w.ch with
 | cons r q=>
  rw[show eo g w=(w,false) by rw[hu,ax]];exact afN ⟨dL,k,rfl,kw,rfl,rG ax,aa⟩
 | nil=>
 cases aI:w.queue with
 | cons r q=>
  rw[show eo g w=(w,false) by rw[hu,ax,aI]];exact afO ⟨dL,k,rfl,kw,rfl,h3 ax,rG aI,aa⟩
 | nil=>
 cases aX:w.b3 with
 | nil=>
  rw[show eo g w=(w,false) by rw[hu,ax,aI,aX]];exact afP ⟨dL,k,rfl,kw,rfl,h3 ax,h3 aI,rB aX,aa⟩
 | cons r t=>
  rw[show eo g w=(⟨[r],[],t,w.cells,w.bF,w.bO,w.br,w.bZ⟩,true) by rw[hu,ax,aI,aX]];have e:aR.e ⟨[r],[],t,w.cells,w.bF,w.bO,w.br,w.bZ⟩=[.J 5 (w.queue.map aB.e++[r.e]),.J 5 (w.ch.map aB.e),.J 5 (((w.b3.map aB.e).drop 1).take ((w.b3.map aB.e).length-1)),.J 4 (w.cells.map Cell.e),.J 1 (w.bF.map a6),.J 1 (w.bO.map cq),.J 1 (w.br.map cq),.J 2 (w.bZ.map cw.e)]:=by
   rw[tt aX,aI,ax];rfl
  dsimp only;rw[e];exact afQ ⟨dL,k,rfl,kw,rfl,h3 ax,h3 aI,l7 aX,by omega,kF aX,mm aX,wu aK,wv aK,fV (aB.flat r),mE,mF aX,mG,aa⟩
end Go.Proofs.YtdchjefneblpgaaGreat
namespace Go.Proofs.YtdchjefneblpgaaGreat
open Go.Sx Go.RowKit Go.Proofs.Tryz
variable{c:bb}{w:Int}
theorem Tl(h:cZ c w=none):aq w 0 ((↑(c.ay.map aR.e).length:Int)-1)=false:=by
 grind[cZ,aq,cf,mu]
variable{x:aR}
theorem Kl(h:cZ c w=some x):aq w 0 ((↑(c.ay.map aR.e).length:Int)-1)=true:=by
 obtain⟨h1,U,_⟩:=jJ h;simp only[aq,cf,cU];omega
theorem Km{i:Int}{x:bu}(h:gM c i=some x):0<=i/\i<(↑(c.bV.map bu.e).length:Int)/\(c.bV.map bu.e)[i.toNat]?=some x.e:=by
 obtain⟨h1,U,ax⟩:=qp h;grind
theorem Kn{i:Int}{x:bu}(h:gM c i=some x)(al:c.sz<=8388608):x.sz<=8388608:=bb.G' al (eA (qp h).2.2)
theorem D1(al:c.sz<=8388608):aJ .i64 ((↑(c.ay.map aR.e).length:Int)-1):=by
 have:=bb.Al al;exact⟨by grind,by grind⟩
theorem Su(c:bb)(w:Int)(y:aR):(setW c w y).e=[.J 4 (c.aC.nodes.map Node.e),I c.aC.ay,I c.aC.cap,.J 8 ((c.ay.map aR.e).set w.toNat y.e),.J 6 (c.bV.map bu.e),.J 5 (c.tokens.map bW.e),.J 3 (c.news.map b7.e)]:=by grind[setW,bb.e,ju]
theorem zw(c:bb)(w:Int)(y:aR)(b:Bool):k8 (setW c w y) b=[.J 4 (c.aC.nodes.map Node.e),I c.aC.ay,I c.aC.cap,.J 8 ((c.ay.map aR.e).set w.toNat y.e),.J 6 (c.bV.map bu.e),.J 5 (c.tokens.map bW.e),.J 3 (c.news.map b7.e),B b]:=by grind[setW,k8,ju]
theorem Sv(c:bb)(i:Int)(y:bu)(b:Bool):k8 (dS c i y) b=[.J 4 (c.aC.nodes.map Node.e),I c.aC.ay,I c.aC.cap,.J 8 (c.ay.map aR.e),.J 6 ((c.bV.map bu.e).set i.toNat y.e),.J 5 (c.tokens.map bW.e),.J 3 (c.news.map b7.e),B b]:=by grind[dS,k8,ju]
theorem Ko(c:bb)(w i:Int)(y:aR)(z:bu)(b:Bool):k8 (setW (dS c i z) w y) b=[.J 4 (c.aC.nodes.map Node.e),I c.aC.ay,I c.aC.cap,.J 8 ((c.ay.map aR.e).set w.toNat y.e),.J 6 ((c.bV.map bu.e).set i.toNat z.e),.J 5 (c.tokens.map bW.e),.J 3 (c.news.map b7.e),B b]:=by grind[setW,dS,k8,ju]
theorem Sw(c:bb)(w:Int)(al:c.sz<=8388608)(hw:gb c):ar 145 [.agg c.e,.one (I w)] [.one (B (cM c&&(cZ c w).isSome))]:=by
 have k:=ac2 c al hw;cases ok:cM c with
 | false=>rw[ok]at k;exact afX ⟨k,rfl,aa⟩
 | true=>
  rw[ok]at k;cases ak:cZ c w with
  | none=>exact S8 ⟨k,rfl,D1 al,h4 _ (Tl ak),aa⟩
  | some x=>exact S8 ⟨k,rfl,D1 al,h4 _ (Kl ak),aa⟩
theorem agZ(c:bb)(w:Int)(al:c.sz<=8388608)(hw:gb c):ar 44 [.agg c.e,.one (I w)] [.agg (ft c w).1.e,.one (B (ft c w).2)]:=by
 have dL:=RP c al;have k:=Sw c w al hw;cases ok:cM c with
 | false=>
  rw[ok]at k;rw[show ft c w=(c,false) by grind[ft]];exact S7 ⟨dL,k,rfl,aa⟩
 | true=>
 cases ak:cZ c w with
 | none=>
  rw[ok,ak]at k;rw[show ft c w=(c,false) by grind[ft]];exact S7 ⟨dL,k,rfl,aa⟩
 | some x=>
  rw[ok,ak]at k;obtain⟨dw,dI,dH⟩:=nv ak;rw[show ft c w=(setW c w (ec c.aC x).1,(ec c.aC x).2) by grind[ft]];dsimp only;rw[Su];exact afK ⟨dL,k,rfl,dw,dI,dH,agX c.aC x (bb.ln al) (qy ak al),dw,dI,dH,aa⟩
theorem Sy(c:bb)(w:Int)(al:c.sz<=8388608)(hw:gb c):ar 36 [.agg c.e,.one (I w)] [.agg (gV c w).1.e,.one (B (gV c w).2)]:=by
 have dL:=RP c al;have k:=Sw c w al hw;cases ok:cM c with
 | false=>
  rw[ok]at k;rw[show gV c w=(c,false) by grind[gV]];exact S6 ⟨dL,k,rfl,aa⟩
 | true=>
 cases ak:cZ c w with
 | none=>
  rw[ok,ak]at k;rw[show gV c w=(c,false) by grind[gV]];exact S6 ⟨dL,k,rfl,aa⟩
 | some x=>
  rw[ok,ak]at k;obtain⟨dw,dI,dH⟩:=nv ak;rw[show gV c w=(setW c w (eo c.aC x).1,(eo c.aC x).2) by grind[gV]];dsimp only;rw[Su];exact afJ ⟨dL,k,rfl,dw,dI,dH,agY c.aC x (bb.ln al) (qy ak al),dw,dI,dH,aa⟩
theorem Sz(ok:cM c=true)(ak:cZ c w=some x):x.bF.length=4/\x.bO.length=4/\x.br.length=4/\(∀e:Int,0<=e/\e<=3->-1000000<=x.bF.getD e.toNat 0/\x.bF.getD e.toNat 0<=1000000):=by
 obtain⟨_,_,_,_,jj,mT,jD,_,ry,_⟩:=iz.1 (lB ok ak);refine⟨jj,mT,jD,fun e he=>?_⟩;have ap:e.toNat<x.bF.length:=by omega
 rw[hg]at ry;have:=ry _ (qM ap);rw[jZ,iZ ap,jM];simpa only[mj,h8,kg,aq,cU,tJ,Bool.not_not,Bool.not_eq_eq_eq_not,iY,mu,Classical.not_not]using this
variable{r:aB}{t:List aB}
theorem agq(ok:cM c=true)(ak:cZ c w=some x)(ai:x.ch=r::t):ly c w=sQ c w x r t (jH r.key c.aC.ay):=by
 simp_all[ly,bM]
theorem agr{o:Int}(h:o=w):sQ c w x r t o=(setW c w (kept (jI x t) r),true):=bM h
variable{l:bu}
theorem ags{o:Int}(h:o≠w)(ap:gM c (e9 c.aC w o)=some l):sQ c w x r t o=if (e8 l r).2 then (setW (dS c (e9 c.aC w o) (e8 l r).1) w (ml (jI x t) r.bp.bc),true) else (c,false):=by
 simp_all[sQ,bG]
variable{a b:Int}
theorem SA(h:(aq a 0 (c.aC.ay-1)&&aq b 0 (c.aC.ay-1))=false):gM c (e9 c.aC a b)=none:=by
 rw[zY h];rfl
theorem agt(ok:cM c=true)(je:a≠b)(ap:gM c (e9 c.aC a b)=some l)(ak:cZ c b=some x):lz c a b=if (ek l).2.2 then (setW (dS c (e9 c.aC a b) (ek l).1) b (h6 x (ek l).2.1),true) else (c,false):=by
 simp_all[lz,bM]
theorem agu(ok:cM c=true)(je:a≠b)(ap:gM c (e9 c.aC a b)=some l):kD c a b=(dS c (e9 c.aC a b) (fX l).1,(fX l).2):=by
 simp_all[kD,bM]
theorem Kp(c:bb)(w:Int)(al:c.sz<=8388608):bT prog 257 [.ref (fb c) (fb c),.ro (.one (I w))] (.vals [.one (B (cM c&&(cZ c w).isSome))]):=by
 unfold fb;cases ok:cM c with
 | false=>exact ahg ⟨rfl,aa⟩
 | true=>
  cases ak:cZ c w with
  | none=>exact Td ⟨rfl,D1 al,fk _ (Tl ak),aa⟩
  | some x=>exact Td ⟨rfl,D1 al,fk _ (Kl ak),aa⟩
def DY(x:aR)(e d:Int):aR:=⟨x.queue,x.ch,x.b3,x.cells,lr x.bF e d,x.bO,x.br,x.bZ⟩
theorem SB(w:aR)(e d:Int):(DY w e d).e=[.J 5 (w.queue.map aB.e),.J 5 (w.ch.map aB.e),.J 5 (w.b3.map aB.e),.J 4 (w.cells.map Cell.e),.J 1 ((w.bF.map a6).set e.toNat [I (w.bF.getD e.toNat 0+d)]),.J 1 (w.bO.map cq),.J 1 (w.br.map cq),.J 2 (w.bZ.map cw.e)]:=by
 simp only[DY,lr,aR.e,ju];rfl
theorem SC(c:bb)(w e d:Int)(x:aR)(ak:cZ c w=some x)(aI:x.bF.length=4)(he:0<=e/\e<=3)(aG:-1<=d/\d<=1)(ai:-1000000<=x.bF.getD e.toNat 0/\x.bF.getD e.toNat 0<=1000000):
  bT prog 259 [.ref (k8 c true) (k8 (setW c w (DY x e d)) (aq (x.bF.getD e.toNat 0+d) (-1000000) 1000000)),.ro (.one (I w)),.ro (.one (I e)),.ro (.one (I d))] (.vals []):=by
 obtain⟨dw,dI,dH⟩:=nv ak;obtain⟨s1,s2⟩:=G3 aI he;rw[zw,SB];exact ahl ⟨dw,dI,dH,dw,dI,dH,he.1,s1,s2,⟨by omega,by omega⟩,he.1,s1,s2,dH,rfl,rfl,rfl,rfl,rfl,dw,by grind,q3 dw dI,he.1,by grind,q3 he.1 s1,hI _ _ _,aa⟩
theorem SD(c:bb)(w:Int)(al:c.sz<=8388608):bT prog 170 [.ref (fb c) (fb (ft c w).1),.ro (.one (I w))] (.vals [.one (B (ft c w).2)]):=by
 have post:=fun h=>acG (c:=c) (w:=w) h
 have is:=Kp c w al;cases ok:cM c with
 | false=>
  rw[ok]at is;rw[show ft c w=(c,false) by grind[ft]];exact Tf ⟨is,rfl,aa⟩
 | true=>
 replace post:=post ok;cases ak:cZ c w with
 | none=>
  rw[ok,ak]at is;rw[show ft c w=(c,false) by grind[ft]];exact Tf ⟨is,rfl,aa⟩
 | some x=>
 rw[ok,ak]at is;obtain⟨dw,dI,dH⟩:=nv ak;have dN:=qy ak al;have V2:=(iy.1 ok).1;have TR:=lB ok ak;have hu:ec c.aC x=match x.ch,x.queue with
  | [],r::q=>(⟨q,(dv c.aC x.cells r).2.1,x.b3,(dv c.aC x.cells r).1,x.bF,x.bO,(if dm c.aC r then x.br.set r.bp.bc.toNat true else x.br),x.bZ⟩,true)
  | _,_=>(x,false):=by grind[ec]
 have rF:ft c w=(setW c w (ec c.aC x).1,(ec c.aC x).2):=by grind[ft]
 cases ax:x.ch with
 | cons r q=>
  rw[rF,show ec c.aC x=(x,false) by rw[hu,ax]];dsimp only;rw[sS ak];exact agB ⟨is,rfl,dw,dI,dH,rG ax,aa⟩
 | nil=>
 cases aI:x.queue with
 | nil=>
  rw[rF,show ec c.aC x=(x,false) by grind];dsimp only;rw[sS ak];exact agC ⟨is,rfl,dw,dI,dH,h3 ax,rB aI,aa⟩
 | cons r q=>
  have oU:x.cells.length<=8388608:=by grind[aR.sz]
  have kX:x.queue.length<=8388608:=by grind[aR.sz]
  have av:=bb.ln al;have st:=R0 c.aC x.cells r av oU;have lT:=R1 c.aC r av;obtain⟨c4,_,_,_,_,_,jD,_⟩:=iz.1 TR;rw[aI,rV]at c4;have he:=rW c4.1;obtain⟨c1,c2⟩:=tX jD he;unfold fb at is ⊢;rw[post];rw[ok]at is ⊢;cases aX:dm c.aC r with
  | true=>
   rw[aX]at lT;rw[rF,show ec c.aC x=(⟨q,(dv c.aC x.cells r).2.1,x.b3,(dv c.aC x.cells r).1,x.bF,x.bO,x.br.set r.bp.bc.toNat true,x.bZ⟩,true) by grind];have e:aR.e ⟨q,(dv c.aC x.cells r).2.1,x.b3,(dv c.aC x.cells r).1,x.bF,x.bO,x.br.set r.bp.bc.toNat true,x.bZ⟩=[.J 5 ([]++((x.queue.map aB.e).drop 1).take ((x.queue.map aB.e).length-1)),.J 5 ((dv c.aC x.cells r).2.1.map aB.e),.J 5 (x.b3.map aB.e),.J 4 ((dv c.aC x.cells r).1.map Cell.e),.J 1 (x.bF.map a6),.J 1 (x.bO.map cq),.J 1 ((x.br.map cq).set r.bp.bc.toNat [B true]),.J 2 (x.bZ.map cw.e)]:=by
    rw[r2 aI];simp only[aR.e,ju];rfl
   dsimp only;rw[zw,e];have key:=agD ⟨is,rfl,dw,dI,dH,h3 ax,l7 aI,by omega,kF aI,mm aI,st,mE,mF aI,mG,qz aI kX,qA aI kX,qB aI,lT,rfl,he.1,c1,c2,dH,rfl,rfl,rfl,rfl,dw,by grind,q3 dw dI,rfl,rfl,rfl,rfl,rfl,aa⟩;simp only[AZ]at key;exact key
  | false=>
   rw[aX]at lT;rw[rF,show ec c.aC x=(⟨q,(dv c.aC x.cells r).2.1,x.b3,(dv c.aC x.cells r).1,x.bF,x.bO,x.br,x.bZ⟩,true) by grind];have e:aR.e ⟨q,(dv c.aC x.cells r).2.1,x.b3,(dv c.aC x.cells r).1,x.bF,x.bO,x.br,x.bZ⟩=[.J 5 ([]++((x.queue.map aB.e).drop 1).take ((x.queue.map aB.e).length-1)),.J 5 ((dv c.aC x.cells r).2.1.map aB.e),.J 5 (x.b3.map aB.e),.J 4 ((dv c.aC x.cells r).1.map Cell.e),.J 1 (x.bF.map a6),.J 1 (x.bO.map cq),.J 1 (x.br.map cq),.J 2 (x.bZ.map cw.e)]:=by
    rw[r2 aI];rfl
   dsimp only;rw[zw,e];exact agE ⟨is,rfl,dw,dI,dH,h3 ax,l7 aI,by omega,kF aI,mm aI,st,mE,mF aI,mG,qz aI kX,qA aI kX,qB aI,lT,rfl,dw,dI,dH,rfl,rfl,rfl,rfl,rfl,aa⟩
theorem SE(c:bb)(w:Int)(al:c.sz<=8388608):bT prog 171 [.ref (fb c) (fb (gV c w).1),.ro (.one (I w))] (.vals [.one (B (gV c w).2)]):=by
 have post:=fun h=>acH (c:=c) (w:=w) h
 have is:=Kp c w al;cases ok:cM c with
 | false=>
  rw[ok]at is;rw[show gV c w=(c,false) by grind[gV]];exact Tc ⟨is,rfl,aa⟩
 | true=>
 replace post:=post ok;cases ak:cZ c w with
 | none=>
  rw[ok,ak]at is;rw[show gV c w=(c,false) by grind[gV]];exact Tc ⟨is,rfl,aa⟩
 | some x=>
 rw[ok,ak]at is;obtain⟨dw,dI,dH⟩:=nv ak;have dN:=qy ak al;have V2:=(iy.1 ok).1;have TR:=lB ok ak;have iK:x.b3.length<=8388608:=by grind[aR.sz]
 have hu:eo c.aC x=match x.ch,x.queue,x.b3 with
  | [],[],r::t=>(⟨[r],[],t,x.cells,x.bF,x.bO,x.br,x.bZ⟩,true)
  | _,_,_=>(x,false):=by grind[eo]
 have rF:gV c w=(setW c w (eo c.aC x).1,(eo c.aC x).2):=by grind[gV]
 cases ax:x.ch with
 | cons r q=>
  rw[rF,show eo c.aC x=(x,false) by rw[hu,ax]];dsimp only;rw[sS ak];exact ahc ⟨is,rfl,dw,dI,dH,rG ax,aa⟩
 | nil=>
 cases aI:x.queue with
 | cons r q=>
  rw[rF,show eo c.aC x=(x,false) by grind];dsimp only;rw[sS ak];exact ahd ⟨is,rfl,dw,dI,dH,h3 ax,rG aI,aa⟩
 | nil=>
 cases aX:x.b3 with
 | nil=>
  rw[rF,show eo c.aC x=(x,false) by grind];dsimp only;rw[sS ak];exact ahe ⟨is,rfl,dw,dI,dH,h3 ax,h3 aI,rB aX,aa⟩
 | cons r t=>
  unfold fb at is ⊢;rw[post];rw[ok]at is ⊢;rw[rF,show eo c.aC x=(⟨[r],[],t,x.cells,x.bF,x.bO,x.br,x.bZ⟩,true) by grind];have e:aR.e ⟨[r],[],t,x.cells,x.bF,x.bO,x.br,x.bZ⟩=[.J 5 ([r.e]),.J 5 (x.ch.map aB.e),.J 5 ([]++((x.b3.map aB.e).drop 1).take ((x.b3.map aB.e).length-1)),.J 4 (x.cells.map Cell.e),.J 1 (x.bF.map a6),.J 1 (x.bO.map cq),.J 1 (x.br.map cq),.J 2 (x.bZ.map cw.e)]:=by
   rw[r2 aX,ax];rfl
  dsimp only;rw[zw,e];exact ahf ⟨is,rfl,dw,dI,dH,h3 ax,h3 aI,l7 aX,by omega,kF aX,mm aX,mE,mF aX,mG,qz aX iK,qA aX iK,qB aX,dw,dI,dH,rfl,rfl,rfl,rfl,rfl,rfl,aa⟩
theorem agv(c:bb)(w:Int)(al:c.sz<=8388608):bT prog 151 [.ref (fb c) (fb (ly c w).1),.ro (.one (I w))] (.vals [.one (B (ly c w).2)]):=by
 have is:=Kp c w al;cases ok:cM c with
 | false=>
  rw[ok]at is;rw[show ly c w=(c,false) by grind[ly]];exact Te ⟨is,rfl,aa⟩
 | true=>
 cases ak:cZ c w with
 | none=>
  rw[ok,ak]at is;rw[show ly c w=(c,false) by grind[ly]];exact Te ⟨is,rfl,aa⟩
 | some x=>
 rw[ok,ak]at is;obtain⟨dw,dI,dH⟩:=nv ak;have dN:=qy ak al;have a8:=nu (iy.1 ok).1;cases ai:x.ch with
 | nil=>
  rw[show ly c w=(c,false) by simp_all[ly,bM]];exact ahh ⟨is,rfl,dw,dI,dH,rB ai,aa⟩
 | cons r t=>
  have uE:=QQ r.key c.aC.ay (by omega);have aH:=(JH (lB ok ak) ai).2;have he:=rW aH;have kX:x.queue.length<=8388608:=by grind[aR.sz]
  have n1:x.ch.length<=8388608:=by grind[aR.sz]
  obtain⟨f4,_,_,ew⟩:=Sz ok ak;rw[agq ok ak ai];have Hk:=acz r.key a8.1;generalize jH r.key c.aC.ay=o at uE Hk;by_cases how:o=w
  ·have ug:(o != w)=false:=by simp[how]
   rw[agr how];unfold fb at is ⊢;dsimp only;rw[acE ok ak ai];rw[ok]at is ⊢;have e:(kept (jI x t) r).e=[.J 5 (x.queue.map aB.e++[r.e]),.J 5 ([]++((x.ch.map aB.e).drop 1).take ((x.ch.map aB.e).length-1)),.J 5 (x.b3.map aB.e),.J 4 (x.cells.map Cell.e),.J 1 (x.bF.map a6),.J 1 (x.bO.map cq),.J 1 (x.br.map cq),.J 2 (x.bZ.map cw.e)]:=by
    rw[r2 ai,Kk];rfl
   rw[zw,e];have key:=ahk ⟨is,rfl,dw,dI,dH,l7 ai,dw,dI,dH,by omega,kF ai,mm ai,uE,ug,dw,dI,dH,wu kX,wv kX,dH,rfl,fV (aB.flat r),rfl,rfl,rfl,rfl,rfl,rfl,rfl,rfl,rfl,rfl,rfl,rfl,rfl,dw,dI,dH,rfl,dw,by grind,q3 dw dI,mE,mF ai,mG,qz ai n1,qA ai n1,qB ai,dw,by grind,q3 dw dI,aa⟩;simp only[AZ]at key;exact key
  have ug:(o != w)=true:=by simp[how]
  have win:aq w 0 (c.aC.ay-1)=true:=by
   have:=Kl ak;rwa[cf,(iy.1 ok).2.1]at this
  obtain⟨l,ap⟩:=JL ok win Hk;obtain⟨qc,qd,qe⟩:=Km ap;have aV:=Kj c.aC w o a8;have k9:=Th l r (Kn ap al);have Yb:=fun h=>acD ok ak ai Hk how ap h
  rw[ags how ap];cases bx:(e8 l r).2 with
  | false=>
   rw[bx]at k9;exact ahi ⟨is,rfl,dw,dI,dH,l7 ai,dw,dI,dH,by omega,kF ai,mm ai,uE,ug,aV,qc,qd,qe,k9,rfl,aa⟩
  | true=>
   rw[bx]at k9;rw[bM rfl];unfold fb at is ⊢;dsimp only;rw[Yb bx];rw[ok]at is ⊢;have vv:=SC (dS c (e9 c.aC w o) (e8 l r).1) w r.bp.bc 1 x (zZ.trans ak) f4 he (by omega) (ew _ he);rw[Sv,Ko,SB]at vv;have e:(ml (jI x t) r.bp.bc).e=[.J 5 (x.queue.map aB.e),.J 5 ([]++((x.ch.map aB.e).drop 1).take ((x.ch.map aB.e).length-1)),.J 5 (x.b3.map aB.e),.J 4 (x.cells.map Cell.e),.J 1 ((x.bF.map a6).set r.bp.bc.toNat [I (x.bF.getD r.bp.bc.toNat 0+1)]),.J 1 (x.bO.map cq),.J 1 (x.br.map cq),.J 2 (x.bZ.map cw.e)]:=by
    rw[r2 ai,agW];rfl
   rw[Ko,e];have key:=ahj ⟨is,rfl,dw,dI,dH,l7 ai,dw,dI,dH,by omega,kF ai,mm ai,uE,ug,aV,qc,qd,qe,k9,rfl,qc,qd,qe,vv,dw,by grind,q3 dw dI,mE,mF ai,mG,qz ai n1,qA ai n1,qB ai,dw,by grind,q3 dw dI,aa⟩;simp only[AZ]at key;exact key
theorem agw(c:bb)(a b:Int)(al:c.sz<=8388608):bT prog 156 [.ref (fb c) (fb (lz c a b).1),.ro (.one (I a)),.ro (.one (I b))] (.vals [.one (B (lz c a b).2)]):=by
 cases ok:cM c with
 | false=>
  rw[show lz c a b=(c,false) by grind[lz]];obtain⟨v,aV⟩:=Tk c.aC a b;unfold fb;rw[ok];exact ahm ⟨aV,rfl,aa⟩
 | true=>
 have a8:=nu (iy.1 ok).1;have aV:=Kj c.aC a b a8;cases bH:(aq a 0 (c.aC.ay-1)&&aq b 0 (c.aC.ay-1)) with
 | false=>
  rw[zY bH]at aV;rw[show lz c a b=(c,false) by grind[lz,SA]];unfold fb;rw[ok];exact ahn ⟨aV,rfl,dM (by decide),aa⟩
 | true=>
 rw[cF]at bH;obtain⟨l,ap⟩:=JL ok bH.1 bH.2;obtain⟨qc,qd,qe⟩:=Km ap;by_cases je:a=b
 ·rw[show lz c a b=(c,false) by grind[lz]];unfold fb;rw[ok];exact aho ⟨aV,rfl,eL (by omega),by simp[je],aa⟩
 have ug:(a==b)=false:=by simp[je]
 obtain⟨x,ak⟩:∃x,cZ c b=some x:=by
  have aw:=bH.2;have:=(iy.1 ok).2.1;simp only[aq,cU]at aw;grind[DC]
 obtain⟨dw,dI,dH⟩:=nv ak;have dN:=qy ak al;have Aj:=Ti l (Kn ap al);have Ye:=fun h=>acF ok ap ak h
 rw[agt ok je ap ak];unfold fb;cases bx:(ek l).2.2 with
 | false=>
  rw[bx]at Aj;rw[bG (by decide)];dsimp only;rw[ok];exact ahp ⟨aV,rfl,eL (by omega),ug,qc,qd,qe,Aj,rfl,aa⟩
 | true=>
  rw[bx]at Aj;rw[bM rfl];dsimp only;rw[Ye bx,ok];have aH:=(JJ (zX ok ap) bx).2;have he:=rW aH;generalize (ek l).2.1=r at Aj aH he ⊢;obtain⟨f4,VV,_,ew⟩:=Sz ok ak;have kX:x.queue.length<=8388608:=by grind[aR.sz]
  obtain⟨gD,fQ⟩:=tX VV he;have ji:cZ (setW (dS c (e9 c.aC a b) (ek l).1) b ⟨x.queue++[r],x.ch,x.b3,x.cells,x.bF,x.bO.set r.bp.bc.toNat true,x.br,x.bZ⟩) b=some ⟨x.queue++[r],x.ch,x.b3,x.cells,x.bF,x.bO.set r.bp.bc.toNat true,x.br,x.bZ⟩:=by
   obtain⟨q1,l',_⟩:=jJ ak;simp_all[cZ,setW,dS,bM]
  have vv:=SC _ b r.bp.bc (-1) _ ji f4 he (by omega) (ew _ he);rw[Ko]at vv;have e2:aR.e ⟨x.queue++[r],x.ch,x.b3,x.cells,x.bF,x.bO.set r.bp.bc.toNat true,x.br,x.bZ⟩=[.J 5 (x.queue.map aB.e++[r.e]),.J 5 (x.ch.map aB.e),.J 5 (x.b3.map aB.e),.J 4 (x.cells.map Cell.e),.J 1 (x.bF.map a6),.J 1 ((x.bO.map cq).set r.bp.bc.toNat [B true]),.J 1 (x.br.map cq),.J 2 (x.bZ.map cw.e)]:=by
   simp only[aR.e,gY,ju];rfl
  rw[e2,<-AZ]at vv;rw[show setW (setW (dS c (e9 c.aC a b) (ek l).1) b ⟨x.queue++[r],x.ch,x.b3,x.cells,x.bF,x.bO.set r.bp.bc.toNat true,x.br,x.bZ⟩) b (DY ⟨x.queue++[r],x.ch,x.b3,x.cells,x.bF,x.bO.set r.bp.bc.toNat true,x.br,x.bZ⟩ r.bp.bc (-1))=setW (dS c (e9 c.aC a b) (ek l).1) b (h6 x r) by unfold setW dS;simp only[AZ];rfl]at vv;exact agA ⟨aV,rfl,eL (by omega),ug,qc,qd,qe,Aj,rfl,qc,qd,qe,dw,dI,dH,wu kX,wv kX,dH,rfl,fV (aB.flat r),rfl,rfl,rfl,rfl,rfl,rfl,rfl,dw,dI,dH,rfl,dw,by grind,q3 dw dI,he.1,gD,fQ,q3 dw dI,rfl,rfl,vv,aa⟩
theorem agx(c:bb)(a b:Int)(al:c.sz<=8388608):bT prog 158 [.ref (fb c) (fb (kD c a b).1),.ro (.one (I a)),.ro (.one (I b))] (.vals [.one (B (kD c a b).2)]):=by
 have post:=fun h=>acI (c:=c) (a:=a) (b:=b) h
 cases ok:cM c with
 | false=>
  rw[show kD c a b=(c,false) by grind[kD]];obtain⟨v,aV⟩:=Tk c.aC a b;unfold fb;rw[ok];exact ag8 ⟨aV,rfl,aa⟩
 | true=>
 replace post:=post ok;have a8:=nu (iy.1 ok).1;have aV:=Kj c.aC a b a8;unfold fb;rw[post,ok];cases bH:(aq a 0 (c.aC.ay-1)&&aq b 0 (c.aC.ay-1)) with
 | false=>
  rw[zY bH]at aV;rw[show kD c a b=(c,false) by grind[kD,SA]];exact ag9 ⟨aV,rfl,dM (by decide),aa⟩
 | true=>
 rw[cF]at bH;obtain⟨l,ap⟩:=JL ok bH.1 bH.2;obtain⟨qc,qd,qe⟩:=Km ap;by_cases je:a=b
 ·rw[show kD c a b=(c,false) by grind[kD]];exact aha ⟨aV,rfl,eL (by omega),by simp[je],aa⟩
 rw[agu ok je ap];dsimp only;rw[Sv];exact ahb ⟨aV,rfl,eL (by omega),by simp[je],qc,qd,qe,Tj l (Kn ap al),qc,qd,qe,aa⟩
theorem SF(c:bb)(p:c9)(al:c.sz<=8388608):bT prog 128 [.ref (fb c) (fb (eB c p).1),.ro (.agg p.e)] (.vals [.one (B (eB c p).2)]):=by
 by_cases h1:p.kind=1
 ·rw[show eB c p=ft c p.a by grind[eB]];exact agF ⟨by grind,SD c p.a al,aa⟩
 have kt:(p.kind==1)=false:=by grind
 by_cases U:p.kind=2
 ·rw[show eB c p=gV c p.a by grind[eB]];exact agG ⟨kt,by grind,SE c p.a al,aa⟩
 have lv:(p.kind==2)=false:=by grind
 by_cases ax:p.kind=3
 ·rw[show eB c p=ly c p.a by grind[eB]];exact agH ⟨kt,lv,by grind,agv c p.a al,aa⟩
 have n':(p.kind==3)=false:=by grind
 by_cases aI:p.kind=4
 ·rw[show eB c p=lz c p.a p.b by grind[eB]];exact agI ⟨kt,lv,n',by grind,agw c p.a p.b al,aa⟩
 have k0:(p.kind==4)=false:=by grind
 by_cases aX:p.kind=5
 ·rw[show eB c p=kD c p.a p.b by grind[eB]];exact agJ ⟨kt,lv,n',k0,by grind,agx c p.a p.b al,aa⟩
 have mY:(p.kind==5)=false:=by grind
 by_cases bx:p.kind=6
 ·rw[show eB c p=kE c p.a by grind[eB]];exact agK ⟨kt,lv,n',k0,mY,by grind,ad0 c p.a al,aa⟩
 have n6:(p.kind==6)=false:=by grind
 by_cases bN:p.kind=7
 ·rw[show eB c p=lA c p.a by grind[eB]];exact agL ⟨kt,lv,n',k0,mY,n6,by grind,acW c p.a al,aa⟩
 have n7:(p.kind==7)=false:=by grind
 rw[show eB c p=(c,false) by grind[eB]];exact agM ⟨kt,lv,n',k0,mY,n6,n7,aa⟩
end Go.Proofs.YtdchjefneblpgaaGreat
namespace Go.Proofs.YtdchjefneblpgaaGreat
open Go.Sx Go.RowKit Go.Proofs.Tryz
theorem SG(l:bu)(r:aB)(h:l.dh<=9223372036854775807):(e8 l r).1.dh<=9223372036854775807:=by
 unfold e8;split<;>exact h
theorem SH(l:bu)(h:l.dh<=9223372036854775807):(fX l).1.dh<=9223372036854775807:=by
 unfold fX;split<;>exact h
theorem SI(l:bu)(h:l.dh<=9223372036854775807):(ek l).1.dh<=9223372036854775807:=by
 unfold ek;split
 ·rename_i hk;obtain⟨_,_,_,_,jj,_,jD,_⟩:=sU.1 hk;simp only[aq,cU]at jj;split
  ·exact h
  dsimp only;omega
 exact h
variable{c:bb}
theorem gb.dS{i:Int}{l:bu}(h:gb c)(ap:l.dh<=9223372036854775807):gb (dS c i l):=by
 intro x ak;rcases pR ak with h1 | rfl
 ·exact h x h1
 exact ap
theorem gb.at{i:Int}{x:bu}(h:gM c i=some x)(hw:gb c):x.dh<=9223372036854775807:=hw _ (eA (qp h).2.2)
structure mx (c d:bb):Prop where
 aC:d.aC=c.aC
 dh:gb c->gb d
 vx:d.ay.length=c.ay.length
theorem mx.rfl:mx c c:=⟨Eq.refl _,id,Eq.refl _⟩
theorem mx.bV{d:bb}(h1:d.aC=c.aC)(U:d.bV=c.bV)(ax:d.ay.length=c.ay.length:=by simp[setW,js,ef,dS,told,gj]):mx c d:=⟨h1,fun h x ak=>h x (U▸ak),ax⟩
theorem agy(c:bb)(e:Int)(t:bW)(x:aR):mx c (fu c e t x).1:=by
 unfold fu;split
 ·split
  ·exact .bV rfl rfl
  split
  ·split
   ·exact .bV rfl rfl
   exact .rfl
  split
  ·exact .bV rfl rfl
  exact .bV rfl rfl
 exact .rfl
theorem agz(c:bb)(p:c9):mx c (eB c p).1:=by
 unfold eB;split
 ·unfold ft;split
  ·split
   ·exact .bV rfl rfl
   exact .rfl
  exact .rfl
 split
 ·unfold gV;split
  ·split
   ·exact .bV rfl rfl
   exact .rfl
  exact .rfl
 split
 ·unfold ly;split
  ·split
   ·split
    ·unfold sQ;split
     ·exact .bV rfl rfl
     split
     ·rename_i l ap;split
      ·exact⟨rfl,fun h=>gb.dS h (SG l _ (gb.at ap h)),by simp[setW,dS]⟩
      exact .rfl
     exact .rfl
    exact .rfl
   exact .rfl
  exact .rfl
 split
 ·unfold lz;split
  ·split
   ·rename_i l x ap ak;split
    ·exact⟨rfl,fun h=>gb.dS h (SI l (gb.at ap h)),by simp[setW,dS]⟩
    exact .rfl
   exact .rfl
  exact .rfl
 split
 ·unfold kD;split
  ·split
   ·rename_i l ap;exact⟨rfl,fun h=>gb.dS h (SH l (gb.at ap h)),by simp[setW,dS]⟩
   exact .rfl
  exact .rfl
 split
 ·unfold kE;split
  ·split
   ·split
    ·exact .rfl
    split
    ·exact agy c _ _ _
    exact .rfl
   exact .rfl
  exact .rfl
 split
 ·unfold lA;split
  ·split
   ·split
    ·exact .bV rfl rfl
    exact .rfl
   exact .rfl
  exact .rfl
 exact .rfl
theorem Kq{α:Type}{f:α->List D}{xs:List α}{a:α}:(xs++[a]).map f=xs.map f++[f a]:=by simp
def dP:bb->List c9->bb×List Bool
 | c,[]=>(c,[])
 | c,p::l=>((dP (eB c p).1 l).1,(eB c p).2::(dP (eB c p).1 l).2)
theorem SJ(p:c9):∀(l:List c9) (c:bb),dP c (l++[p])=((eB (dP c l).1 p).1,(dP c l).2++[(eB (dP c l).1 p).2])
 | [],c=>rfl
 | q::l,c=>by
  have eH:=SJ p l (eB c q).1;simp only[List.cons_append,dP,eH]
theorem SK{l:List c9}{i:Nat}{p:c9}(c:bb)(h:l[i]?=some p):dP c (l.take (i+1))=((eB (dP c (l.take i)).1 p).1,(dP c (l.take i)).2++[(eB (dP c (l.take i)).1 p).2]):=by
 rw[vA,h,EP,SJ]
theorem Kr:∀(l:List c9) (c:bb),(dP c l).2.length=l.length
 | [],_=>rfl
 | q::l,c=>by simp only[dP,gP,Kr l]
theorem DJ:∀(l:List c9) (c:bb),(dP c l).1.sz<=c.sz+4*l.length
 | [],c=>ga _
 | q::l,c=>by
  have:=DJ l (eB c q).1;have:=JO c q;simp only[dP,gP];omega
theorem mx.trans{d e:bb}(h:mx c d)(k:mx d e):mx c e:=⟨k.aC.trans h.aC,fun x=>k.dh (h.dh x),k.vx.trans h.vx⟩
theorem Ks:∀(l:List c9) (c:bb),mx c (dP c l).1
 | [],_=>.rfl
 | q::l,c=>(agz c q).trans (Ks l _)
theorem Kt{α:Type}(i:Nat)(l:List α):(l.take i).length<=l.length:=by rw[tH];omega
theorem SL(c:bb)(l:List c9)(i:Nat):(dP c (l.take i)).1.sz<=c.sz+4*l.length:=by
 have:=DJ (l.take i) c;have:=Kt i l;omega
def sn(l:List Bool):Nat:=(l.filter id).length
theorem ah0(l:List Bool):sn l<=l.length:=qK _ _
theorem ah1(l:List Bool)(b:Bool):sn (l++[b])=sn l+(if b then 1 else 0):=by
 cases b<;>simp[sn]
