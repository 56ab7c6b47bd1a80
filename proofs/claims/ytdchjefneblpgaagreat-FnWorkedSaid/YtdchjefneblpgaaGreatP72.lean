import Derived.Test.YtdchjefneblpgaaGreatP42
import Derived.Test.YtdchjefneblpgaaGreatGW
import Derived.Test.YtdchjefneblpgaaGreatGX
set_option linter.unusedVariables false
set_option linter.unusedSimpArgs false
namespace Go.Proofs.YtdchjefneblpgaaGreat
open Go.Sx Go.RowKit Go.Proofs.Tryz
theorem agN{g:bR}{op:Int}{x:Node}(h:fF g op=some x):0<=op/\op<(↑(g.nodes.map Node.e).length:Int)/\(g.nodes.map Node.e)[op.toNat]?=some x.e:=by
 unfold fF at h;split at h
 ·have:=a1 h;exact⟨‹_›,by rw[cm];omega,bC Node.e h⟩
 cases h
theorem agO(g:bR)(r:aB)(av:g.sz<=8388608):ar 265 [.agg g.e,.agg r.e] [.one (B (dm g r))]:=by
 have k:=w8 g av;have gK:=uM r;have Hh:=J' r.bp;cases h1:dY g with
 | false=>
  rw[h1]at k;rw[show dm g r=false by unfold dm;split<;>simp[jl,h1]];exact abE ⟨k,rfl,aa⟩
 | true=>
 rw[h1]at k;cases U:eR r with
 | false=>
  rw[U]at gK;rw[show dm g r=false by unfold dm;split<;>simp[jl,U]];exact abF ⟨k,rfl,gK,rfl,aa⟩
 | true=>
 rw[U]at gK;cases ax:fF g r.op with
 | none=>
  rw[show dm g r=false by unfold dm;rw[ax]];exact abG ⟨k,rfl,gK,rfl,w5 g r.op false (by rw[ax];rfl) av,rfl,aa⟩
 | some x=>
  obtain⟨m1,m2,m3⟩:=agN ax;have He:=w5 g r.op true (by rw[ax];rfl) av;rw[show dm g r=jl g r x by unfold dm;rw[ax]];cases aJ:(x.kind==7) with
  | false=>
   rw[show jl g r x=false by simp[jl,aJ]];exact abJ ⟨k,rfl,gK,rfl,He,rfl,m1,m2,m3,Hh,aJ,aa⟩
  | true=>
  by_cases aY:0<x.outs.length
  ·rw[show jl g r x=!(eI r.bp).2 by simp[jl,h1,U,aJ,aY]];exact abH ⟨k,rfl,gK,rfl,He,rfl,m1,m2,m3,Hh,aJ,dM (by rw[cm];omega),aa⟩
  rw[show jl g r x=false by simp[jl,aY]];exact abI ⟨k,rfl,gK,rfl,He,rfl,m1,m2,m3,Hh,aJ,eL (by rw[cm];omega),aa⟩
end Go.Proofs.YtdchjefneblpgaaGreat
namespace Go.Proofs.YtdchjefneblpgaaGreat
open Go.Sx Go.RowKit Go.Proofs.Tryz
section
variable {xs : List aB} {r : aB} {t : List aB}
theorem wO(h:xs=r::t):((xs.map aB.e).drop 1).take ((xs.map aB.e).length-1)=t.map aB.e:=by grind
theorem ly(h:xs=r::t):(0:Int)<(↑(xs.map aB.e).length:Int):=by grind
theorem mi(h:xs=r::t):(xs.map aB.e)[0]?=some r.e:=by subst h;rfl
theorem l4(h:xs=r::t):((↑(xs.map aB.e).length:Int)==0)=false:=by
 grind
theorem rB(h:xs=[]):((↑(xs.map aB.e).length:Int)==0)=true:=by subst h;rfl
theorem rG(h:xs=r::t):decide ((↑(xs.map aB.e).length:Int)>0)=true:=dM (ly h)
theorem h3(h:xs=[]):decide ((↑(xs.map aB.e).length:Int)>0)=false:=by subst h;rfl
theorem mD:(0:Int)<=(some (1:Int)).getD 0:=by decide
theorem mE(h:xs=r::t):(some (1:Int)).getD 0<=(none:Option Int).getD (↑(xs.map aB.e).length:Int):=by
 grind
theorem mF{l:List (List D)}:(none:Option Int).getD (↑l.length:Int)<=(↑l.length:Int):=by simp
theorem qz(h:xs=r::t)(ap:xs.length<=8388608):(([]:List (List D)).length+(((xs.map aB.e).drop 1).take ((xs.map aB.e).length-1)).length)*40<=140737488355328:=by
 grind
theorem qA(h:xs=r::t)(ap:xs.length<=8388608):([]:List (List D)).length+(((xs.map aB.e).drop 1).take ((xs.map aB.e).length-1)).length<=9223372036854775807:=by
 grind
theorem qB(h:xs=r::t):Flat (((xs.map aB.e).drop 1).take ((xs.map aB.e).length-1)):=by grind[wO,dA,aB.flat]
theorem r2(h:xs=r::t):([]:List (List D))++((xs.map aB.e).drop 1).take ((xs.map aB.e).length-1)=t.map aB.e:=wO h
end
theorem wq{xs:List aB}{a:List D}(h:xs.length<=8388608):((xs.map aB.e).length+[a].length)*40<=140737488355328:=by simp;omega
theorem wu{xs:List aB}{a:List D}(h:xs.length<=8388608):(xs.map aB.e).length+[a].length<=9223372036854775807:=by simp;omega
theorem agP(a:Int)(q:List aB)(r:aB)(b c d e:Int):bu.e ⟨a,q++[r],b,c,d,e⟩=[I a,.J 5 (q.map aB.e++[r.e]),I b,I c,I d,I e]:=by
 grind[bu.e]
theorem Kg{l:bu}(h:iR l=true):(0<=l.eO/\l.eO<=4)/\(0<=l.back/\l.back<=4)/\(0<=l.fg/\l.fg<=1000000000)/\(0<=l.dh/\l.dh<=1000000000)/\l.queue.length<=4:=by
 obtain⟨c4,b8,fs,pa,ji,mS,jB,n3⟩:=sT.1 h;simp only[aq,cW]at c4 b8 fs ji;omega
theorem Tf(l:bu)(r:aB)(ap:l.sz<=8388608):ar 258 [.agg l.e,.agg r.e] [.agg (e8 l r).1.e,.one (B (e8 l r).2)]:=by
 have dL:=DF l ap;have k:=CB l ap;have gK:=rT r;have aK:l.queue.length<=8388608:=ap;cases h1:iR l with
 | false=>
  rw[h1]at k;rw[show e8 l r=(l,false) by grind[e8]];exact agW ⟨dL,k,rfl,aa⟩
 | true=>
 rw[h1]at k;cases U:eR r with
 | false=>
  rw[U]at gK;rw[show e8 l r=(l,false) by grind[e8]];exact agX ⟨dL,k,rfl,gK,rfl,aa⟩
 | true=>
 rw[U]at gK;by_cases ax:l.eO=0
 ·rw[show e8 l r=(l,false) by grind[e8]];exact agY ⟨dL,k,rfl,gK,rfl,by grind,aa⟩
 have ME:(l.eO==0)=false:=by grind
 obtain⟨kt,lq,n9,kX,mX⟩:=Kg h1;by_cases aJ:l.fg<1000000000
 ·rw[show e8 l r=(⟨l.cap,l.queue++[r],l.eO-1,l.back,l.fg+1,l.dh⟩,true) by grind[e8]];dsimp only;rw[agP];exact ag0 ⟨dL,k,rfl,gK,rfl,ME,eL (by omega),wq aK,wu aK,fV (aB.flat r),⟨by omega,by omega⟩,⟨by omega,by omega⟩,aa⟩
 rw[show e8 l r=(l,false) by grind[e8]];dsimp only;exact agZ ⟨dL,k,rfl,gK,rfl,ME,dM (by omega),aa⟩
theorem Tg(l:bu)(ap:l.sz<=8388608):ar 260 [.agg l.e] [.agg (ek l).1.e,.agg (ek l).2.1.e,.one (B (ek l).2.2)]:=by
 have dL:=DF l ap;have k:=CB l ap;have aK:l.queue.length<=8388608:=ap;cases h1:iR l with
 | false=>
  rw[h1]at k;rw[show ek l=(l,DP,false) by grind[ek]];exact ag1 ⟨dL,k,rfl,aa⟩
 | true=>
 rw[h1]at k;cases U:l.queue with
 | nil=>
  rw[show ek l=(l,DP,false) by simp_all[ek,bM]];exact ag2 ⟨dL,k,rfl,rB U,aa⟩
 | cons r q=>
  obtain⟨kt,lq,n9,kX,mX⟩:=Kg h1;rw[show ek l=(⟨l.cap,q,l.eO,l.back+1,l.fg,l.dh+1⟩,r,true) by simp_all[ek,bM]];have e:bu.e ⟨l.cap,q,l.eO,l.back+1,l.fg,l.dh+1⟩=[I l.cap,.J 5 (((l.queue.map aB.e).drop 1).take ((l.queue.map aB.e).length-1)),I l.eO,I (l.back+1),I l.fg,I (l.dh+1)]:=by rw[wO U];rfl
  dsimp only;rw[e];exact ag3 ⟨dL,k,rfl,l4 U,by omega,ly U,mi U,mD,mE U,mF,qz U aK,qA U aK,qB U,⟨by omega,by omega⟩,⟨by omega,by omega⟩,aa⟩
theorem Th(l:bu)(ap:l.sz<=8388608):ar 261 [.agg l.e] [.agg (fX l).1.e,.one (B (fX l).2)]:=by
 have dL:=DF l ap;have k:=CB l ap;cases h1:iR l with
 | false=>
  rw[h1]at k;rw[show fX l=(l,false) by grind[fX]];exact afU ⟨dL,k,rfl,aa⟩
 | true=>
 rw[h1]at k;by_cases ax:l.back=0
 ·rw[show fX l=(l,false) by grind[fX]];exact afl ⟨dL,k,rfl,by grind,aa⟩
 obtain⟨kt,lq,n9,kX,mX⟩:=Kg h1;rw[show fX l=(⟨l.cap,l.queue,l.eO+1,l.back-1,l.fg,l.dh⟩,true) by grind[fX]];exact afm ⟨dL,k,rfl,by grind,⟨by omega,by omega⟩,⟨by omega,by omega⟩,aa⟩
theorem agQ{n a b:Int}(a8:1<=n/\n<=4)(ah:aq a 0 (n-1)=true)(aw:aq b 0 (n-1)=true):aI .i64 (a*n)/\aI .i64 (a*n+b):=by
 simp only[aq,cW]at ah aw;have BM:n=1\/n=2\/n=3\/n=4:=by omega
 rcases BM with rfl | rfl | rfl | rfl<;>exact⟨⟨by omega,by omega⟩,⟨by omega,by omega⟩⟩
theorem Ti{n:Int}(h:aI .i64 n):IntKind.i64.wrap n=n:=by
 obtain⟨h1,U⟩:=h;grind[IntKind.wrap_i64]
theorem Tj(g:bR)(a b:Int):∃v,ar 61 [.agg g.e,.one (I a),.one (I b)] [.one (I v)]:=by
 cases ah:aq a 0 (IntKind.i64.wrap (g.ay-1)) with
 | false=>exact⟨_,S8 ⟨fk _ _ _ _ ah,rfl,aa⟩⟩
 | true=>
 cases aw:aq b 0 (IntKind.i64.wrap (g.ay-1)) with
 | false=>exact⟨_,S9 ⟨fk _ _ _ _ ah,rfl,fk _ _ _ _ aw,rfl,aa⟩⟩
 | true=>
 by_cases a8:g.ay<1
 ·exact⟨_,afr ⟨fk _ _ _ _ ah,rfl,fk _ _ _ _ aw,rfl,dM a8,aa⟩⟩
 exact⟨_,S' ⟨fk _ _ _ _ ah,rfl,fk _ _ _ _ aw,rfl,eL a8,aa⟩⟩
theorem Kh(g:bR)(a b:Int)(a8:1<=g.ay/\g.ay<=4):ar 61 [.agg g.e,.one (I a),.one (I b)] [.one (I (e9 g a b))]:=by
 have i1:IntKind.i64.wrap (g.ay-1)=g.ay-1:=Ti ⟨by omega,by omega⟩;have yG:∀(x:Int) (r:Bool),aq x 0 (g.ay-1)=r->ar 168 [.one (I x),.one (I 0),.one (I (IntKind.i64.wrap (g.ay-1)))] [.one (B r)]:=fun x r h=>by
  grind[fk]
 cases ah:aq a 0 (g.ay-1) with
 | false=>
  rw[zW (by rw[ah];rfl)];exact S8 ⟨yG _ _ ah,rfl,aa⟩
 | true=>
 cases aw:aq b 0 (g.ay-1) with
 | false=>
  rw[zW (by grind)];exact S9 ⟨yG _ _ ah,rfl,yG _ _ aw,rfl,aa⟩
 | true=>
  obtain⟨wj,ux⟩:=agQ a8 ah aw;have key:ar 61 [.agg g.e,.one (I a),.one (I b)] [.one (I (IntKind.i64.wrap (IntKind.i64.wrap (a*g.ay)+b)))]:=S' ⟨yG a true ah,rfl,yG b true aw,rfl,eL (by omega),aa⟩;grind[Ti,JJ]
theorem Ki(w:aR)(r:aB):(kept w r).e=[.J 5 (w.queue.map aB.e++[r.e]),.J 5 (w.cg.map aB.e),.J 5 (w.b3.map aB.e),.J 4 (w.cells.map Cell.e),.J 1 (w.bF.map a6),.J 1 (w.bO.map cq),.J 1 (w.br.map cq),.J 2 (w.bZ.map cw.e)]:=by
 grind[kept,aR.e]
theorem agR(w:aR)(r:aB):(h6 w r).e=[.J 5 (w.queue.map aB.e++[r.e]),.J 5 (w.cg.map aB.e),.J 5 (w.b3.map aB.e),.J 4 (w.cells.map Cell.e),.J 1 ((w.bF.map a6).set r.bp.bc.toNat [I (w.bF.getD r.bp.bc.toNat 0-1)]),.J 1 ((w.bO.map cq).set r.bp.bc.toNat [B true]),.J 1 (w.br.map cq),.J 2 (w.bZ.map cw.e)]:=by
 simp only[h6,lo,aR.e,hy,js];rfl
theorem agS(w:aR)(e:Int):(mh w e).e=[.J 5 (w.queue.map aB.e),.J 5 (w.cg.map aB.e),.J 5 (w.b3.map aB.e),.J 4 (w.cells.map Cell.e),.J 1 ((w.bF.map a6).set e.toNat [I (w.bF.getD e.toNat 0+1)]),.J 1 (w.bO.map cq),.J 1 (w.br.map cq),.J 2 (w.bZ.map cw.e)]:=by
 simp only[mh,lo,aR.e,js];rfl
theorem agT(g:bR)(w:aR)(av:g.sz<=8388608)(hw:w.sz<=8388608):ar 169 [.agg g.e,.agg w.e] [.agg (ec g w).1.e,.one (B (ec g w).2)]:=by
 have dL:=Jh w hw;have k:=w8 g av;have kw:=Dv g w av hw;have oU:w.cells.length<=8388608:=by grind[aR.sz]
 cases h1:dY g with
 | false=>
  rw[h1]at k;rw[show ec g w=(w,false) by grind[ec]];exact afN ⟨dL,k,rfl,aa⟩
 | true=>
 rw[h1]at k;cases U:eu g w with
 | false=>
  rw[U]at kw;rw[show ec g w=(w,false) by grind[ec]];exact afO ⟨dL,k,rfl,kw,rfl,aa⟩
 | true=>
 rw[U]at kw;have hu:ec g w=match w.cg,w.queue with
  | [],r::q=>(⟨q,(dv g w.cells r).2.1,w.b3,(dv g w.cells r).1,w.bF,w.bO,(if dm g r then w.br.set r.bp.bc.toNat true else w.br),w.bZ⟩,true)
  | _,_=>(w,false):=by grind[ec]
 cases ax:w.cg with
 | cons r q=>
  rw[show ec g w=(w,false) by rw[hu,ax]];exact afP ⟨dL,k,rfl,kw,rfl,rG ax,aa⟩
 | nil=>
 cases aJ:w.queue with
 | nil=>
  rw[show ec g w=(w,false) by grind];exact afQ ⟨dL,k,rfl,kw,rfl,h3 ax,rB aJ,aa⟩
 | cons r q=>
  have st:=abf g w.cells r av oU;have lQ:=agO g r av;obtain⟨c4,_,_,_,_,_,jB,_⟩:=iz.1 U;rw[aJ,rV]at c4;have he:=rW c4.1;obtain⟨c1,c2⟩:=tV jB he;cases aY:dm g r with
  | true=>
   rw[aY]at lQ;rw[show ec g w=(⟨q,(dv g w.cells r).2.1,w.b3,(dv g w.cells r).1,w.bF,w.bO,w.br.set r.bp.bc.toNat true,w.bZ⟩,true) by grind];have e:aR.e ⟨q,(dv g w.cells r).2.1,w.b3,(dv g w.cells r).1,w.bF,w.bO,w.br.set r.bp.bc.toNat true,w.bZ⟩=[.J 5 (((w.queue.map aB.e).drop 1).take ((w.queue.map aB.e).length-1)),.J 5 ((dv g w.cells r).2.1.map aB.e),.J 5 (w.b3.map aB.e),.J 4 ((dv g w.cells r).1.map Cell.e),.J 1 (w.bF.map a6),.J 1 (w.bO.map cq),.J 1 ((w.br.map cq).set r.bp.bc.toNat [B true]),.J 2 (w.bZ.map cw.e)]:=by
    rw[wO aJ];simp only[aR.e,js];rfl
   dsimp only;rw[e];exact afR ⟨dL,k,rfl,kw,rfl,h3 ax,l4 aJ,by omega,ly aJ,mi aJ,mD,mE aJ,mF,st,lQ,rfl,he.1,c1,c2,aa⟩
  | false=>
   rw[aY]at lQ;rw[show ec g w=(⟨q,(dv g w.cells r).2.1,w.b3,(dv g w.cells r).1,w.bF,w.bO,w.br,w.bZ⟩,true) by grind];have e:aR.e ⟨q,(dv g w.cells r).2.1,w.b3,(dv g w.cells r).1,w.bF,w.bO,w.br,w.bZ⟩=[.J 5 (((w.queue.map aB.e).drop 1).take ((w.queue.map aB.e).length-1)),.J 5 ((dv g w.cells r).2.1.map aB.e),.J 5 (w.b3.map aB.e),.J 4 ((dv g w.cells r).1.map Cell.e),.J 1 (w.bF.map a6),.J 1 (w.bO.map cq),.J 1 (w.br.map cq),.J 2 (w.bZ.map cw.e)]:=by
    rw[wO aJ];rfl
   dsimp only;rw[e];exact afS ⟨dL,k,rfl,kw,rfl,h3 ax,l4 aJ,by omega,ly aJ,mi aJ,mD,mE aJ,mF,st,lQ,rfl,aa⟩
theorem agU(g:bR)(w:aR)(av:g.sz<=8388608)(hw:w.sz<=8388608):ar 164 [.agg g.e,.agg w.e] [.agg (eo g w).1.e,.one (B (eo g w).2)]:=by
 have dL:=Jh w hw;have k:=w8 g av;have kw:=Dv g w av hw;have aK:w.queue.length<=8388608:=by grind[aR.sz]
 cases h1:dY g with
 | false=>
  rw[h1]at k;rw[show eo g w=(w,false) by grind[eo]];exact afH ⟨dL,k,rfl,aa⟩
 | true=>
 rw[h1]at k;cases U:eu g w with
 | false=>
  rw[U]at kw;rw[show eo g w=(w,false) by grind[eo]];exact afI ⟨dL,k,rfl,kw,rfl,aa⟩
 | true=>
 rw[U]at kw;have hu:eo g w=match w.cg,w.queue,w.b3 with
  | [],[],r::t=>(⟨[r],[],t,w.cells,w.bF,w.bO,w.br,w.bZ⟩,true)
  | _,_,_=>(w,false):=by grind[eo]
 cases ax:w.cg with
 | cons r q=>
  rw[show eo g w=(w,false) by rw[hu,ax]];exact afJ ⟨dL,k,rfl,kw,rfl,rG ax,aa⟩
 | nil=>
 cases aJ:w.queue with
 | cons r q=>
  rw[show eo g w=(w,false) by grind];exact afK ⟨dL,k,rfl,kw,rfl,h3 ax,rG aJ,aa⟩
 | nil=>
 cases aY:w.b3 with
 | nil=>
  rw[show eo g w=(w,false) by grind];exact afL ⟨dL,k,rfl,kw,rfl,h3 ax,h3 aJ,rB aY,aa⟩
 | cons r t=>
  rw[show eo g w=(⟨[r],[],t,w.cells,w.bF,w.bO,w.br,w.bZ⟩,true) by grind];have e:aR.e ⟨[r],[],t,w.cells,w.bF,w.bO,w.br,w.bZ⟩=[.J 5 (w.queue.map aB.e++[r.e]),.J 5 (w.cg.map aB.e),.J 5 (((w.b3.map aB.e).drop 1).take ((w.b3.map aB.e).length-1)),.J 4 (w.cells.map Cell.e),.J 1 (w.bF.map a6),.J 1 (w.bO.map cq),.J 1 (w.br.map cq),.J 2 (w.bZ.map cw.e)]:=by
   rw[wO aY,aJ,ax];rfl
  dsimp only;rw[e];exact afM ⟨dL,k,rfl,kw,rfl,h3 ax,h3 aJ,l4 aY,by omega,ly aY,mi aY,wq aK,wu aK,fV (aB.flat r),mD,mE aY,mF,aa⟩
end Go.Proofs.YtdchjefneblpgaaGreat
namespace Go.Proofs.YtdchjefneblpgaaGreat
open Go.Sx Go.RowKit Go.Proofs.Tryz
variable{c:bb}{w:Int}
theorem Ss(h:cZ c w=none):aq w 0 ((↑(c.ay.map aR.e).length:Int)-1)=false:=by
 grind[cZ,aq,cm,oB]
variable{x:aR}
theorem Kj(h:cZ c w=some x):aq w 0 ((↑(c.ay.map aR.e).length:Int)-1)=true:=by
 obtain⟨h1,U,_⟩:=jI h;simp only[aq,cm,cW];omega
theorem Kk{i:Int}{x:bu}(h:gL c i=some x):0<=i/\i<(↑(c.bW.map bu.e).length:Int)/\(c.bW.map bu.e)[i.toNat]?=some x.e:=by
 obtain⟨h1,U,ax⟩:=qp h;grind
theorem Kl{i:Int}{x:bu}(h:gL c i=some x)(al:c.sz<=8388608):x.sz<=8388608:=bb.G9 al (eA (qp h).2.2)
theorem DZ(al:c.sz<=8388608):aI .i64 ((↑(c.ay.map aR.e).length:Int)-1):=by
 have:=bb.Aj al;exact⟨by grind,by grind⟩
theorem St(c:bb)(w:Int)(y:aR):(setW c w y).e=[.J 4 (c.aC.nodes.map Node.e),I c.aC.ay,I c.aC.cap,.J 8 ((c.ay.map aR.e).set w.toNat y.e),.J 6 (c.bW.map bu.e),.J 5 (c.tokens.map bV.e),.J 3 (c.news.map b7.e)]:=by grind[setW,bb.e,js]
theorem zu(c:bb)(w:Int)(y:aR)(b:Bool):k5 (setW c w y) b=[.J 4 (c.aC.nodes.map Node.e),I c.aC.ay,I c.aC.cap,.J 8 ((c.ay.map aR.e).set w.toNat y.e),.J 6 (c.bW.map bu.e),.J 5 (c.tokens.map bV.e),.J 3 (c.news.map b7.e),B b]:=by grind[setW,k5,js]
theorem Su(c:bb)(i:Int)(y:bu)(b:Bool):k5 (dS c i y) b=[.J 4 (c.aC.nodes.map Node.e),I c.aC.ay,I c.aC.cap,.J 8 (c.ay.map aR.e),.J 6 ((c.bW.map bu.e).set i.toNat y.e),.J 5 (c.tokens.map bV.e),.J 3 (c.news.map b7.e),B b]:=by grind[dS,k5,js]
theorem Km(c:bb)(w i:Int)(y:aR)(z:bu)(b:Bool):k5 (setW (dS c i z) w y) b=[.J 4 (c.aC.nodes.map Node.e),I c.aC.ay,I c.aC.cap,.J 8 ((c.ay.map aR.e).set w.toNat y.e),.J 6 ((c.bW.map bu.e).set i.toNat z.e),.J 5 (c.tokens.map bV.e),.J 3 (c.news.map b7.e),B b]:=by grind[setW,dS,k5,js]
theorem Sv(c:bb)(w:Int)(al:c.sz<=8388608)(hw:gb c):ar 145 [.agg c.e,.one (I w)] [.one (B (cM c&&(cZ c w).isSome))]:=by
 have k:=acY c al hw;cases ok:cM c with
 | false=>rw[ok]at k;exact afT ⟨k,rfl,aa⟩
 | true=>
  rw[ok]at k;cases ak:cZ c w with
  | none=>exact S6 ⟨k,rfl,DZ al,h4 _ (Ss ak),aa⟩
  | some x=>exact S6 ⟨k,rfl,DZ al,h4 _ (Kj ak),aa⟩
theorem agV(c:bb)(w:Int)(al:c.sz<=8388608)(hw:gb c):ar 44 [.agg c.e,.one (I w)] [.agg (ft c w).1.e,.one (B (ft c w).2)]:=by
 have dL:=RN c al;have k:=Sv c w al hw;cases ok:cM c with
 | false=>
  rw[ok]at k;rw[show ft c w=(c,false) by grind[ft]];exact S5 ⟨dL,k,rfl,aa⟩
 | true=>
 cases ak:cZ c w with
 | none=>
  rw[ok,ak]at k;rw[show ft c w=(c,false) by grind[ft]];exact S5 ⟨dL,k,rfl,aa⟩
 | some x=>
  rw[ok,ak]at k;obtain⟨dw,dI,dH⟩:=nu ak;rw[show ft c w=(setW c w (ec c.aC x).1,(ec c.aC x).2) by grind[ft]];dsimp only;rw[St];exact afG ⟨dL,k,rfl,dw,dI,dH,agT c.aC x (bb.lk al) (qy ak al),dw,dI,dH,aa⟩
theorem Sw(c:bb)(w:Int)(al:c.sz<=8388608)(hw:gb c):ar 36 [.agg c.e,.one (I w)] [.agg (gU c w).1.e,.one (B (gU c w).2)]:=by
 have dL:=RN c al;have k:=Sv c w al hw;cases ok:cM c with
 | false=>
  rw[ok]at k;rw[show gU c w=(c,false) by grind[gU]];exact S4 ⟨dL,k,rfl,aa⟩
 | true=>
 cases ak:cZ c w with
 | none=>
  rw[ok,ak]at k;rw[show gU c w=(c,false) by grind[gU]];exact S4 ⟨dL,k,rfl,aa⟩
 | some x=>
  rw[ok,ak]at k;obtain⟨dw,dI,dH⟩:=nu ak;rw[show gU c w=(setW c w (eo c.aC x).1,(eo c.aC x).2) by grind[gU]];dsimp only;rw[St];exact afF ⟨dL,k,rfl,dw,dI,dH,agU c.aC x (bb.lk al) (qy ak al),dw,dI,dH,aa⟩
theorem Sy(ok:cM c=true)(ak:cZ c w=some x):x.bF.length=4/\x.bO.length=4/\x.br.length=4/\(∀e:Int,0<=e/\e<=3->-1000000<=x.bF.getD e.toNat 0/\x.bF.getD e.toNat 0<=1000000):=by
 obtain⟨_,_,_,_,ji,mS,jB,_,ry,_⟩:=iz.1 (lx ok ak);refine⟨ji,mS,jB,fun e he=>?_⟩;have ap:e.toNat<x.bF.length:=by omega
 rw[hd]at ry;have:=ry _ (qM ap);rw[jY,iZ ap,jZ];simpa only[mg,h8,kg,aq,cW,tH,Bool.not_not,Bool.not_eq_eq_eq_not,iY,oB,Classical.not_not]using this
variable{r:aB}{t:List aB}
theorem agm(ok:cM c=true)(ak:cZ c w=some x)(ai:x.cg=r::t):lG c w=sP c w x r t (jG r.key c.aC.ay):=by
 simp_all[lG,bM]
theorem agn{o:Int}(h:o=w):sP c w x r t o=(setW c w (kept (jH x t) r),true):=bM h
variable{l:bu}
theorem ago{o:Int}(h:o≠w)(ap:gL c (e9 c.aC w o)=some l):sP c w x r t o=if (e8 l r).2 then (setW (dS c (e9 c.aC w o) (e8 l r).1) w (mh (jH x t) r.bp.bc),true) else (c,false):=by
 simp_all[sP,bG]
variable{a b:Int}
theorem Sz(h:(aq a 0 (c.aC.ay-1)&&aq b 0 (c.aC.ay-1))=false):gL c (e9 c.aC a b)=none:=by
 rw[zW h];rfl
theorem agp(ok:cM c=true)(hU:a≠b)(ap:gL c (e9 c.aC a b)=some l)(ak:cZ c b=some x):lu c a b=if (ek l).2.2 then (setW (dS c (e9 c.aC a b) (ek l).1) b (h6 x (ek l).2.1),true) else (c,false):=by
 simp_all[lu,bM]
theorem agq(ok:cM c=true)(hU:a≠b)(ap:gL c (e9 c.aC a b)=some l):kD c a b=(dS c (e9 c.aC a b) (fX l).1,(fX l).2):=by
 simp_all[kD,bM]
theorem Kn(c:bb)(w:Int)(al:c.sz<=8388608):bT prog 257 [.ref (fb c) (fb c),.ro (.one (I w))] (.vals [.one (B (cM c&&(cZ c w).isSome))]):=by
 unfold fb;cases ok:cM c with
 | false=>exact ahc ⟨rfl,aa⟩
 | true=>
  cases ak:cZ c w with
  | none=>exact Tb ⟨rfl,DZ al,fk _ _ _ _ (Ss ak),aa⟩
  | some x=>exact Tb ⟨rfl,DZ al,fk _ _ _ _ (Kj ak),aa⟩
def DW(x:aR)(e d:Int):aR:=⟨x.queue,x.cg,x.b3,x.cells,lo x.bF e d,x.bO,x.br,x.bZ⟩
theorem SA(w:aR)(e d:Int):(DW w e d).e=[.J 5 (w.queue.map aB.e),.J 5 (w.cg.map aB.e),.J 5 (w.b3.map aB.e),.J 4 (w.cells.map Cell.e),.J 1 ((w.bF.map a6).set e.toNat [I (w.bF.getD e.toNat 0+d)]),.J 1 (w.bO.map cq),.J 1 (w.br.map cq),.J 2 (w.bZ.map cw.e)]:=by
 simp only[DW,lo,aR.e,js];rfl
theorem SB(c:bb)(w e d:Int)(x:aR)(ak:cZ c w=some x)(aJ:x.bF.length=4)(he:0<=e/\e<=3)(aG:-1<=d/\d<=1)(ai:-1000000<=x.bF.getD e.toNat 0/\x.bF.getD e.toNat 0<=1000000):
  bT prog 259 [.ref (k5 c true) (k5 (setW c w (DW x e d)) (aq (x.bF.getD e.toNat 0+d) (-1000000) 1000000)),.ro (.one (I w)),.ro (.one (I e)),.ro (.one (I d))] (.vals []):=by
 obtain⟨dw,dI,dH⟩:=nu ak;obtain⟨s1,s2⟩:=G2 aJ he;rw[zu,SA];exact ahh ⟨dw,dI,dH,dw,dI,dH,he.1,s1,s2,⟨by omega,by omega⟩,he.1,s1,s2,dH,rfl,rfl,rfl,rfl,rfl,dw,by grind,q3 dw dI,he.1,by grind,q3 he.1 s1,hI _ _ _,aa⟩
theorem SC(c:bb)(w:Int)(al:c.sz<=8388608):bT prog 170 [.ref (fb c) (fb (ft c w).1),.ro (.one (I w))] (.vals [.one (B (ft c w).2)]):=by
 have post:=fun h=>acC (c:=c) (w:=w) h
 have is:=Kn c w al;cases ok:cM c with
 | false=>
  rw[ok]at is;rw[show ft c w=(c,false) by grind[ft]];exact Td ⟨is,rfl,aa⟩
 | true=>
 replace post:=post ok;cases ak:cZ c w with
 | none=>
  rw[ok,ak]at is;rw[show ft c w=(c,false) by grind[ft]];exact Td ⟨is,rfl,aa⟩
 | some x=>
 rw[ok,ak]at is;obtain⟨dw,dI,dH⟩:=nu ak;have dN:=qy ak al;have VY:=(iy.1 ok).1;have TP:=lx ok ak;have hu:ec c.aC x=match x.cg,x.queue with
  | [],r::q=>(⟨q,(dv c.aC x.cells r).2.1,x.b3,(dv c.aC x.cells r).1,x.bF,x.bO,(if dm c.aC r then x.br.set r.bp.bc.toNat true else x.br),x.bZ⟩,true)
  | _,_=>(x,false):=by grind[ec]
 have rF:ft c w=(setW c w (ec c.aC x).1,(ec c.aC x).2):=by grind[ft]
 cases ax:x.cg with
 | cons r q=>
  rw[rF,show ec c.aC x=(x,false) by rw[hu,ax]];dsimp only;rw[sR ak];exact agx ⟨is,rfl,dw,dI,dH,rG ax,aa⟩
 | nil=>
 cases aJ:x.queue with
 | nil=>
  rw[rF,show ec c.aC x=(x,false) by grind];dsimp only;rw[sR ak];exact agy ⟨is,rfl,dw,dI,dH,h3 ax,rB aJ,aa⟩
 | cons r q=>
  have oU:x.cells.length<=8388608:=by grind[aR.sz]
  have kU:x.queue.length<=8388608:=by grind[aR.sz]
  have av:=bb.lk al;have st:=RY c.aC x.cells r av oU;have lQ:=RZ c.aC r av;obtain⟨c4,_,_,_,_,_,jB,_⟩:=iz.1 TP;rw[aJ,rV]at c4;have he:=rW c4.1;obtain⟨c1,c2⟩:=tV jB he;unfold fb at is ⊢;rw[post];rw[ok]at is ⊢;cases aY:dm c.aC r with
  | true=>
   rw[aY]at lQ;rw[rF,show ec c.aC x=(⟨q,(dv c.aC x.cells r).2.1,x.b3,(dv c.aC x.cells r).1,x.bF,x.bO,x.br.set r.bp.bc.toNat true,x.bZ⟩,true) by grind];have e:aR.e ⟨q,(dv c.aC x.cells r).2.1,x.b3,(dv c.aC x.cells r).1,x.bF,x.bO,x.br.set r.bp.bc.toNat true,x.bZ⟩=[.J 5 ([]++((x.queue.map aB.e).drop 1).take ((x.queue.map aB.e).length-1)),.J 5 ((dv c.aC x.cells r).2.1.map aB.e),.J 5 (x.b3.map aB.e),.J 4 ((dv c.aC x.cells r).1.map Cell.e),.J 1 (x.bF.map a6),.J 1 (x.bO.map cq),.J 1 ((x.br.map cq).set r.bp.bc.toNat [B true]),.J 2 (x.bZ.map cw.e)]:=by
    rw[r2 aJ];simp only[aR.e,js];rfl
   dsimp only;rw[zu,e];have key:=agz ⟨is,rfl,dw,dI,dH,h3 ax,l4 aJ,by omega,ly aJ,mi aJ,st,mD,mE aJ,mF,qz aJ kU,qA aJ kU,qB aJ,lQ,rfl,he.1,c1,c2,dH,rfl,rfl,rfl,rfl,dw,by grind,q3 dw dI,rfl,rfl,rfl,rfl,rfl,aa⟩;simp only[AW]at key;exact key
  | false=>
   rw[aY]at lQ;rw[rF,show ec c.aC x=(⟨q,(dv c.aC x.cells r).2.1,x.b3,(dv c.aC x.cells r).1,x.bF,x.bO,x.br,x.bZ⟩,true) by grind];have e:aR.e ⟨q,(dv c.aC x.cells r).2.1,x.b3,(dv c.aC x.cells r).1,x.bF,x.bO,x.br,x.bZ⟩=[.J 5 ([]++((x.queue.map aB.e).drop 1).take ((x.queue.map aB.e).length-1)),.J 5 ((dv c.aC x.cells r).2.1.map aB.e),.J 5 (x.b3.map aB.e),.J 4 ((dv c.aC x.cells r).1.map Cell.e),.J 1 (x.bF.map a6),.J 1 (x.bO.map cq),.J 1 (x.br.map cq),.J 2 (x.bZ.map cw.e)]:=by
    rw[r2 aJ];rfl
   dsimp only;rw[zu,e];exact agA ⟨is,rfl,dw,dI,dH,h3 ax,l4 aJ,by omega,ly aJ,mi aJ,st,mD,mE aJ,mF,qz aJ kU,qA aJ kU,qB aJ,lQ,rfl,dw,dI,dH,rfl,rfl,rfl,rfl,rfl,aa⟩
theorem SD(c:bb)(w:Int)(al:c.sz<=8388608):bT prog 171 [.ref (fb c) (fb (gU c w).1),.ro (.one (I w))] (.vals [.one (B (gU c w).2)]):=by
 have post:=fun h=>acD (c:=c) (w:=w) h
 have is:=Kn c w al;cases ok:cM c with
 | false=>
  rw[ok]at is;rw[show gU c w=(c,false) by grind[gU]];exact Ta ⟨is,rfl,aa⟩
 | true=>
 replace post:=post ok;cases ak:cZ c w with
 | none=>
  rw[ok,ak]at is;rw[show gU c w=(c,false) by grind[gU]];exact Ta ⟨is,rfl,aa⟩
 | some x=>
 rw[ok,ak]at is;obtain⟨dw,dI,dH⟩:=nu ak;have dN:=qy ak al;have VY:=(iy.1 ok).1;have TP:=lx ok ak;have iK:x.b3.length<=8388608:=by grind[aR.sz]
 have hu:eo c.aC x=match x.cg,x.queue,x.b3 with
  | [],[],r::t=>(⟨[r],[],t,x.cells,x.bF,x.bO,x.br,x.bZ⟩,true)
  | _,_,_=>(x,false):=by grind[eo]
 have rF:gU c w=(setW c w (eo c.aC x).1,(eo c.aC x).2):=by grind[gU]
 cases ax:x.cg with
 | cons r q=>
  rw[rF,show eo c.aC x=(x,false) by rw[hu,ax]];dsimp only;rw[sR ak];exact ag8 ⟨is,rfl,dw,dI,dH,rG ax,aa⟩
 | nil=>
 cases aJ:x.queue with
 | cons r q=>
  rw[rF,show eo c.aC x=(x,false) by grind];dsimp only;rw[sR ak];exact ag9 ⟨is,rfl,dw,dI,dH,h3 ax,rG aJ,aa⟩
 | nil=>
 cases aY:x.b3 with
 | nil=>
  rw[rF,show eo c.aC x=(x,false) by grind];dsimp only;rw[sR ak];exact aha ⟨is,rfl,dw,dI,dH,h3 ax,h3 aJ,rB aY,aa⟩
 | cons r t=>
  unfold fb at is ⊢;rw[post];rw[ok]at is ⊢;rw[rF,show eo c.aC x=(⟨[r],[],t,x.cells,x.bF,x.bO,x.br,x.bZ⟩,true) by grind];have e:aR.e ⟨[r],[],t,x.cells,x.bF,x.bO,x.br,x.bZ⟩=[.J 5 ([r.e]),.J 5 (x.cg.map aB.e),.J 5 ([]++((x.b3.map aB.e).drop 1).take ((x.b3.map aB.e).length-1)),.J 4 (x.cells.map Cell.e),.J 1 (x.bF.map a6),.J 1 (x.bO.map cq),.J 1 (x.br.map cq),.J 2 (x.bZ.map cw.e)]:=by
   rw[r2 aY,ax];rfl
  dsimp only;rw[zu,e];exact ahb ⟨is,rfl,dw,dI,dH,h3 ax,h3 aJ,l4 aY,by omega,ly aY,mi aY,mD,mE aY,mF,qz aY iK,qA aY iK,qB aY,dw,dI,dH,rfl,rfl,rfl,rfl,rfl,rfl,aa⟩
theorem agr(c:bb)(w:Int)(al:c.sz<=8388608):bT prog 151 [.ref (fb c) (fb (lG c w).1),.ro (.one (I w))] (.vals [.one (B (lG c w).2)]):=by
 have is:=Kn c w al;cases ok:cM c with
 | false=>
  rw[ok]at is;rw[show lG c w=(c,false) by grind[lG]];exact Tc ⟨is,rfl,aa⟩
 | true=>
 cases ak:cZ c w with
 | none=>
  rw[ok,ak]at is;rw[show lG c w=(c,false) by grind[lG]];exact Tc ⟨is,rfl,aa⟩
 | some x=>
 rw[ok,ak]at is;obtain⟨dw,dI,dH⟩:=nu ak;have dN:=qy ak al;have a8:=nt (iy.1 ok).1;cases ai:x.cg with
 | nil=>
  rw[show lG c w=(c,false) by simp_all[lG,bM]];exact ahd ⟨is,rfl,dw,dI,dH,rB ai,aa⟩
 | cons r t=>
  have uC:=QO r.key c.aC.ay (by omega);have aH:=(JG (lx ok ak) ai).2;have he:=rW aH;have kU:x.queue.length<=8388608:=by grind[aR.sz]
  have n0:x.cg.length<=8388608:=by grind[aR.sz]
  obtain⟨f4,_,_,ew⟩:=Sy ok ak;rw[agm ok ak ai];have Hj:=acv r.key a8.1;generalize jG r.key c.aC.ay=o at uC Hj;by_cases how:o=w
  ·have ue:(o != w)=false:=by simp[how]
   rw[agn how];unfold fb at is ⊢;dsimp only;rw[acA ok ak ai];rw[ok]at is ⊢;have e:(kept (jH x t) r).e=[.J 5 (x.queue.map aB.e++[r.e]),.J 5 ([]++((x.cg.map aB.e).drop 1).take ((x.cg.map aB.e).length-1)),.J 5 (x.b3.map aB.e),.J 4 (x.cells.map Cell.e),.J 1 (x.bF.map a6),.J 1 (x.bO.map cq),.J 1 (x.br.map cq),.J 2 (x.bZ.map cw.e)]:=by
    rw[r2 ai,Ki];rfl
   rw[zu,e];have key:=ahg ⟨is,rfl,dw,dI,dH,l4 ai,dw,dI,dH,by omega,ly ai,mi ai,uC,ue,dw,dI,dH,wq kU,wu kU,dH,rfl,fV (aB.flat r),rfl,rfl,rfl,rfl,rfl,rfl,rfl,rfl,rfl,rfl,rfl,rfl,rfl,dw,dI,dH,rfl,dw,by grind,q3 dw dI,mD,mE ai,mF,qz ai n0,qA ai n0,qB ai,dw,by grind,q3 dw dI,aa⟩;simp only[AW]at key;exact key
  have ue:(o != w)=true:=by simp[how]
  have win:aq w 0 (c.aC.ay-1)=true:=by
   have:=Kj ak;rwa[cm,(iy.1 ok).2.1]at this
  obtain⟨l,ap⟩:=JK ok win Hj;obtain⟨qc,qd,qe⟩:=Kk ap;have aV:=Kh c.aC w o a8;have k6:=Tf l r (Kl ap al);have X8:=fun h=>acz ok ak ai Hj how ap h
  rw[ago how ap];cases bx:(e8 l r).2 with
  | false=>
   rw[bx]at k6;exact ahe ⟨is,rfl,dw,dI,dH,l4 ai,dw,dI,dH,by omega,ly ai,mi ai,uC,ue,aV,qc,qd,qe,k6,rfl,aa⟩
  | true=>
   rw[bx]at k6;rw[bM rfl];unfold fb at is ⊢;dsimp only;rw[X8 bx];rw[ok]at is ⊢;have vt:=SB (dS c (e9 c.aC w o) (e8 l r).1) w r.bp.bc 1 x (zX.trans ak) f4 he (by omega) (ew _ he);rw[Su,Km,SA]at vt;have e:(mh (jH x t) r.bp.bc).e=[.J 5 (x.queue.map aB.e),.J 5 ([]++((x.cg.map aB.e).drop 1).take ((x.cg.map aB.e).length-1)),.J 5 (x.b3.map aB.e),.J 4 (x.cells.map Cell.e),.J 1 ((x.bF.map a6).set r.bp.bc.toNat [I (x.bF.getD r.bp.bc.toNat 0+1)]),.J 1 (x.bO.map cq),.J 1 (x.br.map cq),.J 2 (x.bZ.map cw.e)]:=by
    rw[r2 ai,agS];rfl
   rw[Km,e];have key:=ahf ⟨is,rfl,dw,dI,dH,l4 ai,dw,dI,dH,by omega,ly ai,mi ai,uC,ue,aV,qc,qd,qe,k6,rfl,qc,qd,qe,vt,dw,by grind,q3 dw dI,mD,mE ai,mF,qz ai n0,qA ai n0,qB ai,dw,by grind,q3 dw dI,aa⟩;simp only[AW]at key;exact key
theorem ags(c:bb)(a b:Int)(al:c.sz<=8388608):bT prog 156 [.ref (fb c) (fb (lu c a b).1),.ro (.one (I a)),.ro (.one (I b))] (.vals [.one (B (lu c a b).2)]):=by
 cases ok:cM c with
 | false=>
  rw[show lu c a b=(c,false) by grind[lu]];obtain⟨v,aV⟩:=Tj c.aC a b;unfold fb;rw[ok];exact ahi ⟨aV,rfl,aa⟩
 | true=>
 have a8:=nt (iy.1 ok).1;have aV:=Kh c.aC a b a8;cases bH:(aq a 0 (c.aC.ay-1)&&aq b 0 (c.aC.ay-1)) with
 | false=>
  rw[zW bH]at aV;rw[show lu c a b=(c,false) by grind[lu,Sz]];unfold fb;rw[ok];exact ahj ⟨aV,rfl,dM (by decide),aa⟩
 | true=>
 rw[cF]at bH;obtain⟨l,ap⟩:=JK ok bH.1 bH.2;obtain⟨qc,qd,qe⟩:=Kk ap;by_cases hU:a=b
 ·rw[show lu c a b=(c,false) by grind[lu]];unfold fb;rw[ok];exact ahk ⟨aV,rfl,eL (by omega),by simp[hU],aa⟩
 have ue:(a==b)=false:=by simp[hU]
 obtain⟨x,ak⟩:∃x,cZ c b=some x:=by
  have aw:=bH.2;have:=(iy.1 ok).2.1;simp only[aq,cW]at aw;grind[DA]
 obtain⟨dw,dI,dH⟩:=nu ak;have dN:=qy ak al;have Ah:=Tg l (Kl ap al);have Ya:=fun h=>acB ok ap ak h
 rw[agp ok hU ap ak];unfold fb;cases bx:(ek l).2.2 with
 | false=>
  rw[bx]at Ah;rw[bG (by decide)];dsimp only;rw[ok];exact ahl ⟨aV,rfl,eL (by omega),ue,qc,qd,qe,Ah,rfl,aa⟩
 | true=>
  rw[bx]at Ah;rw[bM rfl];dsimp only;rw[Ya bx,ok];have aH:=(JI (zV ok ap) bx).2;have he:=rW aH;generalize (ek l).2.1=r at Ah aH he ⊢;obtain⟨f4,VR,_,ew⟩:=Sy ok ak;have kU:x.queue.length<=8388608:=by grind[aR.sz]
  obtain⟨gC,fQ⟩:=tV VR he;have jh:cZ (setW (dS c (e9 c.aC a b) (ek l).1) b ⟨x.queue++[r],x.cg,x.b3,x.cells,x.bF,x.bO.set r.bp.bc.toNat true,x.br,x.bZ⟩) b=some ⟨x.queue++[r],x.cg,x.b3,x.cells,x.bF,x.bO.set r.bp.bc.toNat true,x.br,x.bZ⟩:=by
   obtain⟨q1,l7,_⟩:=jI ak;simp_all[cZ,setW,dS,bM]
  have vt:=SB _ b r.bp.bc (-1) _ jh f4 he (by omega) (ew _ he);rw[Km]at vt;have e2:aR.e ⟨x.queue++[r],x.cg,x.b3,x.cells,x.bF,x.bO.set r.bp.bc.toNat true,x.br,x.bZ⟩=[.J 5 (x.queue.map aB.e++[r.e]),.J 5 (x.cg.map aB.e),.J 5 (x.b3.map aB.e),.J 4 (x.cells.map Cell.e),.J 1 (x.bF.map a6),.J 1 ((x.bO.map cq).set r.bp.bc.toNat [B true]),.J 1 (x.br.map cq),.J 2 (x.bZ.map cw.e)]:=by
   simp only[aR.e,hy,js];rfl
  rw[e2,<-AW]at vt;rw[show setW (setW (dS c (e9 c.aC a b) (ek l).1) b ⟨x.queue++[r],x.cg,x.b3,x.cells,x.bF,x.bO.set r.bp.bc.toNat true,x.br,x.bZ⟩) b (DW ⟨x.queue++[r],x.cg,x.b3,x.cells,x.bF,x.bO.set r.bp.bc.toNat true,x.br,x.bZ⟩ r.bp.bc (-1))=setW (dS c (e9 c.aC a b) (ek l).1) b (h6 x r) by unfold setW dS;simp only[AW];rfl]at vt;exact agw ⟨aV,rfl,eL (by omega),ue,qc,qd,qe,Ah,rfl,qc,qd,qe,dw,dI,dH,wq kU,wu kU,dH,rfl,fV (aB.flat r),rfl,rfl,rfl,rfl,rfl,rfl,rfl,dw,dI,dH,rfl,dw,by grind,q3 dw dI,he.1,gC,fQ,q3 dw dI,rfl,rfl,vt,aa⟩
theorem agt(c:bb)(a b:Int)(al:c.sz<=8388608):bT prog 158 [.ref (fb c) (fb (kD c a b).1),.ro (.one (I a)),.ro (.one (I b))] (.vals [.one (B (kD c a b).2)]):=by
 have post:=fun h=>acE (c:=c) (a:=a) (b:=b) h
 cases ok:cM c with
 | false=>
  rw[show kD c a b=(c,false) by grind[kD]];obtain⟨v,aV⟩:=Tj c.aC a b;unfold fb;rw[ok];exact ag4 ⟨aV,rfl,aa⟩
 | true=>
 replace post:=post ok;have a8:=nt (iy.1 ok).1;have aV:=Kh c.aC a b a8;unfold fb;rw[post,ok];cases bH:(aq a 0 (c.aC.ay-1)&&aq b 0 (c.aC.ay-1)) with
 | false=>
  rw[zW bH]at aV;rw[show kD c a b=(c,false) by grind[kD,Sz]];exact ag5 ⟨aV,rfl,dM (by decide),aa⟩
 | true=>
 rw[cF]at bH;obtain⟨l,ap⟩:=JK ok bH.1 bH.2;obtain⟨qc,qd,qe⟩:=Kk ap;by_cases hU:a=b
 ·rw[show kD c a b=(c,false) by grind[kD]];exact ag6 ⟨aV,rfl,eL (by omega),by simp[hU],aa⟩
 rw[agq ok hU ap];dsimp only;rw[Su];exact ag7 ⟨aV,rfl,eL (by omega),by simp[hU],qc,qd,qe,Th l (Kl ap al),qc,qd,qe,aa⟩
theorem SE(c:bb)(p:c9)(al:c.sz<=8388608):bT prog 128 [.ref (fb c) (fb (eB c p).1),.ro (.agg p.e)] (.vals [.one (B (eB c p).2)]):=by
 by_cases h1:p.kind=1
 ·rw[show eB c p=ft c p.a by grind[eB]];exact agB ⟨by grind,SC c p.a al,aa⟩
 have kt:(p.kind==1)=false:=by grind
 by_cases U:p.kind=2
 ·rw[show eB c p=gU c p.a by grind[eB]];exact agC ⟨kt,by grind,SD c p.a al,aa⟩
 have lq:(p.kind==2)=false:=by grind
 by_cases ax:p.kind=3
 ·rw[show eB c p=lG c p.a by grind[eB]];exact agD ⟨kt,lq,by grind,agr c p.a al,aa⟩
 have n9:(p.kind==3)=false:=by grind
 by_cases aJ:p.kind=4
 ·rw[show eB c p=lu c p.a p.b by grind[eB]];exact agE ⟨kt,lq,n9,by grind,ags c p.a p.b al,aa⟩
 have kX:(p.kind==4)=false:=by grind
 by_cases aY:p.kind=5
 ·rw[show eB c p=kD c p.a p.b by grind[eB]];exact agF ⟨kt,lq,n9,kX,by grind,agt c p.a p.b al,aa⟩
 have mX:(p.kind==5)=false:=by grind
 by_cases bx:p.kind=6
 ·rw[show eB c p=kE c p.a by grind[eB]];exact agG ⟨kt,lq,n9,kX,mX,by grind,adW c p.a al,aa⟩
 have n6:(p.kind==6)=false:=by grind
 by_cases bN:p.kind=7
 ·rw[show eB c p=lv c p.a by grind[eB]];exact agH ⟨kt,lq,n9,kX,mX,n6,by grind,acS c p.a al,aa⟩
 have n7:(p.kind==7)=false:=by grind
 rw[show eB c p=(c,false) by grind[eB]];exact agI ⟨kt,lq,n9,kX,mX,n6,n7,aa⟩
end Go.Proofs.YtdchjefneblpgaaGreat
namespace Go.Proofs.YtdchjefneblpgaaGreat
open Go.Sx Go.RowKit Go.Proofs.Tryz
theorem SF(l:bu)(r:aB)(h:l.dh<=9223372036854775807):(e8 l r).1.dh<=9223372036854775807:=by
 unfold e8;split<;>exact h
theorem SG(l:bu)(h:l.dh<=9223372036854775807):(fX l).1.dh<=9223372036854775807:=by
 unfold fX;split<;>exact h
theorem SH(l:bu)(h:l.dh<=9223372036854775807):(ek l).1.dh<=9223372036854775807:=by
 unfold ek;split
 ·rename_i hk;obtain⟨_,_,_,_,ji,_,jB,_⟩:=sT.1 hk;simp only[aq,cW]at ji;split
  ·exact h
  dsimp only;omega
 exact h
variable{c:bb}
theorem gb.dS{i:Int}{l:bu}(h:gb c)(ap:l.dh<=9223372036854775807):gb (dS c i l):=by
 intro x ak;rcases pR ak with h1 | rfl
 ·exact h x h1
 exact ap
theorem gb.at{i:Int}{x:bu}(h:gL c i=some x)(hw:gb c):x.dh<=9223372036854775807:=hw _ (eA (qp h).2.2)
structure mw (c d:bb):Prop where
 aC:d.aC=c.aC
 dh:gb c->gb d
 vv:d.ay.length=c.ay.length
theorem mw.rfl:mw c c:=⟨Eq.refl _,id,Eq.refl _⟩
theorem mw.bW{d:bb}(h1:d.aC=c.aC)(U:d.bW=c.bW)(ax:d.ay.length=c.ay.length:=by simp[setW,jq,ef,dS,told,gj]):mw c d:=⟨h1,fun h x ak=>h x (U▸ak),ax⟩
theorem agu(c:bb)(e:Int)(t:bV)(x:aR):mw c (fu c e t x).1:=by
 unfold fu;split
 ·split
  ·exact .bW rfl rfl
  split
  ·split
   ·exact .bW rfl rfl
   exact .rfl
  split
  ·exact .bW rfl rfl
  exact .bW rfl rfl
 exact .rfl
theorem agv(c:bb)(p:c9):mw c (eB c p).1:=by
 unfold eB;split
 ·unfold ft;split
  ·split
   ·exact .bW rfl rfl
   exact .rfl
  exact .rfl
 split
 ·unfold gU;split
  ·split
   ·exact .bW rfl rfl
   exact .rfl
  exact .rfl
 split
 ·unfold lG;split
  ·split
   ·split
    ·unfold sP;split
     ·exact .bW rfl rfl
     split
     ·rename_i l ap;split
      ·exact⟨rfl,fun h=>gb.dS h (SF l _ (gb.at ap h)),by simp[setW,dS]⟩
      exact .rfl
     exact .rfl
    exact .rfl
   exact .rfl
  exact .rfl
 split
 ·unfold lu;split
  ·split
   ·rename_i l x ap ak;split
    ·exact⟨rfl,fun h=>gb.dS h (SH l (gb.at ap h)),by simp[setW,dS]⟩
    exact .rfl
   exact .rfl
  exact .rfl
 split
 ·unfold kD;split
  ·split
   ·rename_i l ap;exact⟨rfl,fun h=>gb.dS h (SG l (gb.at ap h)),by simp[setW,dS]⟩
   exact .rfl
  exact .rfl
 split
 ·unfold kE;split
  ·split
   ·split
    ·exact .rfl
    split
    ·exact agu c _ _ _
    exact .rfl
   exact .rfl
  exact .rfl
 split
 ·unfold lv;split
  ·split
   ·split
    ·exact .bW rfl rfl
    exact .rfl
   exact .rfl
  exact .rfl
 exact .rfl
theorem Ko{α:Type}{f:α->List D}{xs:List α}{a:α}:(xs++[a]).map f=xs.map f++[f a]:=by simp
def dP:bb->List c9->bb×List Bool
 | c,[]=>(c,[])
 | c,p::l=>((dP (eB c p).1 l).1,(eB c p).2::(dP (eB c p).1 l).2)
theorem SI(p:c9):∀(l:List c9) (c:bb),dP c (l++[p])=((eB (dP c l).1 p).1,(dP c l).2++[(eB (dP c l).1 p).2])
 | [],c=>rfl
 | q::l,c=>by
  have eH:=SI p l (eB c q).1;simp only[List.cons_append,dP,eH]
theorem SJ{l:List c9}{i:Nat}{p:c9}(c:bb)(h:l[i]?=some p):dP c (l.take (i+1))=((eB (dP c (l.take i)).1 p).1,(dP c (l.take i)).2++[(eB (dP c (l.take i)).1 p).2]):=by
 rw[vy,h,EN,SI]
theorem Kp:∀(l:List c9) (c:bb),(dP c l).2.length=l.length
 | [],_=>rfl
 | q::l,c=>by simp only[dP,hz,Kp l]
theorem DH:∀(l:List c9) (c:bb),(dP c l).1.sz<=c.sz+4*l.length
 | [],c=>ga _
 | q::l,c=>by
  have:=DH l (eB c q).1;have:=JN c q;simp only[dP,hz];omega
theorem mw.trans{d e:bb}(h:mw c d)(k:mw d e):mw c e:=⟨k.aC.trans h.aC,fun x=>k.dh (h.dh x),k.vv.trans h.vv⟩
theorem Kq:∀(l:List c9) (c:bb),mw c (dP c l).1
 | [],_=>.rfl
 | q::l,c=>(agv c q).trans (Kq l _)
theorem Kr{α:Type}(i:Nat)(l:List α):(l.take i).length<=l.length:=by rw[tF];omega
theorem SK(c:bb)(l:List c9)(i:Nat):(dP c (l.take i)).1.sz<=c.sz+4*l.length:=by
 have:=DH (l.take i) c;have:=Kr i l;omega
def sn(l:List Bool):Nat:=(l.filter id).length
theorem ahW(l:List Bool):sn l<=l.length:=qK _ _
theorem ahX(l:List Bool)(b:Bool):sn (l++[b])=sn l+(if b then 1 else 0):=by
 cases b<;>simp[sn]
