import Derived.Test.YtdchjefneblpgaaGreatP47
import Derived.Test.YtdchjefneblpgaaGreatGW
set_option linter.unusedVariables false
set_option linter.unusedSimpArgs false
namespace Go.Proofs.YtdchjefneblpgaaGreat
open Go.Sx Go.RowKit
theorem aum{g:b9}{op:Int}{x:Node}(h:gY g op=some x):0<=op/\op<(↑(g.nodes.map Node.e).length:Int)/\(g.nodes.map Node.e)[op.toNat]?=some x.e:=by
 unfold gY at h;split at h
 ·have:=aT h;exact⟨‹_›,by rw[bl];omega,bN Node.e h⟩
 cases h
theorem aun(g:b9)(r:aq)(ay:g.sz<=8388608):al 265 [.agg g.e,.agg r.e] [.one (B (du g r))]:=by
 have k:=y2 g ay;have gq:=vG r;have Kv:=Mf r.bq;cases h1:eM g with
 | false=>
  rw[h1]at k;rw[show du g r=false by unfold du;split<;>simp[kZ,h1]];exact akv ⟨k,rfl,aa⟩
 | true=>
 rw[h1]at k;cases U:fE r with
 | false=>
  rw[U]at gq;rw[show du g r=false by unfold du;split<;>simp[kZ,U]];exact akw ⟨k,rfl,gq,rfl,aa⟩
 | true=>
 rw[U]at gq;cases ax:gY g r.op with
 | none=>
  rw[show du g r=false by unfold du;rw[ax]];exact akx ⟨k,rfl,gq,rfl,yZ g r.op false (by rw[ax];rfl) ay,rfl,aa⟩
 | some x=>
  obtain⟨m1,m2,m3⟩:=aum ax;have Ks:=yZ g r.op true (by rw[ax];rfl) ay;rw[show du g r=kZ g r x by unfold du;rw[ax]];cases aF:(x.kind==7) with
  | false=>
   rw[show kZ g r x=false by simp[kZ,aF]];exact aj0 ⟨k,rfl,gq,rfl,Ks,rfl,m1,m2,m3,Kv,aF,aa⟩
  | true=>
  by_cases aZ:0<x.outs.length
  ·rw[show kZ g r x=!(fl r.bq).2 by simp[kZ,h1,U,aF,aZ]];exact ajY ⟨k,rfl,gq,rfl,Ks,rfl,m1,m2,m3,Kv,aF,dt (by rw[bl];omega),aa⟩
  rw[show kZ g r x=false by simp[kZ,aZ]];exact ajZ ⟨k,rfl,gq,rfl,Ks,rfl,m1,m2,m3,Kv,aF,dQ (by rw[bl];omega),aa⟩
end Go.Proofs.YtdchjefneblpgaaGreat
namespace Go.Proofs.YtdchjefneblpgaaGreat
open Go.Sx Go.RowKit
section
variable {xs : List aq} {r : aq} {t : List aq}
theorem sJ(h:xs=r::t):((xs.map aq.e).drop 1).take ((xs.map aq.e).length-1)=t.map aq.e:=by subst h;exact sS (by simp)
theorem lK(h:xs=r::t):(0:Int)<(↑(xs.map aq.e).length:Int):=by subst h;simp only[bl,eh];omega
theorem nf(h:xs=r::t):(xs.map aq.e)[0]?=some r.e:=by subst h;rfl
theorem lE(h:xs=r::t):((↑(xs.map aq.e).length:Int)==0)=false:=by
 have:=lK h;rw[jV,gy,dE];omega
theorem q9(h:xs=[]):((↑(xs.map aq.e).length:Int)==0)=true:=by subst h;rfl
theorem tF(h:xs=r::t):decide ((↑(xs.map aq.e).length:Int)>0)=true:=dt (lK h)
theorem jJ(h:xs=[]):decide ((↑(xs.map aq.e).length:Int)>0)=false:=by subst h;rfl
theorem nv:(0:Int)<=(some (1:Int)).getD 0:=by decide
theorem nx(h:xs=r::t):(some (1:Int)).getD 0<=(none:Option Int).getD (↑(xs.map aq.e).length:Int):=by
 have:=lK h;simp only[il,Option.getD_none];omega
theorem ny{l:List (List D)}:(none:Option Int).getD (↑l.length:Int)<=(↑l.length:Int):=by simp
theorem sK(h:xs=r::t)(ap:xs.length<=8388608):(([]:List (List D)).length+(((xs.map aq.e).drop 1).take ((xs.map aq.e).length-1)).length)*40<=140737488355328:=by
 rw[sJ h];refine nl ?_;subst h;simp only[bl,eh]at *;omega
theorem sj(h:xs=r::t)(ap:xs.length<=8388608):([]:List (List D)).length+(((xs.map aq.e).drop 1).take ((xs.map aq.e).length-1)).length<=9223372036854775807:=by
 rw[sJ h];refine kX ?_;subst h;simp only[bl,eh]at *;omega
theorem sk(h:xs=r::t):Flat (((xs.map aq.e).drop 1).take ((xs.map aq.e).length-1)):=by rw[sJ h];exact ch _ aq.flat _
theorem ub(h:xs=r::t):([]:List (List D))++((xs.map aq.e).drop 1).take ((xs.map aq.e).length-1)=t.map aq.e:=sJ h
end
theorem u7{xs:List aq}{a:List D}(h:xs.length<=8388608):((xs.map aq.e).length+[a].length)*40<=140737488355328:=by simp;omega
theorem u9{xs:List aq}{a:List D}(h:xs.length<=8388608):(xs.map aq.e).length+[a].length<=9223372036854775807:=by simp;omega
theorem X'(a:Int)(q:List aq)(r:aq)(b c d e:Int):bw.e ⟨a,q++[r],b,c,d,e⟩=[I a,.J 5 (q.map aq.e++[r.e]),I b,I c,I d,I e]:=by
 simp only[bw.e,fQ];rfl
theorem zY{l:bw}(h:jz l=true):(0<=l.eX/\l.eX<=4)/\(0<=l.back/\l.back<=4)/\(0<=l.fq/\l.fq<=1000000000)/\(0<=l.dy/\l.dy<=1000000000)/\l.queue.length<=4:=by
 obtain⟨cG,bM,gj,q7,kR,pb,kt,pc⟩:=vN.1 h;simp only[aw,cV]at cG bM gj kR;omega
theorem Ya(l:bw)(r:aq)(ap:l.sz<=8388608):al 258 [.agg l.e,.agg r.e] [.agg (ez l r).1.e,.one (B (ez l r).2)]:=by
 have cB:=GJ l ap;have k:=E' l ap;have gq:=tV r;have aK:l.queue.length<=8388608:=ap;cases h1:jz l with
 | false=>
  rw[h1]at k;rw[show ez l r=(l,false) by unfold ez;simp[h1]];exact atD ⟨cB,k,rfl,aa⟩
 | true=>
 rw[h1]at k;cases U:fE r with
 | false=>
  rw[U]at gq;rw[show ez l r=(l,false) by unfold ez;simp[U]];exact atE ⟨cB,k,rfl,gq,rfl,aa⟩
 | true=>
 rw[U]at gq;by_cases ax:l.eX=0
 ·rw[show ez l r=(l,false) by unfold ez;simp[ax]];exact atF ⟨cB,k,rfl,gq,rfl,by rw[dE];exact ax,aa⟩
 have AJ:(l.eX==0)=false:=by rw[jV,gy,dE];exact ax
 obtain⟨eZ,ga,gF,ju,kv⟩:=zY h1;by_cases aF:l.fq<1000000000
 ·rw[show ez l r=(⟨l.cap,l.queue++[r],l.eX-1,l.back,l.fq+1,l.dy⟩,true) by unfold ez;simp[h1,U,ax,aF]];dsimp only;rw[X'];exact as7 ⟨cB,k,rfl,gq,rfl,AJ,dQ (by omega),u7 aK,u9 aK,dD (aq.flat r),⟨by omega,by omega⟩,⟨by omega,by omega⟩,aa⟩
 rw[show ez l r=(l,false) by unfold ez;simp[aF]];dsimp only;exact atG ⟨cB,k,rfl,gq,rfl,AJ,dt (by omega),aa⟩
theorem Yb(l:bw)(ap:l.sz<=8388608):al 260 [.agg l.e] [.agg (dY l).1.e,.agg (dY l).2.1.e,.one (B (dY l).2.2)]:=by
 have cB:=GJ l ap;have k:=E' l ap;have aK:l.queue.length<=8388608:=ap;cases h1:jz l with
 | false=>
  rw[h1]at k;rw[show dY l=(l,xW,false) by unfold dY;simp[h1]];exact as9 ⟨cB,k,rfl,aa⟩
 | true=>
 rw[h1]at k;cases U:l.queue with
 | nil=>
  rw[show dY l=(l,xW,false) by unfold dY;rw[bm h1];simp only[U]];exact ata ⟨cB,k,rfl,q9 U,aa⟩
 | cons r q=>
  obtain⟨eZ,ga,gF,ju,kv⟩:=zY h1;rw[show dY l=(⟨l.cap,q,l.eX,l.back+1,l.fq,l.dy+1⟩,r,true) by unfold dY;rw[bm h1];simp only[U]];have e:bw.e ⟨l.cap,q,l.eX,l.back+1,l.fq,l.dy+1⟩=[I l.cap,.J 5 (((l.queue.map aq.e).drop 1).take ((l.queue.map aq.e).length-1)),I l.eX,I (l.back+1),I l.fq,I (l.dy+1)]:=by rw[sJ U];rfl
  dsimp only;rw[e];exact atb ⟨cB,k,rfl,lE U,by omega,lK U,nf U,nv,nx U,ny,sK U aK,sj U aK,sk U,⟨by omega,by omega⟩,⟨by omega,by omega⟩,aa⟩
theorem Yc(l:bw)(ap:l.sz<=8388608):al 261 [.agg l.e] [.agg (fO l).1.e,.one (B (fO l).2)]:=by
 have cB:=GJ l ap;have k:=E' l ap;cases h1:jz l with
 | false=>
  rw[h1]at k;rw[show fO l=(l,false) by unfold fO;simp[h1]];exact ats ⟨cB,k,rfl,aa⟩
 | true=>
 rw[h1]at k;by_cases ax:l.back=0
 ·rw[show fO l=(l,false) by unfold fO;simp[ax]];exact att ⟨cB,k,rfl,by rw[dE];exact ax,aa⟩
 obtain⟨eZ,ga,gF,ju,kv⟩:=zY h1;rw[show fO l=(⟨l.cap,l.queue,l.eX+1,l.back-1,l.fq,l.dy⟩,true) by unfold fO;simp[h1,ax]];exact atu ⟨cB,k,rfl,by rw[jV,gy,dE];exact ax,⟨by omega,by omega⟩,⟨by omega,by omega⟩,aa⟩
theorem auo(l:bw)(r:aq)(ap:l.sz<=8388608)(ay:l.dy<=9223372036854775807):al 149 [.agg l.e,.agg r.e] [.agg (ez l r).1.e,.one (B (ez l r).2)]:=by
 have cB:=GI l ap;have k:=E9 l ap ay;have gq:=vG r;have aK:l.queue.length<=8388608:=ap;cases h1:jz l with
 | false=>
  rw[h1]at k;rw[show ez l r=(l,false) by unfold ez;simp[h1]];exact atK ⟨cB,k,rfl,aa⟩
 | true=>
 rw[h1]at k;cases U:fE r with
 | false=>
  rw[U]at gq;rw[show ez l r=(l,false) by unfold ez;simp[U]];exact atL ⟨cB,k,rfl,gq,rfl,aa⟩
 | true=>
 rw[U]at gq;by_cases ax:l.eX=0
 ·rw[show ez l r=(l,false) by unfold ez;simp[ax]];exact atM ⟨cB,k,rfl,gq,rfl,by rw[dE];exact ax,aa⟩
 have AJ:(l.eX==0)=false:=by rw[jV,gy,dE];exact ax
 obtain⟨eZ,ga,gF,ju,kv⟩:=zY h1;by_cases aF:l.fq<1000000000
 ·rw[show ez l r=(⟨l.cap,l.queue++[r],l.eX-1,l.back,l.fq+1,l.dy⟩,true) by unfold ez;simp[h1,U,ax,aF]];dsimp only;rw[X'];exact atO ⟨cB,k,rfl,gq,rfl,AJ,by rw[jV,gy,dE];omega,u7 aK,u9 aK,dD (aq.flat r),⟨by omega,by omega⟩,⟨by omega,by omega⟩,aa⟩
 rw[show ez l r=(l,false) by unfold ez;simp[aF]];dsimp only;exact atN ⟨cB,k,rfl,gq,rfl,AJ,by rw[dE];omega,aa⟩
theorem aup(l:bw)(ap:l.sz<=8388608)(ay:l.dy<=9223372036854775807):al 154 [.agg l.e] [.agg (dY l).1.e,.agg (dY l).2.1.e,.one (B (dY l).2.2)]:=by
 have cB:=GI l ap;have k:=E9 l ap ay;have aK:l.queue.length<=8388608:=ap;cases h1:jz l with
 | false=>
  rw[h1]at k;rw[show dY l=(l,xW,false) by unfold dY;simp[h1]];exact atZ ⟨cB,k,rfl,aa⟩
 | true=>
 rw[h1]at k;cases U:l.queue with
 | nil=>
  rw[show dY l=(l,xW,false) by unfold dY;rw[bm h1];simp only[U]];exact at0 ⟨cB,k,rfl,q9 U,aa⟩
 | cons r q=>
  obtain⟨eZ,ga,gF,ju,kv⟩:=zY h1;rw[show dY l=(⟨l.cap,q,l.eX,l.back+1,l.fq,l.dy+1⟩,r,true) by unfold dY;rw[bm h1];simp only[U]];have e:bw.e ⟨l.cap,q,l.eX,l.back+1,l.fq,l.dy+1⟩=[I l.cap,.J 5 (((l.queue.map aq.e).drop 1).take ((l.queue.map aq.e).length-1)),I l.eX,I (l.back+1),I l.fq,I (l.dy+1)]:=by rw[sJ U];rfl
  dsimp only;rw[e];exact at1 ⟨cB,k,rfl,lE U,nv,nx U,ny,⟨by omega,by omega⟩,⟨by omega,by omega⟩,by omega,lK U,nf U,aa⟩
theorem auq(l:bw)(ap:l.sz<=8388608)(ay:l.dy<=9223372036854775807):al 157 [.agg l.e] [.agg (fO l).1.e,.one (B (fO l).2)]:=by
 have cB:=GI l ap;have k:=E9 l ap ay;cases h1:jz l with
 | false=>
  rw[h1]at k;rw[show fO l=(l,false) by unfold fO;simp[h1]];exact asE ⟨cB,k,rfl,aa⟩
 | true=>
 rw[h1]at k;by_cases ax:l.back=0
 ·rw[show fO l=(l,false) by unfold fO;simp[ax]];exact asF ⟨cB,k,rfl,by rw[dE];exact ax,aa⟩
 obtain⟨eZ,ga,gF,ju,kv⟩:=zY h1;rw[show fO l=(⟨l.cap,l.queue,l.eX+1,l.back-1,l.fq,l.dy⟩,true) by unfold fO;simp[h1,ax]];exact asG ⟨cB,k,rfl,by rw[jV,gy,dE];exact ax,⟨by omega,by omega⟩,⟨by omega,by omega⟩,aa⟩
theorem Yd{n a b:Int}(aX:1<=n/\n<=4)(ak:aw a 0 (n-1)=true)(av:aw b 0 (n-1)=true):aD .i64 (a*n)/\aD .i64 (a*n+b):=by
 simp only[aw,cV]at ak av;have A':n=1\/n=2\/n=3\/n=4:=by omega
 rcases A' with rfl | rfl | rfl | rfl<;>exact⟨⟨by omega,by omega⟩,⟨by omega,by omega⟩⟩
theorem Og{n:Int}(h:aD .i64 n):IntKind.i64.wrap n=n:=by
 obtain⟨h1,U⟩:=h;simp only[IntKind.wrap_i64];omega
theorem Ye(g:b9)(a b:Int):∃v,al 61 [.agg g.e,.one (I a),.one (I b)] [.one (I v)]:=by
 cases ak:aw a 0 (IntKind.i64.wrap (g.az-1)) with
 | false=>exact⟨_,X2 ⟨gb _ ak,rfl,aa⟩⟩
 | true=>
 cases av:aw b 0 (IntKind.i64.wrap (g.az-1)) with
 | false=>exact⟨_,X3 ⟨gb _ ak,rfl,gb _ av,rfl,aa⟩⟩
 | true=>
 by_cases aX:g.az<1
 ·exact⟨_,atz ⟨gb _ ak,rfl,gb _ av,rfl,dt aX,aa⟩⟩
 exact⟨_,X4 ⟨gb _ ak,rfl,gb _ av,rfl,dQ aX,aa⟩⟩
theorem Oh(g:b9)(a b:Int)(aX:1<=g.az/\g.az<=4):al 61 [.agg g.e,.one (I a),.one (I b)] [.one (I (fp g a b))]:=by
 have i1:IntKind.i64.wrap (g.az-1)=g.az-1:=Og ⟨by omega,by omega⟩;have Bw:∀(x:Int) (r:Bool),aw x 0 (g.az-1)=r->al 168 [.one (I x),.one (I 0),.one (I (IntKind.i64.wrap (g.az-1)))] [.one (B r)]:=fun x r h=>by
  rw[i1];exact gb _ h
 cases ak:aw a 0 (g.az-1) with
 | false=>
  rw[vO (by rw[ak];rfl)];exact X2 ⟨Bw _ _ ak,rfl,aa⟩
 | true=>
 cases av:aw b 0 (g.az-1) with
 | false=>
  rw[vO (by rw[ak,av];rfl)];exact X3 ⟨Bw _ _ ak,rfl,Bw _ _ av,rfl,aa⟩
 | true=>
  obtain⟨mO,se⟩:=Yd aX ak av;have key:al 61 [.agg g.e,.one (I a),.one (I b)] [.one (I (IntKind.i64.wrap (IntKind.i64.wrap (a*g.az)+b)))]:=X4 ⟨Bw a true ak,rfl,Bw b true av,rfl,dQ (by omega),aa⟩;rw[Og mO,Og se]at key;rw[(Gr aX ak av).1];exact key
theorem Yf(g:b9)(a b:Int)(aX:1<=g.az/\g.az<=4):al 60 [.agg g.e,.one (I a),.one (I b)] [.one (I (fp g a b))]:=by
 cases bJ:(aw a 0 (g.az-1)&&aw b 0 (g.az-1)) with
 | true=>
  rw[cx]at bJ;obtain⟨mO,se⟩:=Yd aX bJ.1 bJ.2;rw[(Gr aX bJ.1 bJ.2).1];obtain⟨ak,av⟩:=bJ;simp only[aw,cV]at ak av;exact ar9 ⟨dQ (by split<;>omega),dQ (by split<;>omega),mO,se,aa⟩
 | false=>
  rw[vO bJ];have r7:¬((0<=a/\a<=g.az-1)/\(0<=b/\b<=g.az-1)):=by
   intro k;have:(aw a 0 (g.az-1)&&aw b 0 (g.az-1))=true:=by simp only[aw,cx,cV];exact k
   rw[this]at bJ;cases bJ
  by_cases hm:(if b<a then b else a)<0
  ·exact ar7 ⟨dt hm,aa⟩
  ·exact ar8 ⟨dQ hm,dt (by split at hm<;>split<;>omega),aa⟩
theorem Cs(w:aP)(r:aq):(kept w r).e=[.J 5 (w.queue.map aq.e++[r.e]),.J 5 (w.cj.map aq.e),.J 5 (w.bO.map aq.e),.J 4 (w.cells.map Cell.e),.J 1 (w.bL.map bh),.J 1 (w.bU.map cD),.J 1 (w.bx.map cD),.J 2 (w.b8.map cR.e)]:=by
 simp only[kept,aP.e,fQ];rfl
theorem Yg(w:aP)(r:aq):(ig w r).e=[.J 5 (w.queue.map aq.e++[r.e]),.J 5 (w.cj.map aq.e),.J 5 (w.bO.map aq.e),.J 4 (w.cells.map Cell.e),.J 1 ((w.bL.map bh).set r.bq.bd.toNat [I (w.bL.getD r.bq.bd.toNat 0-1)]),.J 1 ((w.bU.map cD).set r.bq.bd.toNat [B true]),.J 1 (w.bx.map cD),.J 2 (w.b8.map cR.e)]:=by
 simp only[ig,nM,aP.e,fQ,h6];rfl
theorem Yh(w:aP)(e:Int):(lI w e).e=[.J 5 (w.queue.map aq.e),.J 5 (w.cj.map aq.e),.J 5 (w.bO.map aq.e),.J 4 (w.cells.map Cell.e),.J 1 ((w.bL.map bh).set e.toNat [I (w.bL.getD e.toNat 0+1)]),.J 1 (w.bU.map cD),.J 1 (w.bx.map cD),.J 2 (w.b8.map cR.e)]:=by
 simp only[lI,nM,aP.e,h6];rfl
theorem Yi(w:aP)(r:aq)(hw:w.sz<=8388608):al 148 [.agg w.e,.agg r.e] [.agg (kept w r).e]:=by
 have aK:w.queue.length<=8388608:=by simp only[aP.sz]at hw;omega
 rw[Cs];exact asH ⟨zO w hw,u7 aK,u9 aK,dD (aq.flat r),aa⟩
theorem aur(w:aP)(r:aq)(hw:w.sz<=8388608)(aF:w.bL.length=4)(av:w.bU.length=4)(he:0<=r.bq.bd/\r.bq.bd<=3)(ao:-1000000<=w.bL.getD r.bq.bd.toNat 0/\w.bL.getD r.bq.bd.toNat 0<=1000000):
  al 155 [.agg w.e,.agg r.e] [.agg (ig w r).e]:=by
 have k:=Yi w r hw;rw[Cs]at k;rw[Yg];obtain⟨s1,s2⟩:=yO aF he;obtain⟨eC,fG⟩:=rW av he;have qU:(if (↑(w.bU.map cD).length:Int)<(↑(w.bL.map bh).length:Int) then (↑(w.bU.map cD).length:Int) else (↑(w.bL.map bh).length:Int))-1=3:=by
  rw[bl,bl,aF,av];rfl
 exact atJ ⟨k,⟨by rw[qU];omega,by rw[qU];omega⟩,hA true (by rw[qU];simp only[aw,cV];omega),rfl,he.1,s1,s2,⟨by omega,by omega⟩,he.1,s1,s2,he.1,eC,fG,aa⟩
theorem aus(w:aP)(e:Int)(hw:w.sz<=8388608)(aF:w.bL.length=4)(he:0<=e/\e<=3)(ao:-1000000<=w.bL.getD e.toNat 0/\w.bL.getD e.toNat 0<=1000000):
  al 150 [.agg w.e,.one (I e)] [.agg (lI w e).e]:=by
 rw[Yh];obtain⟨s1,s2⟩:=yO aF he;have qU:(↑(w.bL.map bh).length:Int)-1=3:=by rw[bl,aF];rfl
 exact atP ⟨zO w hw,⟨by rw[qU];omega,by rw[qU];omega⟩,hA true (by rw[qU];simp only[aw,cV];omega),rfl,he.1,s1,s2,⟨by omega,by omega⟩,he.1,s1,s2,aa⟩
theorem aut(w:aP)(r:aq)(t:List aq)(hw:w.sz<=8388608)(h:w.cj=r::t):al 146 [.agg w.e] [.agg (hn w t).e,.agg r.e,.one (B true)]:=by
 have e:(hn w t).e=[.J 5 (w.queue.map aq.e),.J 5 (((w.cj.map aq.e).drop 1).take ((w.cj.map aq.e).length-1)),.J 5 (w.bO.map aq.e),.J 4 (w.cells.map Cell.e),.J 1 (w.bL.map bh),.J 1 (w.bU.map cD),.J 1 (w.bx.map cD),.J 2 (w.b8.map cR.e)]:=by rw[sJ h];rfl
 rw[e];exact ath ⟨zO w hw,lE h,nv,nx h,ny,by omega,lK h,nf h,aa⟩
theorem auu(g:b9)(w:aP)(ay:g.sz<=8388608)(hw:w.sz<=8388608):al 169 [.agg g.e,.agg w.e] [.agg (e6 g w).1.e,.one (B (e6 g w).2)]:=by
 have cB:=zO w hw;have k:=y2 g ay;have kw:=Fe g w ay hw;have nE:w.cells.length<=8388608:=by simp only[aP.sz]at hw;omega
 cases h1:eM g with
 | false=>
  rw[h1]at k;rw[show e6 g w=(w,false) by unfold e6;simp[h1]];exact ati ⟨cB,k,rfl,aa⟩
 | true=>
 rw[h1]at k;cases U:fe g w with
 | false=>
  rw[U]at kw;rw[show e6 g w=(w,false) by unfold e6;simp[U]];exact atj ⟨cB,k,rfl,kw,rfl,aa⟩
 | true=>
 rw[U]at kw;have hu:e6 g w=match w.cj,w.queue with
  | [],r::q=>(⟨q,(dB g w.cells r).2.1,w.bO,(dB g w.cells r).1,w.bL,w.bU,(if du g r then w.bx.set r.bq.bd.toNat true else w.bx),w.b8⟩,true)
  | _,_=>(w,false):=by unfold e6;rw[h1,U];rfl
 cases ax:w.cj with
 | cons r q=>
  rw[show e6 g w=(w,false) by rw[hu,ax]];exact atk ⟨cB,k,rfl,kw,rfl,tF ax,aa⟩
 | nil=>
 cases aF:w.queue with
 | nil=>
  rw[show e6 g w=(w,false) by rw[hu,ax,aF]];exact atl ⟨cB,k,rfl,kw,rfl,jJ ax,q9 aF,aa⟩
 | cons r q=>
  have st:=U8 g w.cells r ay nE;have n9:=aun g r ay;obtain⟨cG,_,_,_,_,_,kt,_⟩:=ke.1 U;rw[aF,tX]at cG;have he:=rj cG.1;obtain⟨c1,c2⟩:=rW kt he;cases aZ:du g r with
  | true=>
   rw[aZ]at n9;rw[show e6 g w=(⟨q,(dB g w.cells r).2.1,w.bO,(dB g w.cells r).1,w.bL,w.bU,w.bx.set r.bq.bd.toNat true,w.b8⟩,true) by rw[hu,ax,aF];simp only[aZ,fX]];have e:aP.e ⟨q,(dB g w.cells r).2.1,w.bO,(dB g w.cells r).1,w.bL,w.bU,w.bx.set r.bq.bd.toNat true,w.b8⟩=[.J 5 (((w.queue.map aq.e).drop 1).take ((w.queue.map aq.e).length-1)),.J 5 ((dB g w.cells r).2.1.map aq.e),.J 5 (w.bO.map aq.e),.J 4 ((dB g w.cells r).1.map Cell.e),.J 1 (w.bL.map bh),.J 1 (w.bU.map cD),.J 1 ((w.bx.map cD).set r.bq.bd.toNat [B true]),.J 2 (w.b8.map cR.e)]:=by
    rw[sJ aF];simp only[aP.e,h6];rfl
   dsimp only;rw[e];exact atm ⟨cB,k,rfl,kw,rfl,jJ ax,lE aF,by omega,lK aF,nf aF,nv,nx aF,ny,st,n9,rfl,he.1,c1,c2,aa⟩
  | false=>
   rw[aZ]at n9;rw[show e6 g w=(⟨q,(dB g w.cells r).2.1,w.bO,(dB g w.cells r).1,w.bL,w.bU,w.bx,w.b8⟩,true) by rw[hu,ax,aF];simp only[aZ];rfl];have e:aP.e ⟨q,(dB g w.cells r).2.1,w.bO,(dB g w.cells r).1,w.bL,w.bU,w.bx,w.b8⟩=[.J 5 (((w.queue.map aq.e).drop 1).take ((w.queue.map aq.e).length-1)),.J 5 ((dB g w.cells r).2.1.map aq.e),.J 5 (w.bO.map aq.e),.J 4 ((dB g w.cells r).1.map Cell.e),.J 1 (w.bL.map bh),.J 1 (w.bU.map cD),.J 1 (w.bx.map cD),.J 2 (w.b8.map cR.e)]:=by
    rw[sJ aF];rfl
   dsimp only;rw[e];exact atn ⟨cB,k,rfl,kw,rfl,jJ ax,lE aF,by omega,lK aF,nf aF,nv,nx aF,ny,st,n9,rfl,aa⟩
theorem auv(g:b9)(w:aP)(ay:g.sz<=8388608)(hw:w.sz<=8388608):al 164 [.agg g.e,.agg w.e] [.agg (e5 g w).1.e,.one (B (e5 g w).2)]:=by
 have cB:=zO w hw;have k:=y2 g ay;have kw:=Fe g w ay hw;have aK:w.queue.length<=8388608:=by simp only[aP.sz]at hw;omega
 cases h1:eM g with
 | false=>
  rw[h1]at k;rw[show e5 g w=(w,false) by unfold e5;simp[h1]];exact at2 ⟨cB,k,rfl,aa⟩
 | true=>
 rw[h1]at k;cases U:fe g w with
 | false=>
  rw[U]at kw;rw[show e5 g w=(w,false) by unfold e5;simp[U]];exact at3 ⟨cB,k,rfl,kw,rfl,aa⟩
 | true=>
 rw[U]at kw;have hu:e5 g w=match w.cj,w.queue,w.bO with
  | [],[],r::t=>(⟨[r],[],t,w.cells,w.bL,w.bU,w.bx,w.b8⟩,true)
  | _,_,_=>(w,false):=by unfold e5;rw[h1,U];rfl
 cases ax:w.cj with
 | cons r q=>
  rw[show e5 g w=(w,false) by rw[hu,ax]];exact at4 ⟨cB,k,rfl,kw,rfl,tF ax,aa⟩
 | nil=>
 cases aF:w.queue with
 | cons r q=>
  rw[show e5 g w=(w,false) by rw[hu,ax,aF]];exact at5 ⟨cB,k,rfl,kw,rfl,jJ ax,tF aF,aa⟩
 | nil=>
 cases aZ:w.bO with
 | nil=>
  rw[show e5 g w=(w,false) by rw[hu,ax,aF,aZ]];exact at6 ⟨cB,k,rfl,kw,rfl,jJ ax,jJ aF,q9 aZ,aa⟩
 | cons r t=>
  rw[show e5 g w=(⟨[r],[],t,w.cells,w.bL,w.bU,w.bx,w.b8⟩,true) by rw[hu,ax,aF,aZ]];have e:aP.e ⟨[r],[],t,w.cells,w.bL,w.bU,w.bx,w.b8⟩=[.J 5 (w.queue.map aq.e++[r.e]),.J 5 (w.cj.map aq.e),.J 5 (((w.bO.map aq.e).drop 1).take ((w.bO.map aq.e).length-1)),.J 4 (w.cells.map Cell.e),.J 1 (w.bL.map bh),.J 1 (w.bU.map cD),.J 1 (w.bx.map cD),.J 2 (w.b8.map cR.e)]:=by
   rw[sJ aZ,aF,ax];rfl
  dsimp only;rw[e];exact at7 ⟨cB,k,rfl,kw,rfl,jJ ax,jJ aF,lE aZ,by omega,lK aZ,nf aZ,u7 aK,u9 aK,dD (aq.flat r),nv,nx aZ,ny,aa⟩
