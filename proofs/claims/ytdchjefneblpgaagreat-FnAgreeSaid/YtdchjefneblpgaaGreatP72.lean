import Derived.Test.YtdchjefneblpgaaGreatP88
import Derived.Test.YtdchjefneblpgaaGreatGW
import Derived.Test.YtdchjefneblpgaaGreatGX
set_option linter.unusedVariables false
set_option linter.unusedSimpArgs false
namespace Go.Proofs.YtdchjefneblpgaaGreat
open Go.Sx Go.RowKit
theorem alM{g:b0}{op:Int}{x:Node}(h:fK g op=some x):0<=op/\op<(↑(g.nodes.map Node.e).length:Int)/\(g.nodes.map Node.e)[op.toNat]?=some x.e:=by
 unfold fK at h;split at h
 ·have:=aX h;exact⟨‹_›,by rw[bk];omega,bJ Node.e h⟩
 cases h
theorem alN(g:b0)(r:aE)(ar:g.sz<=8388608):aw 265 [.agg g.e,.agg r.e] [.one (B (ca g r))]:=by
 have k:=zb g ar;have fP:=vp r;have JW:=Mz r.bh;cases h1:eo g with
 | false=>
  rw[h1]at k;rw[show ca g r=false by unfold ca;split<;>simp[kZ,h1]];exact ac7 ⟨k,rfl,ae⟩
 | true=>
 rw[h1]at k;cases U:eD r with
 | false=>
  rw[U]at fP;rw[show ca g r=false by unfold ca;split<;>simp[kZ,U]];exact ac8 ⟨k,rfl,fP,rfl,ae⟩
 | true=>
 rw[U]at fP;cases ax:fK g r.op with
 | none=>
  rw[show ca g r=false by unfold ca;rw[ax]];exact ac9 ⟨k,rfl,fP,rfl,zI g r.op false (by rw[ax];rfl) ar,rfl,ae⟩
 | some x=>
  obtain⟨m1,m2,m3⟩:=alM ax;have JT:=zI g r.op true (by rw[ax];rfl) ar;rw[show ca g r=kZ g r x by unfold ca;rw[ax]];cases aF:(x.kind==7) with
  | false=>
   rw[show kZ g r x=false by simp[kZ,aF]];exact ade ⟨k,rfl,fP,rfl,JT,rfl,m1,m2,m3,JW,aF,ae⟩
  | true=>
  by_cases aQ:0<x.outs.length
  ·rw[show kZ g r x=!(eS r.bh).2 by simp[kZ,h1,U,aF,aQ]];exact ada ⟨k,rfl,fP,rfl,JT,rfl,m1,m2,m3,JW,aF,dr (by rw[bk];omega),ae⟩
  rw[show kZ g r x=false by simp[kZ,aQ]];exact adb ⟨k,rfl,fP,rfl,JT,rfl,m1,m2,m3,JW,aF,ee (by rw[bk];omega),ae⟩
end Go.Proofs.YtdchjefneblpgaaGreat
namespace Go.Proofs.YtdchjefneblpgaaGreat
open Go.Sx Go.RowKit
section
variable {xs : List aE} {r : aE} {t : List aE}
theorem sI(h:xs=r::t):((xs.map aE.e).drop 1).take ((xs.map aE.e).length-1)=t.map aE.e:=by subst h;exact vU (by simp)
theorem nT(h:xs=r::t):(0:Int)<(↑(xs.map aE.e).length:Int):=by subst h;simp only[bk,dJ];omega
theorem qj(h:xs=r::t):(xs.map aE.e)[0]?=some r.e:=by subst h;rfl
theorem nH(h:xs=r::t):((↑(xs.map aE.e).length:Int)==0)=false:=by
 have:=nT h;rw[h7,fM,dp];omega
theorem u1(h:xs=[]):((↑(xs.map aE.e).length:Int)==0)=true:=by subst h;rfl
theorem y'(h:xs=r::t):decide ((↑(xs.map aE.e).length:Int)>0)=true:=dr (nT h)
theorem mR(h:xs=[]):decide ((↑(xs.map aE.e).length:Int)>0)=false:=by subst h;rfl
theorem qD:(0:Int)<=(some (1:Int)).getD 0:=by decide
theorem qE(h:xs=r::t):(some (1:Int)).getD 0<=(none:Option Int).getD (↑(xs.map aE.e).length:Int):=by
 have:=nT h;simp only[jx,Option.getD_none];omega
theorem qF{l:List (List D)}:(none:Option Int).getD (↑l.length:Int)<=(↑l.length:Int):=by simp
theorem zV(h:xs=r::t)(aj:xs.length<=8388608):(([]:List (List D)).length+(((xs.map aE.e).drop 1).take ((xs.map aE.e).length-1)).length)*40<=140737488355328:=by
 rw[sI h];refine nl ?_;subst h;simp only[bk,dJ]at *;omega
theorem zW(h:xs=r::t)(aj:xs.length<=8388608):([]:List (List D)).length+(((xs.map aE.e).drop 1).take ((xs.map aE.e).length-1)).length<=9223372036854775807:=by
 rw[sI h];refine kY ?_;subst h;simp only[bk,dJ]at *;omega
theorem zX(h:xs=r::t):Flat (((xs.map aE.e).drop 1).take ((xs.map aE.e).length-1)):=by rw[sI h];exact cd _ aE.flat _
theorem Cg(h:xs=r::t):([]:List (List D))++((xs.map aE.e).drop 1).take ((xs.map aE.e).length-1)=t.map aE.e:=sI h
end
theorem y7{xs:List aE}{a:List D}(h:xs.length<=8388608):((xs.map aE.e).length+[a].length)*40<=140737488355328:=by simp;omega
theorem y8{xs:List aE}{a:List D}(h:xs.length<=8388608):(xs.map aE.e).length+[a].length<=9223372036854775807:=by simp;omega
theorem Vb(a:Int)(q:List aE)(r:aE)(b c d e:Int):bt.e ⟨a,q++[r],b,c,d,e⟩=[I a,.J 5 (q.map aE.e++[r.e]),I b,I c,I d,I e]:=by
 simp only[bt.e,jV];rfl
theorem zY{l:bt}(h:jm l=true):(0<=l.eC/\l.eC<=4)/\(0<=l.back/\l.back<=4)/\(0<=l.eF/\l.eF<=1000000000)/\(0<=l.dZ/\l.dZ<=1000000000)/\l.queue.length<=4:=by
 obtain⟨cy,bw,fc,mP,kb,pa,kU,pb⟩:=nR.1 h;simp only[ap,b']at cy bw fc kb;omega
theorem alO(l:bt)(r:aE)(aj:l.sz<=8388608):aw 258 [.agg l.e,.agg r.e] [.agg (ei l r).1.e,.one (B (ei l r).2)]:=by
 have cQ:=Gq l aj;have k:=FI l aj;have fP:=tW r;have aA:l.queue.length<=8388608:=aj;cases h1:jm l with
 | false=>
  rw[h1]at k;rw[show ei l r=(l,false) by unfold ei;simp[h1]];exact akt ⟨cQ,k,rfl,ae⟩
 | true=>
 rw[h1]at k;cases U:eD r with
 | false=>
  rw[U]at fP;rw[show ei l r=(l,false) by unfold ei;simp[U]];exact alW ⟨cQ,k,rfl,fP,rfl,ae⟩
 | true=>
 rw[U]at fP;by_cases ax:l.eC=0
 ·rw[show ei l r=(l,false) by unfold ei;simp[ax]];exact alX ⟨cQ,k,rfl,fP,rfl,by rw[dp];exact ax,ae⟩
 have AF:(l.eC==0)=false:=by rw[h7,fM,dp];exact ax
 obtain⟨hD,ih,ku,jh,kv⟩:=zY h1;by_cases aF:l.eF<1000000000
 ·rw[show ei l r=(⟨l.cap,l.queue++[r],l.eC-1,l.back,l.eF+1,l.dZ⟩,true) by unfold ei;simp[h1,U,ax,aF]];dsimp only;rw[Vb];exact alZ ⟨cQ,k,rfl,fP,rfl,AF,ee (by omega),y7 aA,y8 aA,dY (aE.flat r),⟨by omega,by omega⟩,⟨by omega,by omega⟩,ae⟩
 rw[show ei l r=(l,false) by unfold ei;simp[aF]];dsimp only;exact alY ⟨cQ,k,rfl,fP,rfl,AF,dr (by omega),ae⟩
theorem alP(l:bt)(aj:l.sz<=8388608):aw 260 [.agg l.e] [.agg (dI l).1.e,.agg (dI l).2.1.e,.one (B (dI l).2.2)]:=by
 have cQ:=Gq l aj;have k:=FI l aj;have aA:l.queue.length<=8388608:=aj;cases h1:jm l with
 | false=>
  rw[h1]at k;rw[show dI l=(l,z8,false) by unfold dI;simp[h1]];exact al0 ⟨cQ,k,rfl,ae⟩
 | true=>
 rw[h1]at k;cases U:l.queue with
 | nil=>
  rw[show dI l=(l,z8,false) by unfold dI;rw[aZ h1];simp only[U]];exact al1 ⟨cQ,k,rfl,u1 U,ae⟩
 | cons r q=>
  obtain⟨hD,ih,ku,jh,kv⟩:=zY h1;rw[show dI l=(⟨l.cap,q,l.eC,l.back+1,l.eF,l.dZ+1⟩,r,true) by unfold dI;rw[aZ h1];simp only[U]];have e:bt.e ⟨l.cap,q,l.eC,l.back+1,l.eF,l.dZ+1⟩=[I l.cap,.J 5 (((l.queue.map aE.e).drop 1).take ((l.queue.map aE.e).length-1)),I l.eC,I (l.back+1),I l.eF,I (l.dZ+1)]:=by rw[sI U];rfl
  dsimp only;rw[e];exact al2 ⟨cQ,k,rfl,nH U,by omega,nT U,qj U,qD,qE U,qF,zV U aA,zW U aA,zX U,⟨by omega,by omega⟩,⟨by omega,by omega⟩,ae⟩
theorem alQ(l:bt)(aj:l.sz<=8388608):aw 261 [.agg l.e] [.agg (fT l).1.e,.one (B (fT l).2)]:=by
 have cQ:=Gq l aj;have k:=FI l aj;cases h1:jm l with
 | false=>
  rw[h1]at k;rw[show fT l=(l,false) by unfold fT;simp[h1]];exact akS ⟨cQ,k,rfl,ae⟩
 | true=>
 rw[h1]at k;by_cases ax:l.back=0
 ·rw[show fT l=(l,false) by unfold fT;simp[ax]];exact akT ⟨cQ,k,rfl,by rw[dp];exact ax,ae⟩
 obtain⟨hD,ih,ku,jh,kv⟩:=zY h1;rw[show fT l=(⟨l.cap,l.queue,l.eC+1,l.back-1,l.eF,l.dZ⟩,true) by unfold fT;simp[h1,ax]];exact akk ⟨cQ,k,rfl,by rw[h7,fM,dp];exact ax,⟨by omega,by omega⟩,⟨by omega,by omega⟩,ae⟩
theorem alR(l:bt)(r:aE)(aj:l.sz<=8388608)(ar:l.dZ<=9223372036854775807):aw 149 [.agg l.e,.agg r.e] [.agg (ei l r).1.e,.one (B (ei l r).2)]:=by
 have cQ:=Gp l aj;have k:=FH l aj ar;have fP:=vp r;have aA:l.queue.length<=8388608:=aj;cases h1:jm l with
 | false=>
  rw[h1]at k;rw[show ei l r=(l,false) by unfold ei;simp[h1]];exact ala ⟨cQ,k,rfl,ae⟩
 | true=>
 rw[h1]at k;cases U:eD r with
 | false=>
  rw[U]at fP;rw[show ei l r=(l,false) by unfold ei;simp[U]];exact alb ⟨cQ,k,rfl,fP,rfl,ae⟩
 | true=>
 rw[U]at fP;by_cases ax:l.eC=0
 ·rw[show ei l r=(l,false) by unfold ei;simp[ax]];exact alc ⟨cQ,k,rfl,fP,rfl,by rw[dp];exact ax,ae⟩
 have AF:(l.eC==0)=false:=by rw[h7,fM,dp];exact ax
 obtain⟨hD,ih,ku,jh,kv⟩:=zY h1;by_cases aF:l.eF<1000000000
 ·rw[show ei l r=(⟨l.cap,l.queue++[r],l.eC-1,l.back,l.eF+1,l.dZ⟩,true) by unfold ei;simp[h1,U,ax,aF]];dsimp only;rw[Vb];exact ale ⟨cQ,k,rfl,fP,rfl,AF,by rw[h7,fM,dp];omega,y7 aA,y8 aA,dY (aE.flat r),⟨by omega,by omega⟩,⟨by omega,by omega⟩,ae⟩
 rw[show ei l r=(l,false) by unfold ei;simp[aF]];dsimp only;exact ald ⟨cQ,k,rfl,fP,rfl,AF,by rw[dp];omega,ae⟩
theorem alS(l:bt)(aj:l.sz<=8388608)(ar:l.dZ<=9223372036854775807):aw 154 [.agg l.e] [.agg (dI l).1.e,.agg (dI l).2.1.e,.one (B (dI l).2.2)]:=by
 have cQ:=Gp l aj;have k:=FH l aj ar;have aA:l.queue.length<=8388608:=aj;cases h1:jm l with
 | false=>
  rw[h1]at k;rw[show dI l=(l,z8,false) by unfold dI;simp[h1]];exact aky ⟨cQ,k,rfl,ae⟩
 | true=>
 rw[h1]at k;cases U:l.queue with
 | nil=>
  rw[show dI l=(l,z8,false) by unfold dI;rw[aZ h1];simp only[U]];exact akz ⟨cQ,k,rfl,u1 U,ae⟩
 | cons r q=>
  obtain⟨hD,ih,ku,jh,kv⟩:=zY h1;rw[show dI l=(⟨l.cap,q,l.eC,l.back+1,l.eF,l.dZ+1⟩,r,true) by unfold dI;rw[aZ h1];simp only[U]];have e:bt.e ⟨l.cap,q,l.eC,l.back+1,l.eF,l.dZ+1⟩=[I l.cap,.J 5 (((l.queue.map aE.e).drop 1).take ((l.queue.map aE.e).length-1)),I l.eC,I (l.back+1),I l.eF,I (l.dZ+1)]:=by rw[sI U];rfl
  dsimp only;rw[e];exact akA ⟨cQ,k,rfl,nH U,qD,qE U,qF,⟨by omega,by omega⟩,⟨by omega,by omega⟩,by omega,nT U,qj U,ae⟩
theorem alT(l:bt)(aj:l.sz<=8388608)(ar:l.dZ<=9223372036854775807):aw 157 [.agg l.e] [.agg (fT l).1.e,.one (B (fT l).2)]:=by
 have cQ:=Gp l aj;have k:=FH l aj ar;cases h1:jm l with
 | false=>
  rw[h1]at k;rw[show fT l=(l,false) by unfold fT;simp[h1]];exact ajS ⟨cQ,k,rfl,ae⟩
 | true=>
 rw[h1]at k;by_cases ax:l.back=0
 ·rw[show fT l=(l,false) by unfold fT;simp[ax]];exact ajT ⟨cQ,k,rfl,by rw[dp];exact ax,ae⟩
 obtain⟨hD,ih,ku,jh,kv⟩:=zY h1;rw[show fT l=(⟨l.cap,l.queue,l.eC+1,l.back-1,l.eF,l.dZ⟩,true) by unfold fT;simp[h1,ax]];exact ajk ⟨cQ,k,rfl,by rw[h7,fM,dp];exact ax,⟨by omega,by omega⟩,⟨by omega,by omega⟩,ae⟩
theorem Vc{n a b:Int}(aK:1<=n/\n<=4)(ad:ap a 0 (n-1)=true)(ao:ap b 0 (n-1)=true):aC .i64 (a*n)/\aC .i64 (a*n+b):=by
 simp only[ap,b']at ad ao;have A2:n=1\/n=2\/n=3\/n=4:=by omega
 rcases A2 with rfl | rfl | rfl | rfl<;>exact⟨⟨by omega,by omega⟩,⟨by omega,by omega⟩⟩
theorem Nk{n:Int}(h:aC .i64 n):IntKind.i64.wrap n=n:=by
 obtain⟨h1,U⟩:=h;simp only[IntKind.wrap_i64];omega
theorem Vd(g:b0)(a b:Int):∃v,aw 61 [.agg g.e,.one (I a),.one (I b)] [.one (I v)]:=by
 cases ad:ap a 0 (IntKind.i64.wrap (g.aq-1)) with
 | false=>exact⟨_,U4 ⟨fe _ ad,rfl,ae⟩⟩
 | true=>
 cases ao:ap b 0 (IntKind.i64.wrap (g.aq-1)) with
 | false=>exact⟨_,U5 ⟨fe _ ad,rfl,fe _ ao,rfl,ae⟩⟩
 | true=>
 by_cases aK:g.aq<1
 ·exact⟨_,akp ⟨fe _ ad,rfl,fe _ ao,rfl,dr aK,ae⟩⟩
 exact⟨_,U6 ⟨fe _ ad,rfl,fe _ ao,rfl,ee aK,ae⟩⟩
theorem Nl(g:b0)(a b:Int)(aK:1<=g.aq/\g.aq<=4):aw 61 [.agg g.e,.one (I a),.one (I b)] [.one (I (dX g a b))]:=by
 have i1:IntKind.i64.wrap (g.aq-1)=g.aq-1:=Nk ⟨by omega,by omega⟩;have Bj:∀(x:Int) (r:Bool),ap x 0 (g.aq-1)=r->aw 168 [.one (I x),.one (I 0),.one (I (IntKind.i64.wrap (g.aq-1)))] [.one (B r)]:=fun x r h=>by
  rw[i1];exact fe _ h
 cases ad:ap a 0 (g.aq-1) with
 | false=>
  rw[t' (by rw[ad];rfl)];exact U4 ⟨Bj _ _ ad,rfl,ae⟩
 | true=>
 cases ao:ap b 0 (g.aq-1) with
 | false=>
  rw[t' (by rw[ad,ao];rfl)];exact U5 ⟨Bj _ _ ad,rfl,Bj _ _ ao,rfl,ae⟩
 | true=>
  obtain⟨o',nG⟩:=Vc aK ad ao;have key:aw 61 [.agg g.e,.one (I a),.one (I b)] [.one (I (IntKind.i64.wrap (IntKind.i64.wrap (a*g.aq)+b)))]:=U6 ⟨Bj a true ad,rfl,Bj b true ao,rfl,ee (by omega),ae⟩;rw[Nk o',Nk nG]at key;rw[(vE aK ad ao).1];exact key
theorem Ve(g:b0)(a b:Int)(aK:1<=g.aq/\g.aq<=4):aw 60 [.agg g.e,.one (I a),.one (I b)] [.one (I (dX g a b))]:=by
 cases bC:(ap a 0 (g.aq-1)&&ap b 0 (g.aq-1)) with
 | true=>
  rw[b8]at bC;obtain⟨o',nG⟩:=Vc aK bC.1 bC.2;rw[(vE aK bC.1 bC.2).1];obtain⟨ad,ao⟩:=bC;simp only[ap,b']at ad ao;exact akW ⟨ee (by split<;>omega),ee (by split<;>omega),o',nG,ae⟩
 | false=>
  rw[t' bC];have r7:¬((0<=a/\a<=g.aq-1)/\(0<=b/\b<=g.aq-1)):=by
   intro k;have:(ap a 0 (g.aq-1)&&ap b 0 (g.aq-1))=true:=by simp only[ap,b8,b'];exact k
   rw[this]at bC;cases bC
  by_cases hm:(if b<a then b else a)<0
  ·exact akU ⟨dr hm,ae⟩
  ·exact akV ⟨ee hm,dr (by split at hm<;>split<;>omega),ae⟩
theorem Nn(w:aL)(r:aE):(kept w r).e=[.J 5 (w.queue.map aE.e++[r.e]),.J 5 (w.cp.map aE.e),.J 5 (w.bZ.map aE.e),.J 4 (w.cells.map Cell.e),.J 1 (w.bM.map ba),.J 1 (w.bV.map cI),.J 1 (w.bm.map cI),.J 2 (w.b1.map cD.e)]:=by
 simp only[kept,aL.e,jV];rfl
theorem alU(w:aL)(r:aE):(k1 w r).e=[.J 5 (w.queue.map aE.e++[r.e]),.J 5 (w.cp.map aE.e),.J 5 (w.bZ.map aE.e),.J 4 (w.cells.map Cell.e),.J 1 ((w.bM.map ba).set r.bh.a7.toNat [I (w.bM.getD r.bh.a7.toNat 0-1)]),.J 1 ((w.bV.map cI).set r.bh.a7.toNat [B true]),.J 1 (w.bm.map cI),.J 2 (w.b1.map cD.e)]:=by
 simp only[k1,mO,aL.e,jV,kG];rfl
theorem Vf(w:aL)(e:Int):(my w e).e=[.J 5 (w.queue.map aE.e),.J 5 (w.cp.map aE.e),.J 5 (w.bZ.map aE.e),.J 4 (w.cells.map Cell.e),.J 1 ((w.bM.map ba).set e.toNat [I (w.bM.getD e.toNat 0+1)]),.J 1 (w.bV.map cI),.J 1 (w.bm.map cI),.J 2 (w.b1.map cD.e)]:=by
 simp only[my,mO,aL.e,kG];rfl
theorem Vg(w:aL)(r:aE)(hw:w.sz<=8388608):aw 148 [.agg w.e,.agg r.e] [.agg (kept w r).e]:=by
 have aA:w.queue.length<=8388608:=by simp only[aL.sz]at hw;omega
 rw[Nn];exact ajt ⟨zP w hw,y7 aA,y8 aA,dY (aE.flat r),ae⟩
theorem alV(w:aL)(r:aE)(hw:w.sz<=8388608)(aF:w.bM.length=4)(ao:w.bV.length=4)(he:0<=r.bh.a7/\r.bh.a7<=3)(ai:-1000000<=w.bM.getD r.bh.a7.toNat 0/\w.bM.getD r.bh.a7.toNat 0<=1000000):
  aw 155 [.agg w.e,.agg r.e] [.agg (k1 w r).e]:=by
 have k:=Vg w r hw;rw[Nn]at k;rw[alU];obtain⟨s1,s2⟩:=Bm aF he;obtain⟨eU,fH⟩:=uz ao he;have wy:(if (↑(w.bV.map cI).length:Int)<(↑(w.bM.map ba).length:Int) then (↑(w.bV.map cI).length:Int) else (↑(w.bM.map ba).length:Int))-1=3:=by
  rw[bk,bk,aF,ao];rfl
 exact ak6 ⟨k,⟨by rw[wy];omega,by rw[wy];omega⟩,hN true (by rw[wy];simp only[ap,b'];omega),rfl,he.1,s1,s2,⟨by omega,by omega⟩,he.1,s1,s2,he.1,eU,fH,ae⟩
theorem alk(w:aL)(e:Int)(hw:w.sz<=8388608)(aF:w.bM.length=4)(he:0<=e/\e<=3)(ai:-1000000<=w.bM.getD e.toNat 0/\w.bM.getD e.toNat 0<=1000000):
  aw 150 [.agg w.e,.one (I e)] [.agg (my w e).e]:=by
 rw[Vf];obtain⟨s1,s2⟩:=Bm aF he;have wy:(↑(w.bM.map ba).length:Int)-1=3:=by rw[bk,aF];rfl
 exact alf ⟨zP w hw,⟨by rw[wy];omega,by rw[wy];omega⟩,hN true (by rw[wy];simp only[ap,b'];omega),rfl,he.1,s1,s2,⟨by omega,by omega⟩,he.1,s1,s2,ae⟩
theorem alm(w:aL)(r:aE)(t:List aE)(hw:w.sz<=8388608)(h:w.cp=r::t):aw 146 [.agg w.e] [.agg (iB w t).e,.agg r.e,.one (B true)]:=by
 have e:(iB w t).e=[.J 5 (w.queue.map aE.e),.J 5 (((w.cp.map aE.e).drop 1).take ((w.cp.map aE.e).length-1)),.J 5 (w.bZ.map aE.e),.J 4 (w.cells.map Cell.e),.J 1 (w.bM.map ba),.J 1 (w.bV.map cI),.J 1 (w.bm.map cI),.J 2 (w.b1.map cD.e)]:=by rw[sI h];rfl
 rw[e];exact akH ⟨zP w hw,nH h,qD,qE h,qF,by omega,nT h,qj h,ae⟩
theorem aln(g:b0)(w:aL)(ar:g.sz<=8388608)(hw:w.sz<=8388608):aw 169 [.agg g.e,.agg w.e] [.agg (gJ g w).1.e,.one (B (gJ g w).2)]:=by
 have cQ:=zP w hw;have k:=zb g ar;have kw:=E9 g w ar hw;have qU:w.cells.length<=8388608:=by simp only[aL.sz]at hw;omega
 cases h1:eo g with
 | false=>
  rw[h1]at k;rw[show gJ g w=(w,false) by unfold gJ;simp[h1]];exact akI ⟨cQ,k,rfl,ae⟩
 | true=>
 rw[h1]at k;cases U:e6 g w with
 | false=>
  rw[U]at kw;rw[show gJ g w=(w,false) by unfold gJ;simp[U]];exact akJ ⟨cQ,k,rfl,kw,rfl,ae⟩
 | true=>
 rw[U]at kw;have hu:gJ g w=match w.cp,w.queue with
  | [],r::q=>(⟨q,(dW g w.cells r).2.1,w.bZ,(dW g w.cells r).1,w.bM,w.bV,(if ca g r then w.bm.set r.bh.a7.toNat true else w.bm),w.b1⟩,true)
  | _,_=>(w,false):=by unfold gJ;rw[h1,U];rfl
 cases ax:w.cp with
 | cons r q=>
  rw[show gJ g w=(w,false) by rw[hu,ax]];exact akK ⟨cQ,k,rfl,kw,rfl,y' ax,ae⟩
 | nil=>
 cases aF:w.queue with
 | nil=>
  rw[show gJ g w=(w,false) by rw[hu,ax,aF]];exact akL ⟨cQ,k,rfl,kw,rfl,mR ax,u1 aF,ae⟩
 | cons r q=>
  have st:=acu g w.cells r ar qU;have s8:=alN g r ar;obtain⟨cy,_,_,_,_,_,kU,_⟩:=ik.1 U;rw[aF,ru]at cy;have he:=sD cy.1;obtain⟨c1,c2⟩:=uz kU he;cases aQ:ca g r with
  | true=>
   rw[aQ]at s8;rw[show gJ g w=(⟨q,(dW g w.cells r).2.1,w.bZ,(dW g w.cells r).1,w.bM,w.bV,w.bm.set r.bh.a7.toNat true,w.b1⟩,true) by rw[hu,ax,aF];simp only[aQ,fL]];have e:aL.e ⟨q,(dW g w.cells r).2.1,w.bZ,(dW g w.cells r).1,w.bM,w.bV,w.bm.set r.bh.a7.toNat true,w.b1⟩=[.J 5 (((w.queue.map aE.e).drop 1).take ((w.queue.map aE.e).length-1)),.J 5 ((dW g w.cells r).2.1.map aE.e),.J 5 (w.bZ.map aE.e),.J 4 ((dW g w.cells r).1.map Cell.e),.J 1 (w.bM.map ba),.J 1 (w.bV.map cI),.J 1 ((w.bm.map cI).set r.bh.a7.toNat [B true]),.J 2 (w.b1.map cD.e)]:=by
    rw[sI aF];simp only[aL.e,kG];rfl
   dsimp only;rw[e];exact akM ⟨cQ,k,rfl,kw,rfl,mR ax,nH aF,by omega,nT aF,qj aF,qD,qE aF,qF,st,s8,rfl,he.1,c1,c2,ae⟩
  | false=>
   rw[aQ]at s8;rw[show gJ g w=(⟨q,(dW g w.cells r).2.1,w.bZ,(dW g w.cells r).1,w.bM,w.bV,w.bm,w.b1⟩,true) by rw[hu,ax,aF];simp only[aQ];rfl];have e:aL.e ⟨q,(dW g w.cells r).2.1,w.bZ,(dW g w.cells r).1,w.bM,w.bV,w.bm,w.b1⟩=[.J 5 (((w.queue.map aE.e).drop 1).take ((w.queue.map aE.e).length-1)),.J 5 ((dW g w.cells r).2.1.map aE.e),.J 5 (w.bZ.map aE.e),.J 4 ((dW g w.cells r).1.map Cell.e),.J 1 (w.bM.map ba),.J 1 (w.bV.map cI),.J 1 (w.bm.map cI),.J 2 (w.b1.map cD.e)]:=by
    rw[sI aF];rfl
   dsimp only;rw[e];exact akN ⟨cQ,k,rfl,kw,rfl,mR ax,nH aF,by omega,nT aF,qj aF,qD,qE aF,qF,st,s8,rfl,ae⟩
theorem alo(g:b0)(w:aL)(ar:g.sz<=8388608)(hw:w.sz<=8388608):aw 164 [.agg g.e,.agg w.e] [.agg (gK g w).1.e,.one (B (gK g w).2)]:=by
 have cQ:=zP w hw;have k:=zb g ar;have kw:=E9 g w ar hw;have aA:w.queue.length<=8388608:=by simp only[aL.sz]at hw;omega
 cases h1:eo g with
 | false=>
  rw[h1]at k;rw[show gK g w=(w,false) by unfold gK;simp[h1]];exact akB ⟨cQ,k,rfl,ae⟩
 | true=>
 rw[h1]at k;cases U:e6 g w with
 | false=>
  rw[U]at kw;rw[show gK g w=(w,false) by unfold gK;simp[U]];exact akC ⟨cQ,k,rfl,kw,rfl,ae⟩
 | true=>
 rw[U]at kw;have hu:gK g w=match w.cp,w.queue,w.bZ with
  | [],[],r::t=>(⟨[r],[],t,w.cells,w.bM,w.bV,w.bm,w.b1⟩,true)
  | _,_,_=>(w,false):=by unfold gK;rw[h1,U];rfl
 cases ax:w.cp with
 | cons r q=>
  rw[show gK g w=(w,false) by rw[hu,ax]];exact akD ⟨cQ,k,rfl,kw,rfl,y' ax,ae⟩
 | nil=>
 cases aF:w.queue with
 | cons r q=>
  rw[show gK g w=(w,false) by rw[hu,ax,aF]];exact akE ⟨cQ,k,rfl,kw,rfl,mR ax,y' aF,ae⟩
 | nil=>
 cases aQ:w.bZ with
 | nil=>
  rw[show gK g w=(w,false) by rw[hu,ax,aF,aQ]];exact akF ⟨cQ,k,rfl,kw,rfl,mR ax,mR aF,u1 aQ,ae⟩
 | cons r t=>
  rw[show gK g w=(⟨[r],[],t,w.cells,w.bM,w.bV,w.bm,w.b1⟩,true) by rw[hu,ax,aF,aQ]];have e:aL.e ⟨[r],[],t,w.cells,w.bM,w.bV,w.bm,w.b1⟩=[.J 5 (w.queue.map aE.e++[r.e]),.J 5 (w.cp.map aE.e),.J 5 (((w.bZ.map aE.e).drop 1).take ((w.bZ.map aE.e).length-1)),.J 4 (w.cells.map Cell.e),.J 1 (w.bM.map ba),.J 1 (w.bV.map cI),.J 1 (w.bm.map cI),.J 2 (w.b1.map cD.e)]:=by
   rw[sI aQ,aF,ax];rfl
  dsimp only;rw[e];exact akG ⟨cQ,k,rfl,kw,rfl,mR ax,mR aF,nH aQ,by omega,nT aQ,qj aQ,y7 aA,y8 aA,dY (aE.flat r),qD,qE aQ,qF,ae⟩
