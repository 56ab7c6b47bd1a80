import Derived.Test.YtdchjefneblpgaaGreatP42
import Derived.Test.YtdchjefneblpgaaGreatGW
import Derived.Test.YtdchjefneblpgaaGreatGX
set_option linter.unusedVariables false
set_option linter.unusedSimpArgs false
namespace Go.Proofs.YtdchjefneblpgaaGreat
open Go.Sx Go.RowKit Go.Proofs.Tryz
theorem ahu{g:bX}{op:Int}{x:Node}(h:fW g op=some x):0<=op/\op<(↑(g.nodes.map Node.e).length:Int)/\(g.nodes.map Node.e)[op.toNat]?=some x.e:=by
 unfold fW at h;split at h
 ·have:=a8 h;exact⟨‹_›,by rw[bk];omega,bH Node.e h⟩
 cases h
theorem ahv(g:bX)(r:aG)(au:g.sz<=8388608):av 265 [.agg g.e,.agg r.e] [.one (B (dq g r))]:=by
 have k:=xC g au;have gF:=vd r;have HG:=Kz r.bw;cases h1:eg g with
 | false=>
  rw[h1]at k;rw[show dq g r=false by unfold dq;split<;>simp[jM,h1]];exact acp ⟨k,rfl,aa⟩
 | true=>
 rw[h1]at k;cases U:e4 r with
 | false=>
  rw[U]at gF;rw[show dq g r=false by unfold dq;split<;>simp[jM,U]];exact acq ⟨k,rfl,gF,rfl,aa⟩
 | true=>
 rw[U]at gF;cases aw:fW g r.op with
 | none=>
  rw[show dq g r=false by unfold dq;rw[aw]];exact acr ⟨k,rfl,gF,rfl,xz g r.op false (by rw[aw];rfl) au,rfl,aa⟩
 | some x=>
  obtain⟨m1,m2,m3⟩:=ahu aw;have HD:=xz g r.op true (by rw[aw];rfl) au;rw[show dq g r=jM g r x by unfold dq;rw[aw]];cases aH:(x.kind==7) with
  | false=>
   rw[show jM g r x=false by simp[jM,aH]];exact acv ⟨k,rfl,gF,rfl,HD,rfl,m1,m2,m3,HG,aH,aa⟩
  | true=>
  by_cases aU:0<x.outs.length
  ·rw[show jM g r x=!(eM r.bw).2 by simp[jM,h1,U,aH,aU]];exact acs ⟨k,rfl,gF,rfl,HD,rfl,m1,m2,m3,HG,aH,dW (by rw[bk];omega),aa⟩
  rw[show jM g r x=false by simp[jM,aU]];exact acu ⟨k,rfl,gF,rfl,HD,rfl,m1,m2,m3,HG,aH,eT (by rw[bk];omega),aa⟩
end Go.Proofs.YtdchjefneblpgaaGreat
namespace Go.Proofs.YtdchjefneblpgaaGreat
open Go.Sx Go.RowKit Go.Proofs.Tryz
section
variable {xs : List aG} {r : aG} {t : List aG}
theorem tN(h:xs=r::t):((xs.map aG.e).drop 1).take ((xs.map aG.e).length-1)=t.map aG.e:=by subst h;exact vX (by simp)
theorem k1(h:xs=r::t):(0:Int)<(↑(xs.map aG.e).length:Int):=by subst h;simp only[bk,dN];omega
theorem mM(h:xs=r::t):(xs.map aG.e)[0]?=some r.e:=by subst h;rfl
theorem mz(h:xs=r::t):((↑(xs.map aG.e).length:Int)==0)=false:=by
 have:=k1 h;rw[oQ,hZ,eD];omega
theorem rR(h:xs=[]):((↑(xs.map aG.e).length:Int)==0)=true:=by subst h;rfl
theorem rW(h:xs=r::t):decide ((↑(xs.map aG.e).length:Int)>0)=true:=dW (k1 h)
theorem iw(h:xs=[]):decide ((↑(xs.map aG.e).length:Int)>0)=false:=by subst h;rfl
theorem nd:(0:Int)<=(some (1:Int)).getD 0:=by decide
theorem nf(h:xs=r::t):(some (1:Int)).getD 0<=(none:Option Int).getD (↑(xs.map aG.e).length:Int):=by
 have:=k1 h;simp only[ij,Option.getD_none];omega
theorem ng{l:List (List D)}:(none:Option Int).getD (↑l.length:Int)<=(↑l.length:Int):=by simp
theorem qQ(h:xs=r::t)(al:xs.length<=8388608):(([]:List (List D)).length+(((xs.map aG.e).drop 1).take ((xs.map aG.e).length-1)).length)*40<=140737488355328:=by
 rw[tN h];refine nl ?_;subst h;simp only[bk,dN]at *;omega
theorem qR(h:xs=r::t)(al:xs.length<=8388608):([]:List (List D)).length+(((xs.map aG.e).drop 1).take ((xs.map aG.e).length-1)).length<=9223372036854775807:=by
 rw[tN h];refine jJ ?_;subst h;simp only[bk,dN]at *;omega
theorem qS(h:xs=r::t):Flat (((xs.map aG.e).drop 1).take ((xs.map aG.e).length-1)):=by rw[tN h];exact cf _ aG.flat _
theorem sh(h:xs=r::t):([]:List (List D))++((xs.map aG.e).drop 1).take ((xs.map aG.e).length-1)=t.map aG.e:=tN h
end
theorem wV{xs:List aG}{a:List D}(h:xs.length<=8388608):((xs.map aG.e).length+[a].length)*40<=140737488355328:=by simp;omega
theorem wW{xs:List aG}{a:List D}(h:xs.length<=8388608):(xs.map aG.e).length+[a].length<=9223372036854775807:=by simp;omega
theorem ahw(a:Int)(q:List aG)(r:aG)(b c d e:Int):bD.e ⟨a,q++[r],b,c,d,e⟩=[I a,.J 5 (q.map aG.e++[r.e]),I b,I c,I d,I e]:=by
 simp only[bD.e,hx];rfl
theorem KK{l:bD}(h:jm l=true):(0<=l.e0/\l.e0<=4)/\(0<=l.back/\l.back<=4)/\(0<=l.fs/\l.fs<=1000000000)/\(0<=l.du/\l.du<=1000000000)/\l.queue.length<=4:=by
 obtain⟨cT,b5,fq,pC,jI,ny,jh,nz⟩:=tJ.1 h;simp only[ap,cU]at cT b5 fq jI;omega
theorem SY(l:bD)(r:aG)(al:l.sz<=8388608):av 258 [.agg l.e,.agg r.e] [.agg (fh l r).1.e,.one (B (fh l r).2)]:=by
 have dV:=D6 l al;have k:=DT l al;have gF:=r9 r;have aE:l.queue.length<=8388608:=al;cases h1:jm l with
 | false=>
  rw[h1]at k;rw[show fh l r=(l,false) by unfold fh;simp[h1]];exact ahD ⟨dV,k,rfl,aa⟩
 | true=>
 rw[h1]at k;cases U:e4 r with
 | false=>
  rw[U]at gF;rw[show fh l r=(l,false) by unfold fh;simp[U]];exact ahE ⟨dV,k,rfl,gF,rfl,aa⟩
 | true=>
 rw[U]at gF;by_cases aw:l.e0=0
 ·rw[show fh l r=(l,false) by unfold fh;simp[aw]];exact ahF ⟨dV,k,rfl,gF,rfl,by rw[eD];exact aw,aa⟩
 have M8:(l.e0==0)=false:=by rw[oQ,hZ,eD];exact aw
 obtain⟨kv,ll,nE,kP,lV⟩:=KK h1;by_cases aH:l.fs<1000000000
 ·rw[show fh l r=(⟨l.cap,l.queue++[r],l.e0-1,l.back,l.fs+1,l.du⟩,true) by unfold fh;simp[h1,U,aw,aH]];dsimp only;rw[ahw];exact ahH ⟨dV,k,rfl,gF,rfl,M8,eT (by omega),wV aE,wW aE,dL (aG.flat r),⟨by omega,by omega⟩,⟨by omega,by omega⟩,aa⟩
 rw[show fh l r=(l,false) by unfold fh;simp[aH]];dsimp only;exact ahG ⟨dV,k,rfl,gF,rfl,M8,dW (by omega),aa⟩
theorem SZ(l:bD)(al:l.sz<=8388608):av 260 [.agg l.e] [.agg (eB l).1.e,.agg (eB l).2.1.e,.one (B (eB l).2.2)]:=by
 have dV:=D6 l al;have k:=DT l al;have aE:l.queue.length<=8388608:=al;cases h1:jm l with
 | false=>
  rw[h1]at k;rw[show eB l=(l,Ee,false) by unfold eB;simp[h1]];exact ahI ⟨dV,k,rfl,aa⟩
 | true=>
 rw[h1]at k;cases U:l.queue with
 | nil=>
  rw[show eB l=(l,Ee,false) by unfold eB;rw[br h1];simp only[U]];exact ahJ ⟨dV,k,rfl,rR U,aa⟩
 | cons r q=>
  obtain⟨kv,ll,nE,kP,lV⟩:=KK h1;rw[show eB l=(⟨l.cap,q,l.e0,l.back+1,l.fs,l.du+1⟩,r,true) by unfold eB;rw[br h1];simp only[U]];have e:bD.e ⟨l.cap,q,l.e0,l.back+1,l.fs,l.du+1⟩=[I l.cap,.J 5 (((l.queue.map aG.e).drop 1).take ((l.queue.map aG.e).length-1)),I l.e0,I (l.back+1),I l.fs,I (l.du+1)]:=by rw[tN U];rfl
  dsimp only;rw[e];exact ahK ⟨dV,k,rfl,mz U,by omega,k1 U,mM U,nd,nf U,ng,qQ U aE,qR U aE,qS U,⟨by omega,by omega⟩,⟨by omega,by omega⟩,aa⟩
theorem S0(l:bD)(al:l.sz<=8388608):av 261 [.agg l.e] [.agg (gw l).1.e,.one (B (gw l).2)]:=by
 have dV:=D6 l al;have k:=DT l al;cases h1:jm l with
 | false=>
  rw[h1]at k;rw[show gw l=(l,false) by unfold gw;simp[h1]];exact af1 ⟨dV,k,rfl,aa⟩
 | true=>
 rw[h1]at k;by_cases aw:l.back=0
 ·rw[show gw l=(l,false) by unfold gw;simp[aw]];exact af2 ⟨dV,k,rfl,by rw[eD];exact aw,aa⟩
 obtain⟨kv,ll,nE,kP,lV⟩:=KK h1;rw[show gw l=(⟨l.cap,l.queue,l.e0+1,l.back-1,l.fs,l.du⟩,true) by unfold gw;simp[h1,aw]];exact af3 ⟨dV,k,rfl,by rw[oQ,hZ,eD];exact aw,⟨by omega,by omega⟩,⟨by omega,by omega⟩,aa⟩
theorem ahx{n a b:Int}(aW:1<=n/\n<=4)(ah:ap a 0 (n-1)=true)(ar:ap b 0 (n-1)=true):ay .i64 (a*n)/\ay .i64 (a*n+b):=by
 simp only[ap,cU]at ah ar;have yO:n=1\/n=2\/n=3\/n=4:=by omega
 rcases yO with rfl | rfl | rfl | rfl<;>exact⟨⟨by omega,by omega⟩,⟨by omega,by omega⟩⟩
theorem KL{n:Int}(h:ay .i64 n):IntKind.i64.wrap n=n:=by
 obtain⟨h1,U⟩:=h;simp only[IntKind.wrap_i64];omega
theorem S1(g:bX)(a b:Int):∃v,av 61 [.agg g.e,.one (I a),.one (I b)] [.one (I v)]:=by
 cases ah:ap a 0 (IntKind.i64.wrap (g.az-1)) with
 | false=>exact⟨_,TF ⟨fz _ ah,rfl,aa⟩⟩
 | true=>
 cases ar:ap b 0 (IntKind.i64.wrap (g.az-1)) with
 | false=>exact⟨_,TG ⟨fz _ ah,rfl,fz _ ar,rfl,aa⟩⟩
 | true=>
 by_cases aW:g.az<1
 ·exact⟨_,af8 ⟨fz _ ah,rfl,fz _ ar,rfl,dW aW,aa⟩⟩
 exact⟨_,TH ⟨fz _ ah,rfl,fz _ ar,rfl,eT aW,aa⟩⟩
theorem KM(g:bX)(a b:Int)(aW:1<=g.az/\g.az<=4):av 61 [.agg g.e,.one (I a),.one (I b)] [.one (I (fi g a b))]:=by
 have i1:IntKind.i64.wrap (g.az-1)=g.az-1:=KL ⟨by omega,by omega⟩;have y9:∀(x:Int) (r:Bool),ap x 0 (g.az-1)=r->av 168 [.one (I x),.one (I 0),.one (I (IntKind.i64.wrap (g.az-1)))] [.one (B r)]:=fun x r h=>by
  rw[i1];exact fz _ h
 cases ah:ap a 0 (g.az-1) with
 | false=>
  rw[Aw (by rw[ah];rfl)];exact TF ⟨y9 _ _ ah,rfl,aa⟩
 | true=>
 cases ar:ap b 0 (g.az-1) with
 | false=>
  rw[Aw (by rw[ah,ar];rfl)];exact TG ⟨y9 _ _ ah,rfl,y9 _ _ ar,rfl,aa⟩
 | true=>
  obtain⟨uV,sZ⟩:=ahx aW ah ar;have key:av 61 [.agg g.e,.one (I a),.one (I b)] [.one (I (IntKind.i64.wrap (IntKind.i64.wrap (a*g.az)+b)))]:=TH ⟨y9 a true ah,rfl,y9 b true ar,rfl,eT (by omega),aa⟩;rw[KL uV,KL sZ]at key;rw[(J9 aW ah ar).1];exact key
theorem KN(w:aS)(r:aG):(kept w r).e=[.J 5 (w.queue.map aG.e++[r.e]),.J 5 (w.cm.map aG.e),.J 5 (w.b8.map aG.e),.J 4 (w.cells.map Cell.e),.J 1 (w.bK.map a'),.J 1 (w.bS.map cv),.J 1 (w.bC.map cv),.J 2 (w.b4.map cD.e)]:=by
 simp only[kept,aS.e,hx];rfl
theorem ahy(w:aS)(r:aG):(iA w r).e=[.J 5 (w.queue.map aG.e++[r.e]),.J 5 (w.cm.map aG.e),.J 5 (w.b8.map aG.e),.J 4 (w.cells.map Cell.e),.J 1 ((w.bK.map a').set r.bw.bc.toNat [I (w.bK.getD r.bw.bc.toNat 0-1)]),.J 1 ((w.bS.map cv).set r.bw.bc.toNat [B true]),.J 1 (w.bC.map cv),.J 2 (w.b4.map cD.e)]:=by
 simp only[iA,lT,aS.e,hx,jw];rfl
theorem ahz(w:aS)(e:Int):(mL w e).e=[.J 5 (w.queue.map aG.e),.J 5 (w.cm.map aG.e),.J 5 (w.b8.map aG.e),.J 4 (w.cells.map Cell.e),.J 1 ((w.bK.map a').set e.toNat [I (w.bK.getD e.toNat 0+1)]),.J 1 (w.bS.map cv),.J 1 (w.bC.map cv),.J 2 (w.b4.map cD.e)]:=by
 simp only[mL,lT,aS.e,jw];rfl
theorem ag0(g:bX)(w:aS)(au:g.sz<=8388608)(hw:w.sz<=8388608):av 169 [.agg g.e,.agg w.e] [.agg (eo g w).1.e,.one (B (eo g w).2)]:=by
 have dV:=JH w hw;have k:=xC g au;have kw:=DX g w au hw;have np:w.cells.length<=8388608:=by simp only[aS.sz]at hw;omega
 cases h1:eg g with
 | false=>
  rw[h1]at k;rw[show eo g w=(w,false) by unfold eo;simp[h1]];exact agv ⟨dV,k,rfl,aa⟩
 | true=>
 rw[h1]at k;cases U:eF g w with
 | false=>
  rw[U]at kw;rw[show eo g w=(w,false) by unfold eo;simp[U]];exact agw ⟨dV,k,rfl,kw,rfl,aa⟩
 | true=>
 rw[U]at kw;have hu:eo g w=match w.cm,w.queue with
  | [],r::q=>(⟨q,(dC g w.cells r).2.1,w.b8,(dC g w.cells r).1,w.bK,w.bS,(if dq g r then w.bC.set r.bw.bc.toNat true else w.bC),w.b4⟩,true)
  | _,_=>(w,false):=by unfold eo;rw[h1,U];rfl
 cases aw:w.cm with
 | cons r q=>
  rw[show eo g w=(w,false) by rw[hu,aw]];exact agx ⟨dV,k,rfl,kw,rfl,rW aw,aa⟩
 | nil=>
 cases aH:w.queue with
 | nil=>
  rw[show eo g w=(w,false) by rw[hu,aw,aH]];exact agy ⟨dV,k,rfl,kw,rfl,iw aw,rR aH,aa⟩
 | cons r q=>
  have st:=abZ g w.cells r au np;have mh:=ahv g r au;obtain⟨cT,_,_,_,_,_,jh,_⟩:=iU.1 U;rw[aH,sa]at cT;have he:=sb cT.1;obtain⟨c1,c2⟩:=uv jh he;cases aU:dq g r with
  | true=>
   rw[aU]at mh;rw[show eo g w=(⟨q,(dC g w.cells r).2.1,w.b8,(dC g w.cells r).1,w.bK,w.bS,w.bC.set r.bw.bc.toNat true,w.b4⟩,true) by rw[hu,aw,aH];simp only[aU,gy]];have e:aS.e ⟨q,(dC g w.cells r).2.1,w.b8,(dC g w.cells r).1,w.bK,w.bS,w.bC.set r.bw.bc.toNat true,w.b4⟩=[.J 5 (((w.queue.map aG.e).drop 1).take ((w.queue.map aG.e).length-1)),.J 5 ((dC g w.cells r).2.1.map aG.e),.J 5 (w.b8.map aG.e),.J 4 ((dC g w.cells r).1.map Cell.e),.J 1 (w.bK.map a'),.J 1 (w.bS.map cv),.J 1 ((w.bC.map cv).set r.bw.bc.toNat [B true]),.J 2 (w.b4.map cD.e)]:=by
    rw[tN aH];simp only[aS.e,jw];rfl
   dsimp only;rw[e];exact agz ⟨dV,k,rfl,kw,rfl,iw aw,mz aH,by omega,k1 aH,mM aH,nd,nf aH,ng,st,mh,rfl,he.1,c1,c2,aa⟩
  | false=>
   rw[aU]at mh;rw[show eo g w=(⟨q,(dC g w.cells r).2.1,w.b8,(dC g w.cells r).1,w.bK,w.bS,w.bC,w.b4⟩,true) by rw[hu,aw,aH];simp only[aU];rfl];have e:aS.e ⟨q,(dC g w.cells r).2.1,w.b8,(dC g w.cells r).1,w.bK,w.bS,w.bC,w.b4⟩=[.J 5 (((w.queue.map aG.e).drop 1).take ((w.queue.map aG.e).length-1)),.J 5 ((dC g w.cells r).2.1.map aG.e),.J 5 (w.b8.map aG.e),.J 4 ((dC g w.cells r).1.map Cell.e),.J 1 (w.bK.map a'),.J 1 (w.bS.map cv),.J 1 (w.bC.map cv),.J 2 (w.b4.map cD.e)]:=by
    rw[tN aH];rfl
   dsimp only;rw[e];exact afZ ⟨dV,k,rfl,kw,rfl,iw aw,mz aH,by omega,k1 aH,mM aH,nd,nf aH,ng,st,mh,rfl,aa⟩
theorem ag1(g:bX)(w:aS)(au:g.sz<=8388608)(hw:w.sz<=8388608):av 164 [.agg g.e,.agg w.e] [.agg (eC g w).1.e,.one (B (eC g w).2)]:=by
 have dV:=JH w hw;have k:=xC g au;have kw:=DX g w au hw;have aE:w.queue.length<=8388608:=by simp only[aS.sz]at hw;omega
 cases h1:eg g with
 | false=>
  rw[h1]at k;rw[show eC g w=(w,false) by unfold eC;simp[h1]];exact agp ⟨dV,k,rfl,aa⟩
 | true=>
 rw[h1]at k;cases U:eF g w with
 | false=>
  rw[U]at kw;rw[show eC g w=(w,false) by unfold eC;simp[U]];exact agq ⟨dV,k,rfl,kw,rfl,aa⟩
 | true=>
 rw[U]at kw;have hu:eC g w=match w.cm,w.queue,w.b8 with
  | [],[],r::t=>(⟨[r],[],t,w.cells,w.bK,w.bS,w.bC,w.b4⟩,true)
  | _,_,_=>(w,false):=by unfold eC;rw[h1,U];rfl
 cases aw:w.cm with
 | cons r q=>
  rw[show eC g w=(w,false) by rw[hu,aw]];exact agr ⟨dV,k,rfl,kw,rfl,rW aw,aa⟩
 | nil=>
 cases aH:w.queue with
 | cons r q=>
  rw[show eC g w=(w,false) by rw[hu,aw,aH]];exact ags ⟨dV,k,rfl,kw,rfl,iw aw,rW aH,aa⟩
 | nil=>
 cases aU:w.b8 with
 | nil=>
  rw[show eC g w=(w,false) by rw[hu,aw,aH,aU]];exact agt ⟨dV,k,rfl,kw,rfl,iw aw,iw aH,rR aU,aa⟩
 | cons r t=>
  rw[show eC g w=(⟨[r],[],t,w.cells,w.bK,w.bS,w.bC,w.b4⟩,true) by rw[hu,aw,aH,aU]];have e:aS.e ⟨[r],[],t,w.cells,w.bK,w.bS,w.bC,w.b4⟩=[.J 5 (w.queue.map aG.e++[r.e]),.J 5 (w.cm.map aG.e),.J 5 (((w.b8.map aG.e).drop 1).take ((w.b8.map aG.e).length-1)),.J 4 (w.cells.map Cell.e),.J 1 (w.bK.map a'),.J 1 (w.bS.map cv),.J 1 (w.bC.map cv),.J 2 (w.b4.map cD.e)]:=by
   rw[tN aU,aH,aw];rfl
  dsimp only;rw[e];exact agu ⟨dV,k,rfl,kw,rfl,iw aw,iw aH,mz aU,by omega,k1 aU,mM aU,wV aE,wW aE,dL (aG.flat r),nd,nf aU,ng,aa⟩
end Go.Proofs.YtdchjefneblpgaaGreat
namespace Go.Proofs.YtdchjefneblpgaaGreat
open Go.Sx Go.RowKit Go.Proofs.Tryz
variable{c:bd}{w:Int}
theorem S2(h:c9 c w=none):ap w 0 ((↑(c.az.map aS.e).length:Int)-1)=false:=by
 unfold c9 at h;simp only[ap,bk,mU];split at h
 ·rw[List.getElem?_eq_none_iff]at h;omega
 omega
variable{x:aS}
theorem KO(h:c9 c w=some x):ap w 0 ((↑(c.az.map aS.e).length:Int)-1)=true:=by
 obtain⟨h1,U,_⟩:=j7 h;simp only[ap,bk,cU];omega
theorem KP{i:Int}{x:bD}(h:hb c i=some x):0<=i/\i<(↑(c.bZ.map bD.e).length:Int)/\(c.bZ.map bD.e)[i.toNat]?=some x.e:=by
 obtain⟨h1,U,aw⟩:=qO h;exact⟨h1,by rw[bk];omega,bH bD.e aw⟩
theorem KQ{i:Int}{x:bD}(h:hb c i=some x)(ai:c.sz<=8388608):x.sz<=8388608:=bd.Hv ai (eA (qO h).2.2)
theorem Er(ai:c.sz<=8388608):ay .i64 ((↑(c.az.map aS.e).length:Int)-1):=by
 have:=bd.AP ai;exact⟨by rw[bk];omega,by rw[bk];omega⟩
theorem S3(c:bd)(w:Int)(y:aS):(setW c w y).e=[.J 4 (c.aF.nodes.map Node.e),I c.aF.az,I c.aF.cap,.J 8 ((c.az.map aS.e).set w.toNat y.e),.J 6 (c.bZ.map bD.e),.J 5 (c.tokens.map b0.e),.J 3 (c.news.map ca.e)]:=by simp only[setW,bd.e,jw]
theorem zW(c:bd)(w:Int)(y:aS)(b:Bool):lx (setW c w y) b=[.J 4 (c.aF.nodes.map Node.e),I c.aF.az,I c.aF.cap,.J 8 ((c.az.map aS.e).set w.toNat y.e),.J 6 (c.bZ.map bD.e),.J 5 (c.tokens.map b0.e),.J 3 (c.news.map ca.e),B b]:=by simp only[setW,lx,jw]
theorem S4(c:bd)(i:Int)(y:bD)(b:Bool):lx (eb c i y) b=[.J 4 (c.aF.nodes.map Node.e),I c.aF.az,I c.aF.cap,.J 8 (c.az.map aS.e),.J 6 ((c.bZ.map bD.e).set i.toNat y.e),.J 5 (c.tokens.map b0.e),.J 3 (c.news.map ca.e),B b]:=by simp only[eb,lx,jw]
theorem KR(c:bd)(w i:Int)(y:aS)(z:bD)(b:Bool):lx (setW (eb c i z) w y) b=[.J 4 (c.aF.nodes.map Node.e),I c.aF.az,I c.aF.cap,.J 8 ((c.az.map aS.e).set w.toNat y.e),.J 6 ((c.bZ.map bD.e).set i.toNat z.e),.J 5 (c.tokens.map b0.e),.J 3 (c.news.map ca.e),B b]:=by simp only[setW,eb,lx,jw]
theorem S5(c:bd)(w:Int)(ai:c.sz<=8388608)(hw:gA c):av 145 [.agg c.e,.one (I w)] [.one (B (cQ c&&(c9 c w).isSome))]:=by
 have k:=adJ c ai hw;cases ok:cQ c with
 | false=>rw[ok]at k;exact af0 ⟨k,rfl,aa⟩
 | true=>
  rw[ok]at k;cases ag:c9 c w with
  | none=>exact TD ⟨k,rfl,Er ai,ix _ (S2 ag),aa⟩
  | some x=>exact TD ⟨k,rfl,Er ai,ix _ (KO ag),aa⟩
theorem ag2(c:bd)(w:Int)(ai:c.sz<=8388608)(hw:gA c):av 44 [.agg c.e,.one (I w)] [.agg (fH c w).1.e,.one (B (fH c w).2)]:=by
 have dV:=RL c ai;have k:=S5 c w ai hw;cases ok:cQ c with
 | false=>
  rw[ok]at k;rw[show fH c w=(c,false) by unfold fH;simp[ok]];exact TC ⟨dV,k,rfl,aa⟩
 | true=>
 cases ag:c9 c w with
 | none=>
  rw[ok,ag]at k;rw[show fH c w=(c,false) by unfold fH;simp[ag]];exact TC ⟨dV,k,rfl,aa⟩
 | some x=>
  rw[ok,ag]at k;obtain⟨dD,dA,dQ⟩:=nW ag;rw[show fH c w=(setW c w (eo c.aF x).1,(eo c.aF x).2) by unfold fH;simp[ok,ag]];dsimp only;rw[S3];exact ago ⟨dV,k,rfl,dD,dA,dQ,ag0 c.aF x (bd.lL ai) (qP ag ai),dD,dA,dQ,aa⟩
theorem S6(c:bd)(w:Int)(ai:c.sz<=8388608)(hw:gA c):av 36 [.agg c.e,.one (I w)] [.agg (hr c w).1.e,.one (B (hr c w).2)]:=by
 have dV:=RL c ai;have k:=S5 c w ai hw;cases ok:cQ c with
 | false=>
  rw[ok]at k;rw[show hr c w=(c,false) by unfold hr;simp[ok]];exact TB ⟨dV,k,rfl,aa⟩
 | true=>
 cases ag:c9 c w with
 | none=>
  rw[ok,ag]at k;rw[show hr c w=(c,false) by unfold hr;simp[ag]];exact TB ⟨dV,k,rfl,aa⟩
 | some x=>
  rw[ok,ag]at k;obtain⟨dD,dA,dQ⟩:=nW ag;rw[show hr c w=(setW c w (eC c.aF x).1,(eC c.aF x).2) by unfold hr;simp[ok,ag]];dsimp only;rw[S3];exact agn ⟨dV,k,rfl,dD,dA,dQ,ag1 c.aF x (bd.lL ai) (qP ag ai),dD,dA,dQ,aa⟩
theorem S7(ok:cQ c=true)(ag:c9 c w=some x):x.bK.length=4/\x.bS.length=4/\x.bC.length=4/\(∀e:Int,0<=e/\e<=3->-1000000<=x.bK.getD e.toNat 0/\x.bK.getD e.toNat 0<=1000000):=by
 obtain⟨_,_,_,_,jI,ny,jh,_,rP,_⟩:=iU.1 (l0 ok ag);refine⟨jI,ny,jh,fun e he=>?_⟩;have al:e.toNat<x.bK.length:=by omega
 rw[hj]at rP;have:=rP _ (q3 al);rw[ii,gU al,ij];simpa only[mK,hv,kF,ap,cU,ub,Bool.not_not,Bool.not_eq_eq_eq_not,iW,mU,Classical.not_not]using this
variable{r:aG}{t:List aG}
theorem ag3(ok:cQ c=true)(ag:c9 c w=some x)(aj:x.cm=r::t):lX c w=ta c w x r t (j5 r.key c.aF.az):=by
 unfold lX;rw[br ok,ag];dsimp only;rw[aj]
theorem ag4{o:Int}(h:o=w):ta c w x r t o=(setW c w (kept (j6 x t) r),true):=br h
variable{l:bD}
theorem ag5{o:Int}(h:o≠w)(al:hb c (fi c.aF w o)=some l):ta c w x r t o=if (fh l r).2 then (setW (eb c (fi c.aF w o) (fh l r).1) w (mL (j6 x t) r.bw.bc),true) else (c,false):=by
 unfold ta;rw[bh h,al]
variable{a b:Int}
theorem S8(h:(ap a 0 (c.aF.az-1)&&ap b 0 (c.aF.az-1))=false):hb c (fi c.aF a b)=none:=by
 rw[Aw h];rfl
theorem ag6(ok:cQ c=true)(ho:a≠b)(al:hb c (fi c.aF a b)=some l)(ag:c9 c b=some x):lY c a b=if (eB l).2.2 then (setW (eb c (fi c.aF a b) (eB l).1) b (iA x (eB l).2.1),true) else (c,false):=by
 unfold lY;rw[br (by simp[ok,ho]),al,ag]
theorem ag7(ok:cQ c=true)(ho:a≠b)(al:hb c (fi c.aF a b)=some l):kZ c a b=(eb c (fi c.aF a b) (gw l).1,(gw l).2):=by
 unfold kZ;rw[br (by simp[ok,ho]),al]
theorem KS(c:bd)(w:Int)(ai:c.sz<=8388608):bY prog 257 [.ref (fp c) (fp c),.ro (.one (I w))] (.vals [.one (B (cQ c&&(c9 c w).isSome))]):=by
 unfold fp;cases ok:cQ c with
 | false=>exact ahT ⟨rfl,aa⟩
 | true=>
  cases ag:c9 c w with
  | none=>exact TJ ⟨rfl,Er ai,fz _ (S2 ag),aa⟩
  | some x=>exact TJ ⟨rfl,Er ai,fz _ (KO ag),aa⟩
def Em(x:aS)(e d:Int):aS:=⟨x.queue,x.cm,x.b8,x.cells,lT x.bK e d,x.bS,x.bC,x.b4⟩
theorem S9(w:aS)(e d:Int):(Em w e d).e=[.J 5 (w.queue.map aG.e),.J 5 (w.cm.map aG.e),.J 5 (w.b8.map aG.e),.J 4 (w.cells.map Cell.e),.J 1 ((w.bK.map a').set e.toNat [I (w.bK.getD e.toNat 0+d)]),.J 1 (w.bS.map cv),.J 1 (w.bC.map cv),.J 2 (w.b4.map cD.e)]:=by
 simp only[Em,lT,aS.e,jw];rfl
theorem S'(c:bd)(w e d:Int)(x:aS)(ag:c9 c w=some x)(aH:x.bK.length=4)(he:0<=e/\e<=3)(aD:-1<=d/\d<=1)(aj:-1000000<=x.bK.getD e.toNat 0/\x.bK.getD e.toNat 0<=1000000):
  bY prog 259 [.ref (lx c true) (lx (setW c w (Em x e d)) (ap (x.bK.getD e.toNat 0+d) (-1000000) 1000000)),.ro (.one (I w)),.ro (.one (I e)),.ro (.one (I d))] (.vals []):=by
 obtain⟨dD,dA,dQ⟩:=nW ag;obtain⟨s1,s2⟩:=Ho aH he;rw[zW,S9];exact ahY ⟨dD,dA,dQ,dD,dA,dQ,he.1,s1,s2,⟨by omega,by omega⟩,he.1,s1,s2,dQ,rfl,rfl,rfl,rfl,rfl,dD,by rw[e5];exact dA,rj dD dA,he.1,by rw[e5];exact s1,rj he.1 s1,ic _ _ _,aa⟩
theorem Ta(c:bd)(w:Int)(ai:c.sz<=8388608):bY prog 170 [.ref (fp c) (fp (fH c w).1),.ro (.one (I w))] (.vals [.one (B (fH c w).2)]):=by
 have post:=fun h=>adl (c:=c) (w:=w) h
 have is:=KS c w ai;cases ok:cQ c with
 | false=>
  rw[ok]at is;rw[show fH c w=(c,false) by unfold fH;simp[ok]];exact SV ⟨is,rfl,aa⟩
 | true=>
 replace post:=post ok;cases ag:c9 c w with
 | none=>
  rw[ok,ag]at is;rw[show fH c w=(c,false) by unfold fH;simp[ag]];exact SV ⟨is,rfl,aa⟩
 | some x=>
 rw[ok,ag]at is;obtain⟨dD,dA,dQ⟩:=nW ag;have di:=qP ag ai;have FI:=(iT.1 ok).1;have Es:=l0 ok ag;have hu:eo c.aF x=match x.cm,x.queue with
  | [],r::q=>(⟨q,(dC c.aF x.cells r).2.1,x.b8,(dC c.aF x.cells r).1,x.bK,x.bS,(if dq c.aF r then x.bC.set r.bw.bc.toNat true else x.bC),x.b4⟩,true)
  | _,_=>(x,false):=by unfold eo;rw[FI,Es];rfl
 have rV:fH c w=(setW c w (eo c.aF x).1,(eo c.aF x).2):=by unfold fH;simp[ok,ag]
 cases aw:x.cm with
 | cons r q=>
  rw[rV,show eo c.aF x=(x,false) by rw[hu,aw]];dsimp only;rw[td ag];exact ahe ⟨is,rfl,dD,dA,dQ,rW aw,aa⟩
 | nil=>
 cases aH:x.queue with
 | nil=>
  rw[rV,show eo c.aF x=(x,false) by rw[hu,aw,aH]];dsimp only;rw[td ag];exact ahf ⟨is,rfl,dD,dA,dQ,iw aw,rR aH,aa⟩
 | cons r q=>
  have np:x.cells.length<=8388608:=by simp only[aS.sz]at di;omega
  have lg:x.queue.length<=8388608:=by simp only[aS.sz]at di;omega
  have au:=bd.lL ai;have st:=Su c.aF x.cells r au np;have mh:=Sv c.aF r au;obtain⟨cT,_,_,_,_,_,jh,_⟩:=iU.1 Es;rw[aH,sa]at cT;have he:=sb cT.1;obtain⟨c1,c2⟩:=uv jh he;unfold fp at is ⊢;rw[post];rw[ok]at is ⊢;cases aU:dq c.aF r with
  | true=>
   rw[aU]at mh;rw[rV,show eo c.aF x=(⟨q,(dC c.aF x.cells r).2.1,x.b8,(dC c.aF x.cells r).1,x.bK,x.bS,x.bC.set r.bw.bc.toNat true,x.b4⟩,true) by rw[hu,aw,aH];simp only[aU,gy]];have e:aS.e ⟨q,(dC c.aF x.cells r).2.1,x.b8,(dC c.aF x.cells r).1,x.bK,x.bS,x.bC.set r.bw.bc.toNat true,x.b4⟩=[.J 5 ([]++((x.queue.map aG.e).drop 1).take ((x.queue.map aG.e).length-1)),.J 5 ((dC c.aF x.cells r).2.1.map aG.e),.J 5 (x.b8.map aG.e),.J 4 ((dC c.aF x.cells r).1.map Cell.e),.J 1 (x.bK.map a'),.J 1 (x.bS.map cv),.J 1 ((x.bC.map cv).set r.bw.bc.toNat [B true]),.J 2 (x.b4.map cD.e)]:=by
    rw[sh aH];simp only[aS.e,jw];rfl
   dsimp only;rw[zW,e];have key:=ahg ⟨is,rfl,dD,dA,dQ,iw aw,mz aH,by omega,k1 aH,mM aH,st,nd,nf aH,ng,qQ aH lg,qR aH lg,qS aH,mh,rfl,he.1,c1,c2,dQ,rfl,rfl,rfl,rfl,dD,by rw[e5];exact dA,rj dD dA,rfl,rfl,rfl,rfl,rfl,aa⟩;simp only[Bp]at key;exact key
  | false=>
   rw[aU]at mh;rw[rV,show eo c.aF x=(⟨q,(dC c.aF x.cells r).2.1,x.b8,(dC c.aF x.cells r).1,x.bK,x.bS,x.bC,x.b4⟩,true) by rw[hu,aw,aH];simp only[aU];rfl];have e:aS.e ⟨q,(dC c.aF x.cells r).2.1,x.b8,(dC c.aF x.cells r).1,x.bK,x.bS,x.bC,x.b4⟩=[.J 5 ([]++((x.queue.map aG.e).drop 1).take ((x.queue.map aG.e).length-1)),.J 5 ((dC c.aF x.cells r).2.1.map aG.e),.J 5 (x.b8.map aG.e),.J 4 ((dC c.aF x.cells r).1.map Cell.e),.J 1 (x.bK.map a'),.J 1 (x.bS.map cv),.J 1 (x.bC.map cv),.J 2 (x.b4.map cD.e)]:=by
    rw[sh aH];rfl
   dsimp only;rw[zW,e];exact ahh ⟨is,rfl,dD,dA,dQ,iw aw,mz aH,by omega,k1 aH,mM aH,st,nd,nf aH,ng,qQ aH lg,qR aH lg,qS aH,mh,rfl,dD,dA,dQ,rfl,rfl,rfl,rfl,rfl,aa⟩
theorem Tb(c:bd)(w:Int)(ai:c.sz<=8388608):bY prog 171 [.ref (fp c) (fp (hr c w).1),.ro (.one (I w))] (.vals [.one (B (hr c w).2)]):=by
 have post:=fun h=>adm (c:=c) (w:=w) h
 have is:=KS c w ai;cases ok:cQ c with
 | false=>
  rw[ok]at is;rw[show hr c w=(c,false) by unfold hr;simp[ok]];exact TI ⟨is,rfl,aa⟩
 | true=>
 replace post:=post ok;cases ag:c9 c w with
 | none=>
  rw[ok,ag]at is;rw[show hr c w=(c,false) by unfold hr;simp[ag]];exact TI ⟨is,rfl,aa⟩
 | some x=>
 rw[ok,ag]at is;obtain⟨dD,dA,dQ⟩:=nW ag;have di:=qP ag ai;have FI:=(iT.1 ok).1;have Es:=l0 ok ag;have jd:x.b8.length<=8388608:=by simp only[aS.sz]at di;omega
 have hu:eC c.aF x=match x.cm,x.queue,x.b8 with
  | [],[],r::t=>(⟨[r],[],t,x.cells,x.bK,x.bS,x.bC,x.b4⟩,true)
  | _,_,_=>(x,false):=by unfold eC;rw[FI,Es];rfl
 have rV:hr c w=(setW c w (eC c.aF x).1,(eC c.aF x).2):=by unfold hr;simp[ok,ag]
 cases aw:x.cm with
 | cons r q=>
  rw[rV,show eC c.aF x=(x,false) by rw[hu,aw]];dsimp only;rw[td ag];exact ahP ⟨is,rfl,dD,dA,dQ,rW aw,aa⟩
 | nil=>
 cases aH:x.queue with
 | cons r q=>
  rw[rV,show eC c.aF x=(x,false) by rw[hu,aw,aH]];dsimp only;rw[td ag];exact ahQ ⟨is,rfl,dD,dA,dQ,iw aw,rW aH,aa⟩
 | nil=>
 cases aU:x.b8 with
 | nil=>
  rw[rV,show eC c.aF x=(x,false) by rw[hu,aw,aH,aU]];dsimp only;rw[td ag];exact ahR ⟨is,rfl,dD,dA,dQ,iw aw,iw aH,rR aU,aa⟩
 | cons r t=>
  unfold fp at is ⊢;rw[post];rw[ok]at is ⊢;rw[rV,show eC c.aF x=(⟨[r],[],t,x.cells,x.bK,x.bS,x.bC,x.b4⟩,true) by rw[hu,aw,aH,aU]];have e:aS.e ⟨[r],[],t,x.cells,x.bK,x.bS,x.bC,x.b4⟩=[.J 5 ([r.e]),.J 5 (x.cm.map aG.e),.J 5 ([]++((x.b8.map aG.e).drop 1).take ((x.b8.map aG.e).length-1)),.J 4 (x.cells.map Cell.e),.J 1 (x.bK.map a'),.J 1 (x.bS.map cv),.J 1 (x.bC.map cv),.J 2 (x.b4.map cD.e)]:=by
   rw[sh aU,aw];rfl
  dsimp only;rw[zW,e];exact ahS ⟨is,rfl,dD,dA,dQ,iw aw,iw aH,mz aU,by omega,k1 aU,mM aU,nd,nf aU,ng,qQ aU jd,qR aU jd,qS aU,dD,dA,dQ,rfl,rfl,rfl,rfl,rfl,rfl,aa⟩
theorem ag8(c:bd)(w:Int)(ai:c.sz<=8388608):bY prog 151 [.ref (fp c) (fp (lX c w).1),.ro (.one (I w))] (.vals [.one (B (lX c w).2)]):=by
 have is:=KS c w ai;cases ok:cQ c with
 | false=>
  rw[ok]at is;rw[show lX c w=(c,false) by unfold lX;simp[ok]];exact SU ⟨is,rfl,aa⟩
 | true=>
 cases ag:c9 c w with
 | none=>
  rw[ok,ag]at is;rw[show lX c w=(c,false) by unfold lX;simp[ag]];exact SU ⟨is,rfl,aa⟩
 | some x=>
 rw[ok,ag]at is;obtain⟨dD,dA,dQ⟩:=nW ag;have di:=qP ag ai;have aW:=nV (iT.1 ok).1;cases aj:x.cm with
 | nil=>
  rw[show lX c w=(c,false) by unfold lX;rw[br ok,ag];dsimp only;rw[aj]];exact ahU ⟨is,rfl,dD,dA,dQ,rR aj,aa⟩
 | cons r t=>
  have u0:=QK r.key c.aF.az (by omega);have aA:=(J6 (l0 ok ag) aj).2;have he:=sb aA;have lg:x.queue.length<=8388608:=by simp only[aS.sz]at di;omega
  have oq:x.cm.length<=8388608:=by simp only[aS.sz]at di;omega
  obtain⟨f4,_,_,eH⟩:=S7 ok ag;rw[ag3 ok ag aj];have HJ:=ade r.key aW.1;generalize j5 r.key c.aF.az=o at u0 HJ;by_cases how:o=w
  ·have uG:(o != w)=false:=by simp[how]
   rw[ag4 how];unfold fp at is ⊢;dsimp only;rw[adj ok ag aj];rw[ok]at is ⊢;have e:(kept (j6 x t) r).e=[.J 5 (x.queue.map aG.e++[r.e]),.J 5 ([]++((x.cm.map aG.e).drop 1).take ((x.cm.map aG.e).length-1)),.J 5 (x.b8.map aG.e),.J 4 (x.cells.map Cell.e),.J 1 (x.bK.map a'),.J 1 (x.bS.map cv),.J 1 (x.bC.map cv),.J 2 (x.b4.map cD.e)]:=by
    rw[sh aj,KN];rfl
   rw[zW,e];have key:=ahX ⟨is,rfl,dD,dA,dQ,mz aj,dD,dA,dQ,by omega,k1 aj,mM aj,u0,uG,dD,dA,dQ,wV lg,wW lg,dQ,rfl,dL (aG.flat r),rfl,rfl,rfl,rfl,rfl,rfl,rfl,rfl,rfl,rfl,rfl,rfl,rfl,dD,dA,dQ,rfl,dD,by rw[e5];exact dA,rj dD dA,nd,nf aj,ng,qQ aj oq,qR aj oq,qS aj,dD,by rw[e5];exact dA,rj dD dA,aa⟩;simp only[Bp]at key;exact key
  have uG:(o != w)=true:=by simp[how]
  have win:ap w 0 (c.aF.az-1)=true:=by
   have:=KO ag;rwa[bk,(iT.1 ok).2.1]at this
  obtain⟨l,al⟩:=J' ok win HJ;obtain⟨qt,qu,qv⟩:=KP al;have aX:=KM c.aF w o aW;have ly:=SY l r (KQ al ai);have YL:=fun h=>adi ok ag aj HJ how al h
  rw[ag5 how al];cases bA:(fh l r).2 with
  | false=>
   rw[bA]at ly;exact ahV ⟨is,rfl,dD,dA,dQ,mz aj,dD,dA,dQ,by omega,k1 aj,mM aj,u0,uG,aX,qt,qu,qv,ly,rfl,aa⟩
  | true=>
   rw[bA]at ly;rw[br rfl];unfold fp at is ⊢;dsimp only;rw[YL bA];rw[ok]at is ⊢;have vR:=S' (eb c (fi c.aF w o) (fh l r).1) w r.bw.bc 1 x (Ax.trans ag) f4 he (by omega) (eH _ he);rw[S4,KR,S9]at vR;have e:(mL (j6 x t) r.bw.bc).e=[.J 5 (x.queue.map aG.e),.J 5 ([]++((x.cm.map aG.e).drop 1).take ((x.cm.map aG.e).length-1)),.J 5 (x.b8.map aG.e),.J 4 (x.cells.map Cell.e),.J 1 ((x.bK.map a').set r.bw.bc.toNat [I (x.bK.getD r.bw.bc.toNat 0+1)]),.J 1 (x.bS.map cv),.J 1 (x.bC.map cv),.J 2 (x.b4.map cD.e)]:=by
    rw[sh aj,ahz];rfl
   rw[KR,e];have key:=ahW ⟨is,rfl,dD,dA,dQ,mz aj,dD,dA,dQ,by omega,k1 aj,mM aj,u0,uG,aX,qt,qu,qv,ly,rfl,qt,qu,qv,vR,dD,by rw[e5];exact dA,rj dD dA,nd,nf aj,ng,qQ aj oq,qR aj oq,qS aj,dD,by rw[e5];exact dA,rj dD dA,aa⟩;simp only[Bp]at key;exact key
theorem ag9(c:bd)(a b:Int)(ai:c.sz<=8388608):bY prog 156 [.ref (fp c) (fp (lY c a b).1),.ro (.one (I a)),.ro (.one (I b))] (.vals [.one (B (lY c a b).2)]):=by
 cases ok:cQ c with
 | false=>
  rw[show lY c a b=(c,false) by unfold lY;simp[ok]];obtain⟨v,aX⟩:=S1 c.aF a b;unfold fp;rw[ok];exact ahZ ⟨aX,rfl,aa⟩
 | true=>
 have aW:=nV (iT.1 ok).1;have aX:=KM c.aF a b aW;cases bJ:(ap a 0 (c.aF.az-1)&&ap b 0 (c.aF.az-1)) with
 | false=>
  rw[Aw bJ]at aX;rw[show lY c a b=(c,false) by unfold lY;rw[S8 bJ];split<;>rfl];unfold fp;rw[ok];exact aha ⟨aX,rfl,dW (by decide),aa⟩
 | true=>
 rw[cx]at bJ;obtain⟨l,al⟩:=J' ok bJ.1 bJ.2;obtain⟨qt,qu,qv⟩:=KP al;by_cases ho:a=b
 ·rw[show lY c a b=(c,false) by unfold lY;simp[ho]];unfold fp;rw[ok];exact ahb ⟨aX,rfl,eT (by omega),by simp[ho],aa⟩
 have uG:(a==b)=false:=by simp[ho]
 obtain⟨x,ag⟩:∃x,c9 c b=some x:=by
  have ar:=bJ.2;have:=(iT.1 ok).2.1;simp only[ap,cU]at ar;exact D2 (by omega) (by omega)
 obtain⟨dD,dA,dQ⟩:=nW ag;have di:=qP ag ai;have AN:=SZ l (KQ al ai);have YO:=fun h=>adk ok al ag h
 rw[ag6 ok ho al ag];unfold fp;cases bA:(eB l).2.2 with
 | false=>
  rw[bA]at AN;rw[bh (by decide)];dsimp only;rw[ok];exact ahc ⟨aX,rfl,eT (by omega),uG,qt,qu,qv,AN,rfl,aa⟩
 | true=>
  rw[bA]at AN;rw[br rfl];dsimp only;rw[YO bA,ok];have aA:=(J8 (Av ok al) bA).2;have he:=sb aA;generalize (eB l).2.1=r at AN aA he ⊢;obtain⟨f4,Wo,_,eH⟩:=S7 ok ag;have lg:x.queue.length<=8388608:=by simp only[aS.sz]at di;omega
  obtain⟨gV,gm⟩:=uv Wo he;have jf:c9 (setW (eb c (fi c.aF a b) (eB l).1) b ⟨x.queue++[r],x.cm,x.b8,x.cells,x.bK,x.bS.set r.bw.bc.toNat true,x.bC,x.b4⟩) b=some ⟨x.queue++[r],x.cm,x.b8,x.cells,x.bK,x.bS.set r.bw.bc.toNat true,x.bC,x.b4⟩:=by
   obtain⟨q1,lm,_⟩:=j7 ag;unfold c9 setW eb;rw[br q1];exact List.getElem?_set_self lm
  have vR:=S' _ b r.bw.bc (-1) _ jf f4 he (by omega) (eH _ he);rw[KR]at vR;have e2:aS.e ⟨x.queue++[r],x.cm,x.b8,x.cells,x.bK,x.bS.set r.bw.bc.toNat true,x.bC,x.b4⟩=[.J 5 (x.queue.map aG.e++[r.e]),.J 5 (x.cm.map aG.e),.J 5 (x.b8.map aG.e),.J 4 (x.cells.map Cell.e),.J 1 (x.bK.map a'),.J 1 ((x.bS.map cv).set r.bw.bc.toNat [B true]),.J 1 (x.bC.map cv),.J 2 (x.b4.map cD.e)]:=by
   simp only[aS.e,hx,jw];rfl
  rw[e2,<-Bp]at vR;rw[show setW (setW (eb c (fi c.aF a b) (eB l).1) b ⟨x.queue++[r],x.cm,x.b8,x.cells,x.bK,x.bS.set r.bw.bc.toNat true,x.bC,x.b4⟩) b (Em ⟨x.queue++[r],x.cm,x.b8,x.cells,x.bK,x.bS.set r.bw.bc.toNat true,x.bC,x.b4⟩ r.bw.bc (-1))=setW (eb c (fi c.aF a b) (eB l).1) b (iA x r) by unfold setW eb;simp only[Bp];rfl]at vR;exact ahd ⟨aX,rfl,eT (by omega),uG,qt,qu,qv,AN,rfl,qt,qu,qv,dD,dA,dQ,wV lg,wW lg,dQ,rfl,dL (aG.flat r),rfl,rfl,rfl,rfl,rfl,rfl,rfl,dD,dA,dQ,rfl,dD,by rw[e5];exact dA,rj dD dA,he.1,gV,gm,rj dD dA,rfl,rfl,vR,aa⟩
theorem aiB(c:bd)(a b:Int)(ai:c.sz<=8388608):bY prog 158 [.ref (fp c) (fp (kZ c a b).1),.ro (.one (I a)),.ro (.one (I b))] (.vals [.one (B (kZ c a b).2)]):=by
 have post:=fun h=>adn (c:=c) (a:=a) (b:=b) h
 cases ok:cQ c with
 | false=>
  rw[show kZ c a b=(c,false) by unfold kZ;simp[ok]];obtain⟨v,aX⟩:=S1 c.aF a b;unfold fp;rw[ok];exact ahL ⟨aX,rfl,aa⟩
 | true=>
 replace post:=post ok;have aW:=nV (iT.1 ok).1;have aX:=KM c.aF a b aW;unfold fp;rw[post,ok];cases bJ:(ap a 0 (c.aF.az-1)&&ap b 0 (c.aF.az-1)) with
 | false=>
  rw[Aw bJ]at aX;rw[show kZ c a b=(c,false) by unfold kZ;rw[S8 bJ];split<;>rfl];exact ahM ⟨aX,rfl,dW (by decide),aa⟩
 | true=>
 rw[cx]at bJ;obtain⟨l,al⟩:=J' ok bJ.1 bJ.2;obtain⟨qt,qu,qv⟩:=KP al;by_cases ho:a=b
 ·rw[show kZ c a b=(c,false) by unfold kZ;simp[ho]];exact ahN ⟨aX,rfl,eT (by omega),by simp[ho],aa⟩
 rw[ag7 ok ho al];dsimp only;rw[S4];exact ahO ⟨aX,rfl,eT (by omega),by simp[ho],qt,qu,qv,S0 l (KQ al ai),qt,qu,qv,aa⟩
theorem Tc(c:bd)(p:dd)(ai:c.sz<=8388608):bY prog 128 [.ref (fp c) (fp (eJ c p).1),.ro (.agg p.e)] (.vals [.one (B (eJ c p).2)]):=by
 by_cases h1:p.kind=1
 ·rw[show eJ c p=fH c p.a by unfold eJ;simp[h1]];exact ahi ⟨by rw[eD];exact h1,Ta c p.a ai,aa⟩
 have kv:(p.kind==1)=false:=by rw[oQ,hZ,eD];exact h1
 by_cases U:p.kind=2
 ·rw[show eJ c p=hr c p.a by unfold eJ;simp[U]];exact ahj ⟨kv,by rw[eD];exact U,Tb c p.a ai,aa⟩
 have ll:(p.kind==2)=false:=by rw[oQ,hZ,eD];exact U
 by_cases aw:p.kind=3
 ·rw[show eJ c p=lX c p.a by unfold eJ;simp[aw]];exact ahk ⟨kv,ll,by rw[eD];exact aw,ag8 c p.a ai,aa⟩
 have nE:(p.kind==3)=false:=by rw[oQ,hZ,eD];exact aw
 by_cases aH:p.kind=4
 ·rw[show eJ c p=lY c p.a p.b by unfold eJ;simp[aH]];exact ahl ⟨kv,ll,nE,by rw[eD];exact aH,ag9 c p.a p.b ai,aa⟩
 have kP:(p.kind==4)=false:=by rw[oQ,hZ,eD];exact aH
 by_cases aU:p.kind=5
 ·rw[show eJ c p=kZ c p.a p.b by unfold eJ;simp[aU]];exact ahm ⟨kv,ll,nE,kP,by rw[eD];exact aU,aiB c p.a p.b ai,aa⟩
 have lV:(p.kind==5)=false:=by rw[oQ,hZ,eD];exact aU
 by_cases bA:p.kind=6
 ·rw[show eJ c p=k0 c p.a by unfold eJ;simp[bA]];exact ahn ⟨kv,ll,nE,kP,lV,by rw[eD];exact bA,aeD c p.a ai,aa⟩
 have n6:(p.kind==6)=false:=by rw[oQ,hZ,eD];exact bA
 by_cases bP:p.kind=7
 ·rw[show eJ c p=lZ c p.a by unfold eJ;simp[bP]];exact aho ⟨kv,ll,nE,kP,lV,n6,by rw[eD];exact bP,acZ c p.a ai,aa⟩
 have n7:(p.kind==7)=false:=by rw[oQ,hZ,eD];exact bP
 rw[show eJ c p=(c,false) by unfold eJ;simp[h1,U,aw,aH,aU,bA,bP]];exact ahp ⟨kv,ll,nE,kP,lV,n6,n7,aa⟩
end Go.Proofs.YtdchjefneblpgaaGreat
namespace Go.Proofs.YtdchjefneblpgaaGreat
open Go.Sx Go.RowKit Go.Proofs.Tryz
theorem Td(l:bD)(r:aG)(h:l.du<=9223372036854775807):(fh l r).1.du<=9223372036854775807:=by
 unfold fh;split<;>exact h
theorem Te(l:bD)(h:l.du<=9223372036854775807):(gw l).1.du<=9223372036854775807:=by
 unfold gw;split<;>exact h
theorem Tf(l:bD)(h:l.du<=9223372036854775807):(eB l).1.du<=9223372036854775807:=by
 unfold eB;split
 ·rename_i hk;obtain⟨_,_,_,_,jI,_,jh,_⟩:=tJ.1 hk;simp only[ap,cU]at jI;split
  ·exact h
  dsimp only;omega
 exact h
variable{c:bd}
theorem gA.eb{i:Int}{l:bD}(h:gA c)(al:l.du<=9223372036854775807):gA (eb c i l):=by
 intro x ag;rcases n2 ag with h1 | rfl
 ·exact h x h1
 exact al
theorem gA.at{i:Int}{x:bD}(h:hb c i=some x)(hw:gA c):x.du<=9223372036854775807:=hw _ (eA (qO h).2.2)
structure mW (c d:bd):Prop where
 aF:d.aF=c.aF
 du:gA c->gA d
 vT:d.az.length=c.az.length
theorem mW.rfl:mW c c:=⟨Eq.refl _,id,Eq.refl _⟩
theorem mW.bZ{d:bd}(h1:d.aF=c.aF)(U:d.bZ=c.bZ)(aw:d.az.length=c.az.length:=by simp[setW,jP,ev,eb,told,gG]):mW c d:=⟨h1,fun h x ag=>h x (U▸ag),aw⟩
theorem aiC(c:bd)(e:Int)(t:b0)(x:aS):mW c (fI c e t x).1:=by
 unfold fI;split
 ·split
  ·exact .bZ rfl rfl
  split
  ·split
   ·exact .bZ rfl rfl
   exact .rfl
  split
  ·exact .bZ rfl rfl
  exact .bZ rfl rfl
 exact .rfl
theorem aiD(c:bd)(p:dd):mW c (eJ c p).1:=by
 unfold eJ;split
 ·unfold fH;split
  ·split
   ·exact .bZ rfl rfl
   exact .rfl
  exact .rfl
 split
 ·unfold hr;split
  ·split
   ·exact .bZ rfl rfl
   exact .rfl
  exact .rfl
 split
 ·unfold lX;split
  ·split
   ·split
    ·unfold ta;split
     ·exact .bZ rfl rfl
     split
     ·rename_i l al;split
      ·exact⟨rfl,fun h=>gA.eb h (Td l _ (gA.at al h)),by simp[setW,eb]⟩
      exact .rfl
     exact .rfl
    exact .rfl
   exact .rfl
  exact .rfl
 split
 ·unfold lY;split
  ·split
   ·rename_i l x al ag;split
    ·exact⟨rfl,fun h=>gA.eb h (Tf l (gA.at al h)),by simp[setW,eb]⟩
    exact .rfl
   exact .rfl
  exact .rfl
 split
 ·unfold kZ;split
  ·split
   ·rename_i l al;exact⟨rfl,fun h=>gA.eb h (Te l (gA.at al h)),by simp[setW,eb]⟩
   exact .rfl
  exact .rfl
 split
 ·unfold k0;split
  ·split
   ·split
    ·exact .rfl
    split
    ·exact aiC c _ _ _
    exact .rfl
   exact .rfl
  exact .rfl
 split
 ·unfold lZ;split
  ·split
   ·split
    ·exact .bZ rfl rfl
    exact .rfl
   exact .rfl
  exact .rfl
 exact .rfl
theorem KT{α:Type}{f:α->List D}{xs:List α}{a:α}:(xs++[a]).map f=xs.map f++[f a]:=by simp
def dZ:bd->List dd->bd×List Bool
 | c,[]=>(c,[])
 | c,p::l=>((dZ (eJ c p).1 l).1,(eJ c p).2::(dZ (eJ c p).1 l).2)
theorem Tg(p:dd):∀(l:List dd) (c:bd),dZ c (l++[p])=((eJ (dZ c l).1 p).1,(dZ c l).2++[(eJ (dZ c l).1 p).2])
 | [],c=>rfl
 | q::l,c=>by
  have dP:=Tg p l (eJ c q).1;simp only[List.cons_append,dZ,dP]
theorem Th{l:List dd}{i:Nat}{p:dd}(c:bd)(h:l[i]?=some p):dZ c (l.take (i+1))=((eJ (dZ c (l.take i)).1 p).1,(dZ c (l.take i)).2++[(eJ (dZ c (l.take i)).1 p).2]):=by
 rw[vW,h,Fb,Tg]
theorem KU:∀(l:List dd) (c:bd),(dZ c l).2.length=l.length
 | [],_=>rfl
 | q::l,c=>by simp only[dZ,dN,KU l]
theorem D8:∀(l:List dd) (c:bd),(dZ c l).1.sz<=c.sz+4*l.length
 | [],c=>fk _
 | q::l,c=>by
  have:=D8 l (eJ c q).1;have:=JD c q;simp only[dZ,dN];omega
theorem mW.trans{d e:bd}(h:mW c d)(k:mW d e):mW c e:=⟨k.aF.trans h.aF,fun x=>k.du (h.du x),k.vT.trans h.vT⟩
theorem KV:∀(l:List dd) (c:bd),mW c (dZ c l).1
 | [],_=>.rfl
 | q::l,c=>(aiD c q).trans (KV l _)
theorem KW{α:Type}(i:Nat)(l:List α):(l.take i).length<=l.length:=by rw[oV];omega
theorem Ti(c:bd)(l:List dd)(i:Nat):(dZ c (l.take i)).1.sz<=c.sz+4*l.length:=by
 have:=D8 (l.take i) c;have:=KW i l;omega
def sH(l:List Bool):Nat:=(l.filter id).length
theorem aiE(l:List Bool):sH l<=l.length:=q2 _ _
theorem aiF(l:List Bool)(b:Bool):sH (l++[b])=sH l+(if b then 1 else 0):=by
 cases b<;>simp[sH]
