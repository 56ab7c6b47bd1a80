import Derived.Test.YtdchjefneblpgaaGreatP88
import Derived.Test.YtdchjefneblpgaaGreatGW
import Derived.Test.YtdchjefneblpgaaGreatGX
set_option linter.unusedVariables false
set_option linter.unusedSimpArgs false
namespace Go.Proofs.YtdchjefneblpgaaGreat
open Go.Sx Go.RowKit Go.Proofs.Tryz
theorem atB{g:bV}{op:Int}{x:Node}(h:fS g op=some x):0<=op/\op<(↑(g.nodes.map Node.e).length:Int)/\(g.nodes.map Node.e)[op.toNat]?=some x.e:=by
 unfold fS at h;split at h
 ·have:=a1 h;exact⟨‹_›,by rw[ct];omega,bQ Node.e h⟩
 cases h
theorem atC(g:bV)(r:az)(ax:g.sz<=8388608):aq 265 [.agg g.e,.agg r.e] [.one (B (cf g r))]:=by
 have k:=AA g ax;have gn:=vQ r;have K9:=No r.bi;cases h1:eh g with
 | false=>
  rw[h1]at k;rw[show cf g r=false by unfold cf;split<;>simp[kN,h1]];exact aqm ⟨k,rfl,aa⟩
 | true=>
 rw[h1]at k;cases U:eJ r with
 | false=>
  rw[U]at gn;rw[show cf g r=false by unfold cf;split<;>simp[kN,U]];exact aqn ⟨k,rfl,gn,rfl,aa⟩
 | true=>
 rw[U]at gn;cases aA:fS g r.op with
 | none=>
  rw[show cf g r=false by unfold cf;rw[aA]];exact aqo ⟨k,rfl,gn,rfl,Ao g r.op false (by rw[aA];rfl) ax,rfl,aa⟩
 | some x=>
  obtain⟨m1,m2,m3⟩:=atB aA;have K6:=Ao g r.op true (by rw[aA];rfl) ax;rw[show cf g r=kN g r x by unfold cf;rw[aA]];cases aJ:(x.kind==7) with
  | false=>
   rw[show kN g r x=false by simp[kN,aJ]];exact apB ⟨k,rfl,gn,rfl,K6,rfl,m1,m2,m3,K9,aJ,aa⟩
  | true=>
  by_cases a':0<x.outs.length
  ·rw[show kN g r x=!(e9 r.bi).2 by simp[kN,h1,U,aJ,a']];exact aqp ⟨k,rfl,gn,rfl,K6,rfl,m1,m2,m3,K9,aJ,dh (by rw[ct];omega),aa⟩
  rw[show kN g r x=false by simp[kN,a']];exact aqq ⟨k,rfl,gn,rfl,K6,rfl,m1,m2,m3,K9,aJ,ea (by rw[ct];omega),aa⟩
end Go.Proofs.YtdchjefneblpgaaGreat
namespace Go.Proofs.YtdchjefneblpgaaGreat
open Go.Sx Go.RowKit Go.Proofs.Tryz
section
variable {xs : List az} {r : az} {t : List az}
theorem vA(h:xs=r::t):((xs.map az.e).drop 1).take ((xs.map az.e).length-1)=t.map az.e:=by grind
theorem mw(h:xs=r::t):(0:Int)<(↑(xs.map az.e).length:Int):=by grind
theorem nf(h:xs=r::t):(xs.map az.e)[0]?=some r.e:=by subst h;rfl
theorem ly(h:xs=r::t):((↑(xs.map az.e).length:Int)==0)=false:=by
 grind
theorem rm(h:xs=[]):((↑(xs.map az.e).length:Int)==0)=true:=by subst h;rfl
theorem tW(h:xs=r::t):decide ((↑(xs.map az.e).length:Int)>0)=true:=dh (mw h)
theorem jB(h:xs=[]):decide ((↑(xs.map az.e).length:Int)>0)=false:=by subst h;rfl
theorem nt:(0:Int)<=(some (1:Int)).getD 0:=by decide
theorem nu(h:xs=r::t):(some (1:Int)).getD 0<=(none:Option Int).getD (↑(xs.map az.e).length:Int):=by
 grind
theorem nv{l:List (List D)}:(none:Option Int).getD (↑l.length:Int)<=(↑l.length:Int):=by simp
theorem sF(h:xs=r::t)(al:xs.length<=8388608):(([]:List (List D)).length+(((xs.map az.e).drop 1).take ((xs.map az.e).length-1)).length)*40<=140737488355328:=by
 grind
theorem sG(h:xs=r::t)(al:xs.length<=8388608):([]:List (List D)).length+(((xs.map az.e).drop 1).take ((xs.map az.e).length-1)).length<=9223372036854775807:=by
 grind
theorem sH(h:xs=r::t):Flat (((xs.map az.e).drop 1).take ((xs.map az.e).length-1)):=by grind[vA,dz,az.flat]
theorem uu(h:xs=r::t):([]:List (List D))++((xs.map az.e).drop 1).take ((xs.map az.e).length-1)=t.map az.e:=vA h
end
theorem vk{xs:List az}{a:List D}(h:xs.length<=8388608):((xs.map az.e).length+[a].length)*40<=140737488355328:=by simp;omega
theorem vl{xs:List az}{a:List D}(h:xs.length<=8388608):(xs.map az.e).length+[a].length<=9223372036854775807:=by simp;omega
theorem XH(a:Int)(q:List az)(r:az)(b c d e:Int):bm.e ⟨a,q++[r],b,c,d,e⟩=[I a,.J 5 (q.map az.e++[r.e]),I b,I c,I d,I e]:=by
 grind[bm.e]
theorem zY{l:bm}(h:jf l=true):(0<=l.eL/\l.eL<=4)/\(0<=l.back/\l.back<=4)/\(0<=l.eo/\l.eo<=1000000000)/\(0<=l.cW/\l.cW<=1000000000)/\l.queue.length<=4:=by
 obtain⟨cS,bt,fP,pa,kI,pb,k6,qk⟩:=pz.1 h;simp only[av,ck]at cS bt fP kI;omega
theorem XI(l:bm)(r:az)(al:l.sz<=8388608):aq 258 [.agg l.e,.agg r.e] [.agg (ef l r).1.e,.one (B (ef l r).2)]:=by
 have cF:=Hp l al;have k:=GQ l al;have gn:=uj r;have aH:l.queue.length<=8388608:=al;cases h1:jf l with
 | false=>
  rw[h1]at k;rw[show ef l r=(l,false) by grind[ef]];exact auk ⟨cF,k,rfl,aa⟩
 | true=>
 rw[h1]at k;cases U:eJ r with
 | false=>
  rw[U]at gn;rw[show ef l r=(l,false) by grind[ef]];exact aul ⟨cF,k,rfl,gn,rfl,aa⟩
 | true=>
 rw[U]at gn;by_cases aA:l.eL=0
 ·rw[show ef l r=(l,false) by grind[ef]];exact aum ⟨cF,k,rfl,gn,rfl,by grind,aa⟩
 have Be:(l.eL==0)=false:=by grind
 obtain⟨h5,iy,kM,jz,k7⟩:=zY h1;by_cases aJ:l.eo<1000000000
 ·rw[show ef l r=(⟨l.cap,l.queue++[r],l.eL-1,l.back,l.eo+1,l.cW⟩,true) by grind[ef]];dsimp only;rw[XH];exact auo ⟨cF,k,rfl,gn,rfl,Be,ea (by omega),vk aH,vl aH,fE (az.flat r),⟨by omega,by omega⟩,⟨by omega,by omega⟩,aa⟩
 rw[show ef l r=(l,false) by grind[ef]];dsimp only;exact aun ⟨cF,k,rfl,gn,rfl,Be,dh (by omega),aa⟩
theorem XJ(l:bm)(al:l.sz<=8388608):aq 260 [.agg l.e] [.agg (dG l).1.e,.agg (dG l).2.1.e,.one (B (dG l).2.2)]:=by
 have cF:=Hp l al;have k:=GQ l al;have aH:l.queue.length<=8388608:=al;cases h1:jf l with
 | false=>
  rw[h1]at k;rw[show dG l=(l,AD,false) by grind[dG]];exact auq ⟨cF,k,rfl,aa⟩
 | true=>
 rw[h1]at k;cases U:l.queue with
 | nil=>
  rw[show dG l=(l,AD,false) by simp_all[dG,bn]];exact aur ⟨cF,k,rfl,rm U,aa⟩
 | cons r q=>
  obtain⟨h5,iy,kM,jz,k7⟩:=zY h1;rw[show dG l=(⟨l.cap,q,l.eL,l.back+1,l.eo,l.cW+1⟩,r,true) by simp_all[dG,bn]];have e:bm.e ⟨l.cap,q,l.eL,l.back+1,l.eo,l.cW+1⟩=[I l.cap,.J 5 (((l.queue.map az.e).drop 1).take ((l.queue.map az.e).length-1)),I l.eL,I (l.back+1),I l.eo,I (l.cW+1)]:=by rw[vA U];rfl
  dsimp only;rw[e];exact aus ⟨cF,k,rfl,ly U,by omega,mw U,nf U,nt,nu U,nv,sF U aH,sG U aH,sH U,⟨by omega,by omega⟩,⟨by omega,by omega⟩,aa⟩
theorem XK(l:bm)(al:l.sz<=8388608):aq 261 [.agg l.e] [.agg (fF l).1.e,.one (B (fF l).2)]:=by
 have cF:=Hp l al;have k:=GQ l al;cases h1:jf l with
 | false=>
  rw[h1]at k;rw[show fF l=(l,false) by grind[fF]];exact at8 ⟨cF,k,rfl,aa⟩
 | true=>
 rw[h1]at k;by_cases aA:l.back=0
 ·rw[show fF l=(l,false) by grind[fF]];exact at9 ⟨cF,k,rfl,by grind,aa⟩
 obtain⟨h5,iy,kM,jz,k7⟩:=zY h1;rw[show fF l=(⟨l.cap,l.queue,l.eL+1,l.back-1,l.eo,l.cW⟩,true) by grind[fF]];exact aua ⟨cF,k,rfl,by grind,⟨by omega,by omega⟩,⟨by omega,by omega⟩,aa⟩
theorem atD(l:bm)(r:az)(al:l.sz<=8388608)(ax:l.cW<=9223372036854775807):aq 149 [.agg l.e,.agg r.e] [.agg (ef l r).1.e,.one (B (ef l r).2)]:=by
 have cF:=Ho l al;have k:=GO l al ax;have gn:=vQ r;have aH:l.queue.length<=8388608:=al;cases h1:jf l with
 | false=>
  rw[h1]at k;rw[show ef l r=(l,false) by grind[ef]];exact asF ⟨cF,k,rfl,aa⟩
 | true=>
 rw[h1]at k;cases U:eJ r with
 | false=>
  rw[U]at gn;rw[show ef l r=(l,false) by grind[ef]];exact asG ⟨cF,k,rfl,gn,rfl,aa⟩
 | true=>
 rw[U]at gn;by_cases aA:l.eL=0
 ·rw[show ef l r=(l,false) by grind[ef]];exact asH ⟨cF,k,rfl,gn,rfl,by grind,aa⟩
 have Be:(l.eL==0)=false:=by grind
 obtain⟨h5,iy,kM,jz,k7⟩:=zY h1;by_cases aJ:l.eo<1000000000
 ·rw[show ef l r=(⟨l.cap,l.queue++[r],l.eL-1,l.back,l.eo+1,l.cW⟩,true) by grind[ef]];dsimp only;rw[XH];exact asJ ⟨cF,k,rfl,gn,rfl,Be,by grind,vk aH,vl aH,fE (az.flat r),⟨by omega,by omega⟩,⟨by omega,by omega⟩,aa⟩
 rw[show ef l r=(l,false) by grind[ef]];dsimp only;exact asI ⟨cF,k,rfl,gn,rfl,Be,by grind,aa⟩
theorem au6(l:bm)(al:l.sz<=8388608)(ax:l.cW<=9223372036854775807):aq 154 [.agg l.e] [.agg (dG l).1.e,.agg (dG l).2.1.e,.one (B (dG l).2.2)]:=by
 have cF:=Ho l al;have k:=GO l al ax;have aH:l.queue.length<=8388608:=al;cases h1:jf l with
 | false=>
  rw[h1]at k;rw[show dG l=(l,AD,false) by grind[dG]];exact asT ⟨cF,k,rfl,aa⟩
 | true=>
 rw[h1]at k;cases U:l.queue with
 | nil=>
  rw[show dG l=(l,AD,false) by simp_all[dG,bn]];exact asU ⟨cF,k,rfl,rm U,aa⟩
 | cons r q=>
  obtain⟨h5,iy,kM,jz,k7⟩:=zY h1;rw[show dG l=(⟨l.cap,q,l.eL,l.back+1,l.eo,l.cW+1⟩,r,true) by simp_all[dG,bn]];have e:bm.e ⟨l.cap,q,l.eL,l.back+1,l.eo,l.cW+1⟩=[I l.cap,.J 5 (((l.queue.map az.e).drop 1).take ((l.queue.map az.e).length-1)),I l.eL,I (l.back+1),I l.eo,I (l.cW+1)]:=by rw[vA U];rfl
  dsimp only;rw[e];exact asV ⟨cF,k,rfl,ly U,nt,nu U,nv,⟨by omega,by omega⟩,⟨by omega,by omega⟩,by omega,mw U,nf U,aa⟩
theorem au7(l:bm)(al:l.sz<=8388608)(ax:l.cW<=9223372036854775807):aq 157 [.agg l.e] [.agg (fF l).1.e,.one (B (fF l).2)]:=by
 have cF:=Ho l al;have k:=GO l al ax;cases h1:jf l with
 | false=>
  rw[h1]at k;rw[show fF l=(l,false) by grind[fF]];exact arC ⟨cF,k,rfl,aa⟩
 | true=>
 rw[h1]at k;by_cases aA:l.back=0
 ·rw[show fF l=(l,false) by grind[fF]];exact arD ⟨cF,k,rfl,by grind,aa⟩
 obtain⟨h5,iy,kM,jz,k7⟩:=zY h1;rw[show fF l=(⟨l.cap,l.queue,l.eL+1,l.back-1,l.eo,l.cW⟩,true) by grind[fF]];exact as5 ⟨cF,k,rfl,by grind,⟨by omega,by omega⟩,⟨by omega,by omega⟩,aa⟩
theorem XL{n a b:Int}(aZ:1<=n/\n<=4)(ai:av a 0 (n-1)=true)(aw:av b 0 (n-1)=true):aL .i64 (a*n)/\aL .i64 (a*n+b):=by
 simp only[av,ck]at ai aw;have Fa:n=1\/n=2\/n=3\/n=4:=by omega
 rcases Fa with rfl | rfl | rfl | rfl<;>exact⟨⟨by omega,by omega⟩,⟨by omega,by omega⟩⟩
theorem XM{n:Int}(h:aL .i64 n):IntKind.i64.wrap n=n:=by
 obtain⟨h1,U⟩:=h;grind[IntKind.wrap_i64]
theorem XN(g:bV)(a b:Int):∃v,aq 61 [.agg g.e,.one (I a),.one (I b)] [.one (I v)]:=by
 cases ai:av a 0 (IntKind.i64.wrap (g.ar-1)) with
 | false=>exact⟨_,Xz ⟨gg _ _ _ _ ai,rfl,aa⟩⟩
 | true=>
 cases aw:av b 0 (IntKind.i64.wrap (g.ar-1)) with
 | false=>exact⟨_,XA ⟨gg _ _ _ _ ai,rfl,gg _ _ _ _ aw,rfl,aa⟩⟩
 | true=>
 by_cases aZ:g.ar<1
 ·exact⟨_,aug ⟨gg _ _ _ _ ai,rfl,gg _ _ _ _ aw,rfl,dh aZ,aa⟩⟩
 exact⟨_,XB ⟨gg _ _ _ _ ai,rfl,gg _ _ _ _ aw,rfl,ea aZ,aa⟩⟩
theorem Ow(g:bV)(a b:Int)(aZ:1<=g.ar/\g.ar<=4):aq 61 [.agg g.e,.one (I a),.one (I b)] [.one (I (dZ g a b))]:=by
 have i1:IntKind.i64.wrap (g.ar-1)=g.ar-1:=XM ⟨by omega,by omega⟩;have BZ:∀(x:Int) (r:Bool),av x 0 (g.ar-1)=r->aq 168 [.one (I x),.one (I 0),.one (I (IntKind.i64.wrap (g.ar-1)))] [.one (B r)]:=fun x r h=>by
  grind[gg]
 cases ai:av a 0 (g.ar-1) with
 | false=>
  rw[uo (by rw[ai];rfl)];exact Xz ⟨BZ _ _ ai,rfl,aa⟩
 | true=>
 cases aw:av b 0 (g.ar-1) with
 | false=>
  rw[uo (by grind)];exact XA ⟨BZ _ _ ai,rfl,BZ _ _ aw,rfl,aa⟩
 | true=>
  obtain⟨qj,o'⟩:=XL aZ ai aw;have key:aq 61 [.agg g.e,.one (I a),.one (I b)] [.one (I (IntKind.i64.wrap (IntKind.i64.wrap (a*g.ar)+b)))]:=XB ⟨BZ a true ai,rfl,BZ b true aw,rfl,ea (by omega),aa⟩;grind[XM,xH]
theorem XO(g:bV)(a b:Int)(aZ:1<=g.ar/\g.ar<=4):aq 60 [.agg g.e,.one (I a),.one (I b)] [.one (I (dZ g a b))]:=by
 cases bN:(av a 0 (g.ar-1)&&av b 0 (g.ar-1)) with
 | true=>
  rw[cw]at bN;obtain⟨qj,o'⟩:=XL aZ bN.1 bN.2;rw[(xH aZ bN.1 bN.2).1];obtain⟨ai,aw⟩:=bN;simp only[av,ck]at ai aw;exact ath ⟨ea (by grind),ea (by grind),qj,o',aa⟩
 | false=>
  rw[uo bN];have si:¬((0<=a/\a<=g.ar-1)/\(0<=b/\b<=g.ar-1)):=by
   simp_all[av,true,cw,ck]
  by_cases hm:(if b<a then b else a)<0
  ·exact atf ⟨dh hm,aa⟩
  exact atg ⟨ea hm,dh (by grind),aa⟩
theorem Dx(w:aK)(r:az):(kept w r).e=[.J 5 (w.queue.map az.e++[r.e]),.J 5 (w.b8.map az.e),.J 5 (w.bR.map az.e),.J 4 (w.cells.map Cell.e),.J 1 (w.bB.map bc),.J 1 (w.bL.map cv),.J 1 (w.bj.map cv),.J 2 (w.bZ.map cx.e)]:=by
 grind[kept,aK.e]
theorem Xf(w:aK)(r:az):(h8 w r).e=[.J 5 (w.queue.map az.e++[r.e]),.J 5 (w.b8.map az.e),.J 5 (w.bR.map az.e),.J 4 (w.cells.map Cell.e),.J 1 ((w.bB.map bc).set r.bi.a8.toNat [I (w.bB.getD r.bi.a8.toNat 0-1)]),.J 1 ((w.bL.map cv).set r.bi.a8.toNat [B true]),.J 1 (w.bj.map cv),.J 2 (w.bZ.map cx.e)]:=by
 simp only[h8,lY,aK.e,gi,hE];rfl
theorem Xg(w:aK)(e:Int):(mv w e).e=[.J 5 (w.queue.map az.e),.J 5 (w.b8.map az.e),.J 5 (w.bR.map az.e),.J 4 (w.cells.map Cell.e),.J 1 ((w.bB.map bc).set e.toNat [I (w.bB.getD e.toNat 0+1)]),.J 1 (w.bL.map cv),.J 1 (w.bj.map cv),.J 2 (w.bZ.map cx.e)]:=by
 simp only[mv,lY,aK.e,hE];rfl
theorem Xh(w:aK)(r:az)(hw:w.sz<=8388608):aq 148 [.agg w.e,.agg r.e] [.agg (kept w r).e]:=by
 have aH:w.queue.length<=8388608:=by grind[aK.sz]
 rw[Dx];exact ate ⟨Au w hw,vk aH,vl aH,fE (az.flat r),aa⟩
theorem au8(w:aK)(r:az)(hw:w.sz<=8388608)(aJ:w.bB.length=4)(aw:w.bL.length=4)(he:0<=r.bi.a8/\r.bi.a8<=3)(ao:-1000000<=w.bB.getD r.bi.a8.toNat 0/\w.bB.getD r.bi.a8.toNat 0<=1000000):
  aq 155 [.agg w.e,.agg r.e] [.agg (h8 w r).e]:=by
 have k:=Xh w r hw;rw[Dx]at k;rw[Xf];obtain⟨s1,s2⟩:=zq aJ he;obtain⟨fb,fY⟩:=r9 aw he;have BB:(if (↑(w.bL.map cv).length:Int)<(↑(w.bB.map bc).length:Int) then (↑(w.bL.map cv).length:Int) else (↑(w.bB.map bc).length:Int))-1=3:=by
  grind
 exact atq ⟨k,⟨by grind,by grind⟩,hM true (by simp_all[av,ck]),rfl,he.1,s1,s2,⟨by omega,by omega⟩,he.1,s1,s2,he.1,fb,fY,aa⟩
theorem au9(w:aK)(e:Int)(hw:w.sz<=8388608)(aJ:w.bB.length=4)(he:0<=e/\e<=3)(ao:-1000000<=w.bB.getD e.toNat 0/\w.bB.getD e.toNat 0<=1000000):
  aq 150 [.agg w.e,.one (I e)] [.agg (mv w e).e]:=by
 rw[Xg];obtain⟨s1,s2⟩:=zq aJ he;have BB:(↑(w.bB.map bc).length:Int)-1=3:=by grind
 exact asK ⟨Au w hw,⟨by grind,by grind⟩,hM true (by simp_all[av,ck]),rfl,he.1,s1,s2,⟨by omega,by omega⟩,he.1,s1,s2,aa⟩
theorem ava(w:aK)(r:az)(t:List az)(hw:w.sz<=8388608)(h:w.b8=r::t):aq 146 [.agg w.e] [.agg (hP w t).e,.agg r.e,.one (B true)]:=by
 have e:(hP w t).e=[.J 5 (w.queue.map az.e),.J 5 (((w.b8.map az.e).drop 1).take ((w.b8.map az.e).length-1)),.J 5 (w.bR.map az.e),.J 4 (w.cells.map Cell.e),.J 1 (w.bB.map bc),.J 1 (w.bL.map cv),.J 1 (w.bj.map cv),.J 2 (w.bZ.map cx.e)]:=by rw[vA h];rfl
 rw[e];exact as2 ⟨Au w hw,ly h,nt,nu h,nv,by omega,mw h,nf h,aa⟩
theorem avb(g:bV)(w:aK)(ax:g.sz<=8388608)(hw:w.sz<=8388608):aq 169 [.agg g.e,.agg w.e] [.agg (eX g w).1.e,.one (B (eX g w).2)]:=by
 have cF:=Au w hw;have k:=AA g ax;have kw:=GX g w ax hw;have q5:w.cells.length<=8388608:=by grind[aK.sz]
 cases h1:eh g with
 | false=>
  rw[h1]at k;rw[show eX g w=(w,false) by grind[eX]];exact as3 ⟨cF,k,rfl,aa⟩
 | true=>
 rw[h1]at k;cases U:e6 g w with
 | false=>
  rw[U]at kw;rw[show eX g w=(w,false) by grind[eX]];exact as4 ⟨cF,k,rfl,kw,rfl,aa⟩
 | true=>
 rw[U]at kw;have hu:eX g w=match w.b8,w.queue with
  | [],r::q=>(⟨q,(dq g w.cells r).2.1,w.bR,(dq g w.cells r).1,w.bB,w.bL,(if cf g r then w.bj.set r.bi.a8.toNat true else w.bj),w.bZ⟩,true)
  | _,_=>(w,false):=by grind[eX]
 cases aA:w.b8 with
 | cons r q=>
  rw[show eX g w=(w,false) by rw[hu,aA]];exact asv ⟨cF,k,rfl,kw,rfl,tW aA,aa⟩
 | nil=>
 cases aJ:w.queue with
 | nil=>
  rw[show eX g w=(w,false) by grind];exact asw ⟨cF,k,rfl,kw,rfl,jB aA,rm aJ,aa⟩
 | cons r q=>
  have st:=apo g w.cells r ax q5;have n0:=atC g r ax;obtain⟨cS,_,_,_,_,_,k6,_⟩:=ik.1 U;rw[aJ,qx]at cS;have he:=rO cS.1;obtain⟨c1,c2⟩:=r9 k6 he;cases a':cf g r with
  | true=>
   rw[a']at n0;rw[show eX g w=(⟨q,(dq g w.cells r).2.1,w.bR,(dq g w.cells r).1,w.bB,w.bL,w.bj.set r.bi.a8.toNat true,w.bZ⟩,true) by grind];have e:aK.e ⟨q,(dq g w.cells r).2.1,w.bR,(dq g w.cells r).1,w.bB,w.bL,w.bj.set r.bi.a8.toNat true,w.bZ⟩=[.J 5 (((w.queue.map az.e).drop 1).take ((w.queue.map az.e).length-1)),.J 5 ((dq g w.cells r).2.1.map az.e),.J 5 (w.bR.map az.e),.J 4 ((dq g w.cells r).1.map Cell.e),.J 1 (w.bB.map bc),.J 1 (w.bL.map cv),.J 1 ((w.bj.map cv).set r.bi.a8.toNat [B true]),.J 2 (w.bZ.map cx.e)]:=by
    rw[vA aJ];simp only[aK.e,hE];rfl
   dsimp only;rw[e];exact asx ⟨cF,k,rfl,kw,rfl,jB aA,ly aJ,by omega,mw aJ,nf aJ,nt,nu aJ,nv,st,n0,rfl,he.1,c1,c2,aa⟩
  | false=>
   rw[a']at n0;rw[show eX g w=(⟨q,(dq g w.cells r).2.1,w.bR,(dq g w.cells r).1,w.bB,w.bL,w.bj,w.bZ⟩,true) by grind];have e:aK.e ⟨q,(dq g w.cells r).2.1,w.bR,(dq g w.cells r).1,w.bB,w.bL,w.bj,w.bZ⟩=[.J 5 (((w.queue.map az.e).drop 1).take ((w.queue.map az.e).length-1)),.J 5 ((dq g w.cells r).2.1.map az.e),.J 5 (w.bR.map az.e),.J 4 ((dq g w.cells r).1.map Cell.e),.J 1 (w.bB.map bc),.J 1 (w.bL.map cv),.J 1 (w.bj.map cv),.J 2 (w.bZ.map cx.e)]:=by
    rw[vA aJ];rfl
   dsimp only;rw[e];exact asy ⟨cF,k,rfl,kw,rfl,jB aA,ly aJ,by omega,mw aJ,nf aJ,nt,nu aJ,nv,st,n0,rfl,aa⟩
theorem avc(g:bV)(w:aK)(ax:g.sz<=8388608)(hw:w.sz<=8388608):aq 164 [.agg g.e,.agg w.e] [.agg (eY g w).1.e,.one (B (eY g w).2)]:=by
 have cF:=Au w hw;have k:=AA g ax;have kw:=GX g w ax hw;have aH:w.queue.length<=8388608:=by grind[aK.sz]
 cases h1:eh g with
 | false=>
  rw[h1]at k;rw[show eY g w=(w,false) by grind[eY]];exact asW ⟨cF,k,rfl,aa⟩
 | true=>
 rw[h1]at k;cases U:e6 g w with
 | false=>
  rw[U]at kw;rw[show eY g w=(w,false) by grind[eY]];exact asX ⟨cF,k,rfl,kw,rfl,aa⟩
 | true=>
 rw[U]at kw;have hu:eY g w=match w.b8,w.queue,w.bR with
  | [],[],r::t=>(⟨[r],[],t,w.cells,w.bB,w.bL,w.bj,w.bZ⟩,true)
  | _,_,_=>(w,false):=by grind[eY]
 cases aA:w.b8 with
 | cons r q=>
  rw[show eY g w=(w,false) by rw[hu,aA]];exact asY ⟨cF,k,rfl,kw,rfl,tW aA,aa⟩
 | nil=>
 cases aJ:w.queue with
 | cons r q=>
  rw[show eY g w=(w,false) by grind];exact asZ ⟨cF,k,rfl,kw,rfl,jB aA,tW aJ,aa⟩
 | nil=>
 cases a':w.bR with
 | nil=>
  rw[show eY g w=(w,false) by grind];exact as0 ⟨cF,k,rfl,kw,rfl,jB aA,jB aJ,rm a',aa⟩
 | cons r t=>
  rw[show eY g w=(⟨[r],[],t,w.cells,w.bB,w.bL,w.bj,w.bZ⟩,true) by grind];have e:aK.e ⟨[r],[],t,w.cells,w.bB,w.bL,w.bj,w.bZ⟩=[.J 5 (w.queue.map az.e++[r.e]),.J 5 (w.b8.map az.e),.J 5 (((w.bR.map az.e).drop 1).take ((w.bR.map az.e).length-1)),.J 4 (w.cells.map Cell.e),.J 1 (w.bB.map bc),.J 1 (w.bL.map cv),.J 1 (w.bj.map cv),.J 2 (w.bZ.map cx.e)]:=by
   rw[vA a',aJ,aA];rfl
  dsimp only;rw[e];exact as1 ⟨cF,k,rfl,kw,rfl,jB aA,jB aJ,ly a',by omega,mw a',nf a',vk aH,vl aH,fE (az.flat r),nt,nu a',nv,aa⟩
end Go.Proofs.YtdchjefneblpgaaGreat
namespace Go.Proofs.YtdchjefneblpgaaGreat
open Go.Sx Go.RowKit Go.Proofs.Tryz
variable{c:aT}{w:Int}
theorem Xi(h:cc c w=none):av w 0 ((↑(c.ar.map aK.e).length:Int)-1)=false:=by
 grind[cc,av,ct,mG]
variable{x:aK}
theorem Gt(h:cc c w=some x):av w 0 ((↑(c.ar.map aK.e).length:Int)-1)=true:=by
 obtain⟨h1,U,_⟩:=eO h;simp only[av,ct,ck];omega
variable{i:Int}
theorem zZ{x:bm}(h:ez c i=some x):0<=i/\i<(↑(c.bJ.map bm.e).length:Int)/\(c.bJ.map bm.e)[i.toNat]?=some x.e:=by
 obtain⟨h1,U,aA⟩:=iA h;grind
theorem z1{x:bm}(h:ez c i=some x)(ak:c.sz<=8388608):x.sz<=8388608:=aT.K1 ak (c9 (iA h).2.2)
theorem Ox{x:bm}(h:ez c i=some x)(hw:fa c):x.cW<=9223372036854775807:=hw _ (c9 (iA h).2.2)
theorem HZ(ak:c.sz<=8388608):aL .i64 ((↑(c.ar.map aK.e).length:Int)-1):=by
 have:=aT.wk ak;exact⟨by grind,by grind⟩
theorem Oy(c:aT)(w:Int)(y:aK):(setW c w y).e=[.J 4 (c.ay.nodes.map Node.e),I c.ay.ar,I c.ay.cap,.J 8 ((c.ar.map aK.e).set w.toNat y.e),.J 6 (c.bJ.map bm.e),.J 5 (c.tokens.map bP.e),.J 3 (c.news.map bT.e)]:=by grind[setW,aT.e,hE]
theorem avd(c:aT)(i:Int)(y:bm):(dc c i y).e=[.J 4 (c.ay.nodes.map Node.e),I c.ay.ar,I c.ay.cap,.J 8 (c.ar.map aK.e),.J 6 ((c.bJ.map bm.e).set i.toNat y.e),.J 5 (c.tokens.map bP.e),.J 3 (c.news.map bT.e)]:=by grind[dc,aT.e,hE]
theorem Xj(c:aT)(w i:Int)(y:aK)(z:bm):(setW (dc c i z) w y).e=[.J 4 (c.ay.nodes.map Node.e),I c.ay.ar,I c.ay.cap,.J 8 ((c.ar.map aK.e).set w.toNat y.e),.J 6 ((c.bJ.map bm.e).set i.toNat z.e),.J 5 (c.tokens.map bP.e),.J 3 (c.news.map bT.e)]:=by grind[setW,dc,aT.e,hE]
theorem Dy(c:aT)(w:Int)(y:aK)(b:Bool):ni (setW c w y) b=[.J 4 (c.ay.nodes.map Node.e),I c.ay.ar,I c.ay.cap,.J 8 ((c.ar.map aK.e).set w.toNat y.e),.J 6 (c.bJ.map bm.e),.J 5 (c.tokens.map bP.e),.J 3 (c.news.map bT.e),B b]:=by grind[setW,ni,hE]
theorem Xk(c:aT)(i:Int)(y:bm)(b:Bool):ni (dc c i y) b=[.J 4 (c.ay.nodes.map Node.e),I c.ay.ar,I c.ay.cap,.J 8 (c.ar.map aK.e),.J 6 ((c.bJ.map bm.e).set i.toNat y.e),.J 5 (c.tokens.map bP.e),.J 3 (c.news.map bT.e),B b]:=by grind[dc,ni,hE]
theorem Oz(c:aT)(w i:Int)(y:aK)(z:bm)(b:Bool):ni (setW (dc c i z) w y) b=[.J 4 (c.ay.nodes.map Node.e),I c.ay.ar,I c.ay.cap,.J 8 ((c.ar.map aK.e).set w.toNat y.e),.J 6 ((c.bJ.map bm.e).set i.toNat z.e),.J 5 (c.tokens.map bP.e),.J 3 (c.news.map bT.e),B b]:=by grind[setW,dc,ni,hE]
theorem OA(c:aT)(w:Int)(ak:c.sz<=8388608)(hw:fa c):aq 145 [.agg c.e,.one (I w)] [.one (B (cB c&&(cc c w).isSome))]:=by
 have k:=GZ c ak hw;cases ok:cB c with
 | false=>rw[ok]at k;exact asz ⟨k,rfl,aa⟩
 | true=>
  rw[ok]at k;cases af:cc c w with
  | none=>exact Xw ⟨k,rfl,HZ ak,hM _ (Xi af),aa⟩
  | some x=>exact Xw ⟨k,rfl,HZ ak,hM _ (Gt af),aa⟩
theorem Xl(c:aT)(a b:Int)(ak:c.sz<=8388608)(hw:fa c):aq 153 [.agg c.e,.one (I a),.one (I b)] [.one (I (if cB c&&a != b then dZ c.ay a b else -1))]:=by
 have k:=GZ c ak hw;cases ok:cB c with
 | false=>rw[ok]at k;exact asA ⟨k,rfl,aa⟩
 | true=>
  rw[ok]at k;by_cases eb:a=b
  ·rw[show (true&&a != b)=false by simp[eb]];exact asB ⟨k,rfl,by simp[eb],aa⟩
  rw[show (true&&a != b)=true by simp[eb],bn rfl];exact asC ⟨k,rfl,by simp[eb],XO c.ay a b (iR (fz.1 ok).1),aa⟩
theorem ave(c:aT)(w:Int)(ak:c.sz<=8388608)(hw:fa c):aq 44 [.agg c.e,.one (I w)] [.agg (jg c w).1.e,.one (B (jg c w).2)]:=by
 have cF:=rJ c ak;have k:=OA c w ak hw;cases ok:cB c with
 | false=>
  rw[ok]at k;rw[show jg c w=(c,false) by grind[jg]];exact Xu ⟨cF,k,rfl,aa⟩
 | true=>
 cases af:cc c w with
 | none=>
  rw[ok,af]at k;rw[show jg c w=(c,false) by grind[jg]];exact Xu ⟨cF,k,rfl,aa⟩
 | some x=>
  rw[ok,af]at k;obtain⟨c6,de,cq⟩:=mx af;rw[show jg c w=(setW c w (eX c.ay x).1,(eX c.ay x).2) by grind[jg]];dsimp only;rw[Oy];exact atp ⟨cF,k,rfl,c6,de,cq,avb c.ay x (aT.n2 ak) (nh af ak),c6,de,cq,aa⟩
theorem avf(c:aT)(w:Int)(ak:c.sz<=8388608)(hw:fa c):aq 36 [.agg c.e,.one (I w)] [.agg (jh c w).1.e,.one (B (jh c w).2)]:=by
 have cF:=rJ c ak;have k:=OA c w ak hw;cases ok:cB c with
 | false=>
  rw[ok]at k;rw[show jh c w=(c,false) by grind[jh]];exact Xr ⟨cF,k,rfl,aa⟩
 | true=>
 cases af:cc c w with
 | none=>
  rw[ok,af]at k;rw[show jh c w=(c,false) by grind[jh]];exact Xr ⟨cF,k,rfl,aa⟩
 | some x=>
  rw[ok,af]at k;obtain⟨c6,de,cq⟩:=mx af;rw[show jh c w=(setW c w (eY c.ay x).1,(eY c.ay x).2) by grind[jh]];dsimp only;rw[Oy];exact atj ⟨cF,k,rfl,c6,de,cq,avc c.ay x (aT.n2 ak) (nh af ak),c6,de,cq,aa⟩
theorem Gu(ok:cB c=true)(af:cc c w=some x):x.bB.length=4/\x.bL.length=4/\x.bj.length=4/\(∀e:Int,0<=e/\e<=3->-1000000<=x.bB.getD e.toNat 0/\x.bB.getD e.toNat 0<=1000000):=by
 obtain⟨_,_,_,_,kI,pb,k6,_,tQ,_⟩:=ik.1 (j4 ok af);refine⟨kI,pb,k6,fun e he=>?_⟩;have al:e.toNat<x.bB.length:=by omega
 rw[ft]at tQ;have:=tQ _ (pU al);rw[lK,iD al,lL];simpa only[oA,hb,kd,av,ck,wu,Bool.not_not,Bool.not_eq_eq_eq_not,iU,mG,Classical.not_not]using this
variable{r:az}{t:List az}
theorem Xm(ok:cB c=true)(af:cc c w=some x)(ao:x.b8=r::t):iS c w=rM c w x r t (eU r.key c.ay.ar):=by
 simp_all[iS,bn]
theorem Xn{o:Int}(h:o=w):rM c w x r t o=(setW c w (kept (hP x t) r),true):=bn h
variable{l:bm}
theorem Xo{o:Int}(h:o≠w)(al:ez c (dZ c.ay w o)=some l):rM c w x r t o=if (ef l r).2 then (setW (dc c (dZ c.ay w o) (ef l r).1) w (mv (hP x t) r.bi.a8),true) else (c,false):=by
 simp_all[rM,bw]
theorem avg(c:aT)(w:Int)(ak:c.sz<=8388608)(hw:fa c):aq 28 [.agg c.e,.one (I w)] [.agg (iS c w).1.e,.one (B (iS c w).2)]:=by
 have cF:=rJ c ak;have k:=OA c w ak hw;cases ok:cB c with
 | false=>
  rw[ok]at k;rw[show iS c w=(c,false) by grind[iS]];exact Xs ⟨cF,k,rfl,aa⟩
 | true=>
 cases af:cc c w with
 | none=>
  rw[ok,af]at k;rw[show iS c w=(c,false) by grind[iS]];exact Xs ⟨cF,k,rfl,aa⟩
 | some x=>
 rw[ok,af]at k;obtain⟨c6,de,cq⟩:=mx af;have aZ:=iR (fz.1 ok).1;cases ao:x.b8 with
 | nil=>
  rw[show iS c w=(c,false) by simp_all[iS,bn]];exact qOp ⟨cF,k,rfl,c6,de,cq,rm ao,aa⟩
 | cons r t=>
  have dM:=nh af ak;have gK:(hP x t).sz<=8388608:=by grind[Nb]
  have un:=ava x r t dM ao;have oq:=apn r.key c.ay.ar (by omega);have aD:=(G1 (j4 ok af) ao).2;have he:=rO aD;obtain⟨f4,_,_,eS⟩:=Gu ok af;rw[Xm ok af ao];have zw:=Cw r.key aZ.1;generalize eU r.key c.ay.ar=o at oq zw;by_cases how:o=w
  ·rw[Xn how];dsimp only;rw[Oy];exact atk ⟨cF,k,rfl,c6,de,cq,ly ao,c6,de,cq,un,oq,by grind,Xh (hP x t) r gK,c6,de,cq,aa⟩
  have sf:(o==w)=false:=by grind
  have win:av w 0 (c.ay.ar-1)=true:=by
   have:=Gt af;rwa[ct,(fz.1 ok).2.1]at this
  obtain⟨l,al⟩:=xI ok win zw;obtain⟨kJ,kK,kL⟩:=zZ al;have aS:=XO c.ay w o aZ;have kQ:=atD l r (z1 al ak) (Ox al hw);rw[Xo how al];cases bu:(ef l r).2 with
  | false=>
   rw[bu]at kQ;exact atl ⟨cF,k,rfl,c6,de,cq,ly ao,c6,de,cq,un,oq,sf,aS,kJ,kK,kL,kQ,rfl,aa⟩
  | true=>
   rw[bu]at kQ;rw[bn rfl];dsimp only;rw[Xj];exact atm ⟨cF,k,rfl,c6,de,cq,ly ao,c6,de,cq,un,oq,sf,aS,kJ,kK,kL,kQ,rfl,kJ,kK,kL,au9 (hP x t) r.bi.a8 gK f4 he (eS _ he),c6,de,cq,aa⟩
variable{a b:Int}
theorem Gv(h:(av a 0 (c.ay.ar-1)&&av b 0 (c.ay.ar-1))=false):ez c (dZ c.ay a b)=none:=by
 rw[uo h];rfl
theorem YO(ok:cB c=true)(eb:a≠b)(al:ez c (dZ c.ay a b)=some l)(af:cc c b=some x):jE c a b=if (dG l).2.2 then (setW (dc c (dZ c.ay a b) (dG l).1) b (h8 x (dG l).2.1),true) else (c,false):=by
 simp_all[jE,bn]
theorem YP(ok:cB c=true)(eb:a≠b)(al:ez c (dZ c.ay a b)=some l):ji c a b=(dc c (dZ c.ay a b) (fF l).1,(fF l).2):=by
 simp_all[ji,bn]
theorem avh(c:aT)(a b:Int)(ak:c.sz<=8388608)(hw:fa c):aq 31 [.agg c.e,.one (I a),.one (I b)] [.agg (jE c a b).1.e,.one (B (jE c a b).2)]:=by
 have cF:=rJ c ak;have k:=Xl c a b ak hw;cases h1:(cB c&&a != b) with
 | false=>
  rw[h1,bw (by decide)]at k;rw[show jE c a b=(c,false) by grind[jE]];exact Xt ⟨cF,k,dh (by decide),aa⟩
 | true=>
 rw[h1,bn rfl]at k;rw[cw]at h1;obtain⟨ok,eb⟩:=h1;have eb:a≠b:=by grind
 have aZ:=iR (fz.1 ok).1;cases bN:(av a 0 (c.ay.ar-1)&&av b 0 (c.ay.ar-1)) with
 | false=>
  rw[uo bN]at k;rw[show jE c a b=(c,false) by grind[jE,Gv]];exact Xt ⟨cF,k,dh (by decide),aa⟩
 | true=>
 rw[cw]at bN;obtain⟨l,al⟩:=xI ok bN.1 bN.2;obtain⟨x,af⟩:∃x,cc c b=some x:=by
  have aw:=bN.2;have:=(fz.1 ok).2.1;simp only[av,ck]at aw;grind[pA]
 obtain⟨kJ,kK,kL⟩:=zZ al;obtain⟨c6,de,cq⟩:=mx af;have s6:=au6 l (z1 al ak) (Ox al hw);rw[YO ok eb al af];cases bu:(dG l).2.2 with
 | false=>
  rw[bu]at s6;exact atn ⟨cF,k,ea (by omega),kJ,kK,kL,s6,rfl,aa⟩
 | true=>
  rw[bu]at s6;have he:=rO (G2 (rN ok al) bu).2;obtain⟨f4,Jf,_,eS⟩:=Gu ok af;rw[bn rfl];dsimp only;rw[Xj];exact ato ⟨cF,k,ea (by omega),kJ,kK,kL,s6,rfl,kJ,kK,kL,c6,de,cq,au8 x _ (nh af ak) f4 Jf he (eS _ he),c6,de,cq,aa⟩
theorem avi(c:aT)(a b:Int)(ak:c.sz<=8388608)(hw:fa c):aq 33 [.agg c.e,.one (I a),.one (I b)] [.agg (ji c a b).1.e,.one (B (ji c a b).2)]:=by
 have cF:=rJ c ak;have k:=Xl c a b ak hw;cases h1:(cB c&&a != b) with
 | false=>
  rw[h1,bw (by decide)]at k;rw[show ji c a b=(c,false) by grind[ji]];exact Xq ⟨cF,k,dh (by decide),aa⟩
 | true=>
 rw[h1,bn rfl]at k;rw[cw]at h1;obtain⟨ok,eb⟩:=h1;have eb:a≠b:=by grind
 cases bN:(av a 0 (c.ay.ar-1)&&av b 0 (c.ay.ar-1)) with
 | false=>
  rw[uo bN]at k;rw[show ji c a b=(c,false) by grind[ji,Gv]];exact Xq ⟨cF,k,dh (by decide),aa⟩
 | true=>
 rw[cw]at bN;obtain⟨l,al⟩:=xI ok bN.1 bN.2;obtain⟨kJ,kK,kL⟩:=zZ al;rw[YP ok eb al];dsimp only;rw[avd];exact ati ⟨cF,k,ea (by omega),kJ,kK,kL,au7 l (z1 al ak) (Ox al hw),kJ,kK,kL,aa⟩
theorem OB(c:aT)(w:Int)(ak:c.sz<=8388608):b2 prog 257 [.ref (fU c) (fU c),.ro (.one (I w))] (.vals [.one (B (cB c&&(cc c w).isSome))]):=by
 unfold fU;cases ok:cB c with
 | false=>exact atK ⟨rfl,aa⟩
 | true=>
  cases af:cc c w with
  | none=>exact XD ⟨rfl,HZ ak,gg _ _ _ _ (Xi af),aa⟩
  | some x=>exact XD ⟨rfl,HZ ak,gg _ _ _ _ (Gt af),aa⟩
def HW(x:aK)(e d:Int):aK:=⟨x.queue,x.b8,x.bR,x.cells,lY x.bB e d,x.bL,x.bj,x.bZ⟩
theorem YQ(w:aK)(e d:Int):(HW w e d).e=[.J 5 (w.queue.map az.e),.J 5 (w.b8.map az.e),.J 5 (w.bR.map az.e),.J 4 (w.cells.map Cell.e),.J 1 ((w.bB.map bc).set e.toNat [I (w.bB.getD e.toNat 0+d)]),.J 1 (w.bL.map cv),.J 1 (w.bj.map cv),.J 2 (w.bZ.map cx.e)]:=by
 simp only[HW,lY,aK.e,hE];rfl
theorem YR(c:aT)(w e d:Int)(x:aK)(af:cc c w=some x)(aJ:x.bB.length=4)(he:0<=e/\e<=3)(aE:-1<=d/\d<=1)(ao:-1000000<=x.bB.getD e.toNat 0/\x.bB.getD e.toNat 0<=1000000):
  b2 prog 259 [.ref (ni c true) (ni (setW c w (HW x e d)) (av (x.bB.getD e.toNat 0+d) (-1000000) 1000000)),.ro (.one (I w)),.ro (.one (I e)),.ro (.one (I d))] (.vals []):=by
 obtain⟨c6,de,cq⟩:=mx af;obtain⟨s1,s2⟩:=zq aJ he;rw[Dy,YQ];exact atP ⟨c6,de,cq,c6,de,cq,he.1,s1,s2,⟨by omega,by omega⟩,he.1,s1,s2,cq,rfl,rfl,rfl,rfl,rfl,c6,by grind,h0 c6 de,he.1,by grind,h0 he.1 s1,je _ _ _,aa⟩
theorem avj(c:aT)(w:Int)(ak:c.sz<=8388608):b2 prog 170 [.ref (fU c) (fU (jg c w).1),.ro (.one (I w))] (.vals [.one (B (jg c w).2)]):=by
 have post:=fun h=>WA (c:=c) (w:=w) h
 have is:=OB c w ak;cases ok:cB c with
 | false=>
  rw[ok]at is;rw[show jg c w=(c,false) by grind[jg]];exact XF ⟨is,rfl,aa⟩
 | true=>
 replace post:=post ok;cases af:cc c w with
 | none=>
  rw[ok,af]at is;rw[show jg c w=(c,false) by grind[jg]];exact XF ⟨is,rfl,aa⟩
 | some x=>
 rw[ok,af]at is;obtain⟨c6,de,cq⟩:=mx af;have dM:=nh af ak;have abQ:=(fz.1 ok).1;have ZA:=j4 ok af;have hu:eX c.ay x=match x.b8,x.queue with
  | [],r::q=>(⟨q,(dq c.ay x.cells r).2.1,x.bR,(dq c.ay x.cells r).1,x.bB,x.bL,(if cf c.ay r then x.bj.set r.bi.a8.toNat true else x.bj),x.bZ⟩,true)
  | _,_=>(x,false):=by grind[eX]
 have tU:jg c w=(setW c w (eX c.ay x).1,(eX c.ay x).2):=by grind[jg]
 cases aA:x.b8 with
 | cons r q=>
  rw[tU,show eX c.ay x=(x,false) by rw[hu,aA]];dsimp only;rw[um af];exact atW ⟨is,rfl,c6,de,cq,tW aA,aa⟩
 | nil=>
 cases aJ:x.queue with
 | nil=>
  rw[tU,show eX c.ay x=(x,false) by grind];dsimp only;rw[um af];exact atX ⟨is,rfl,c6,de,cq,jB aA,rm aJ,aa⟩
 | cons r q=>
  have q5:x.cells.length<=8388608:=by grind[aK.sz]
  have mT:x.queue.length<=8388608:=by grind[aK.sz]
  have ax:=aT.n2 ak;have st:=WS c.ay x.cells r ax q5;have n0:=WT c.ay r ax;obtain⟨cS,_,_,_,_,_,k6,_⟩:=ik.1 ZA;rw[aJ,qx]at cS;have he:=rO cS.1;obtain⟨c1,c2⟩:=r9 k6 he;unfold fU at is ⊢;rw[post];rw[ok]at is ⊢;cases a':cf c.ay r with
  | true=>
   rw[a']at n0;rw[tU,show eX c.ay x=(⟨q,(dq c.ay x.cells r).2.1,x.bR,(dq c.ay x.cells r).1,x.bB,x.bL,x.bj.set r.bi.a8.toNat true,x.bZ⟩,true) by grind];have e:aK.e ⟨q,(dq c.ay x.cells r).2.1,x.bR,(dq c.ay x.cells r).1,x.bB,x.bL,x.bj.set r.bi.a8.toNat true,x.bZ⟩=[.J 5 ([]++((x.queue.map az.e).drop 1).take ((x.queue.map az.e).length-1)),.J 5 ((dq c.ay x.cells r).2.1.map az.e),.J 5 (x.bR.map az.e),.J 4 ((dq c.ay x.cells r).1.map Cell.e),.J 1 (x.bB.map bc),.J 1 (x.bL.map cv),.J 1 ((x.bj.map cv).set r.bi.a8.toNat [B true]),.J 2 (x.bZ.map cx.e)]:=by
    rw[uu aJ];simp only[aK.e,hE];rfl
   dsimp only;rw[Dy,e];have key:=atY ⟨is,rfl,c6,de,cq,jB aA,ly aJ,by omega,mw aJ,nf aJ,st,nt,nu aJ,nv,sF aJ mT,sG aJ mT,sH aJ,n0,rfl,he.1,c1,c2,cq,rfl,rfl,rfl,rfl,c6,by grind,h0 c6 de,rfl,rfl,rfl,rfl,rfl,aa⟩;simp only[qF]at key;exact key
  | false=>
   rw[a']at n0;rw[tU,show eX c.ay x=(⟨q,(dq c.ay x.cells r).2.1,x.bR,(dq c.ay x.cells r).1,x.bB,x.bL,x.bj,x.bZ⟩,true) by grind];have e:aK.e ⟨q,(dq c.ay x.cells r).2.1,x.bR,(dq c.ay x.cells r).1,x.bB,x.bL,x.bj,x.bZ⟩=[.J 5 ([]++((x.queue.map az.e).drop 1).take ((x.queue.map az.e).length-1)),.J 5 ((dq c.ay x.cells r).2.1.map az.e),.J 5 (x.bR.map az.e),.J 4 ((dq c.ay x.cells r).1.map Cell.e),.J 1 (x.bB.map bc),.J 1 (x.bL.map cv),.J 1 (x.bj.map cv),.J 2 (x.bZ.map cx.e)]:=by
    rw[uu aJ];rfl
   dsimp only;rw[Dy,e];exact atZ ⟨is,rfl,c6,de,cq,jB aA,ly aJ,by omega,mw aJ,nf aJ,st,nt,nu aJ,nv,sF aJ mT,sG aJ mT,sH aJ,n0,rfl,c6,de,cq,rfl,rfl,rfl,rfl,rfl,aa⟩
theorem avk(c:aT)(w:Int)(ak:c.sz<=8388608):b2 prog 171 [.ref (fU c) (fU (jh c w).1),.ro (.one (I w))] (.vals [.one (B (jh c w).2)]):=by
 have post:=fun h=>WB (c:=c) (w:=w) h
 have is:=OB c w ak;cases ok:cB c with
 | false=>
  rw[ok]at is;rw[show jh c w=(c,false) by grind[jh]];exact XC ⟨is,rfl,aa⟩
 | true=>
 replace post:=post ok;cases af:cc c w with
 | none=>
  rw[ok,af]at is;rw[show jh c w=(c,false) by grind[jh]];exact XC ⟨is,rfl,aa⟩
 | some x=>
 rw[ok,af]at is;obtain⟨c6,de,cq⟩:=mx af;have dM:=nh af ak;have abQ:=(fz.1 ok).1;have ZA:=j4 ok af;have ki:x.bR.length<=8388608:=by grind[aK.sz]
 have hu:eY c.ay x=match x.b8,x.queue,x.bR with
  | [],[],r::t=>(⟨[r],[],t,x.cells,x.bB,x.bL,x.bj,x.bZ⟩,true)
  | _,_,_=>(x,false):=by grind[eY]
 have tU:jh c w=(setW c w (eY c.ay x).1,(eY c.ay x).2):=by grind[jh]
 cases aA:x.b8 with
 | cons r q=>
  rw[tU,show eY c.ay x=(x,false) by rw[hu,aA]];dsimp only;rw[um af];exact atG ⟨is,rfl,c6,de,cq,tW aA,aa⟩
 | nil=>
 cases aJ:x.queue with
 | cons r q=>
  rw[tU,show eY c.ay x=(x,false) by grind];dsimp only;rw[um af];exact atH ⟨is,rfl,c6,de,cq,jB aA,tW aJ,aa⟩
 | nil=>
 cases a':x.bR with
 | nil=>
  rw[tU,show eY c.ay x=(x,false) by grind];dsimp only;rw[um af];exact atI ⟨is,rfl,c6,de,cq,jB aA,jB aJ,rm a',aa⟩
 | cons r t=>
  unfold fU at is ⊢;rw[post];rw[ok]at is ⊢;rw[tU,show eY c.ay x=(⟨[r],[],t,x.cells,x.bB,x.bL,x.bj,x.bZ⟩,true) by grind];have e:aK.e ⟨[r],[],t,x.cells,x.bB,x.bL,x.bj,x.bZ⟩=[.J 5 ([r.e]),.J 5 (x.b8.map az.e),.J 5 ([]++((x.bR.map az.e).drop 1).take ((x.bR.map az.e).length-1)),.J 4 (x.cells.map Cell.e),.J 1 (x.bB.map bc),.J 1 (x.bL.map cv),.J 1 (x.bj.map cv),.J 2 (x.bZ.map cx.e)]:=by
   rw[uu a',aA];rfl
  dsimp only;rw[Dy,e];exact atJ ⟨is,rfl,c6,de,cq,jB aA,jB aJ,ly a',by omega,mw a',nf a',nt,nu a',nv,sF a' ki,sG a' ki,sH a',c6,de,cq,rfl,rfl,rfl,rfl,rfl,rfl,aa⟩
theorem avl(c:aT)(w:Int)(ak:c.sz<=8388608):b2 prog 151 [.ref (fU c) (fU (iS c w).1),.ro (.one (I w))] (.vals [.one (B (iS c w).2)]):=by
 have is:=OB c w ak;cases ok:cB c with
 | false=>
  rw[ok]at is;rw[show iS c w=(c,false) by grind[iS]];exact XE ⟨is,rfl,aa⟩
 | true=>
 cases af:cc c w with
 | none=>
  rw[ok,af]at is;rw[show iS c w=(c,false) by grind[iS]];exact XE ⟨is,rfl,aa⟩
 | some x=>
 rw[ok,af]at is;obtain⟨c6,de,cq⟩:=mx af;have dM:=nh af ak;have aZ:=iR (fz.1 ok).1;cases ao:x.b8 with
 | nil=>
  rw[show iS c w=(c,false) by simp_all[iS,bn]];exact atL ⟨is,rfl,c6,de,cq,rm ao,aa⟩
 | cons r t=>
  have oq:=WQ r.key c.ay.ar (by omega);have aD:=(G1 (j4 ok af) ao).2;have he:=rO aD;have mT:x.queue.length<=8388608:=by grind[aK.sz]
  have nA:x.b8.length<=8388608:=by grind[aK.sz]
  obtain⟨f4,_,_,eS⟩:=Gu ok af;rw[Xm ok af ao];have zw:=Cw r.key aZ.1;generalize eU r.key c.ay.ar=o at oq zw;by_cases how:o=w
  ·have sf:(o != w)=false:=by simp[how]
   rw[Xn how];unfold fU at is ⊢;dsimp only;rw[Wy ok af ao];rw[ok]at is ⊢;have e:(kept (hP x t) r).e=[.J 5 (x.queue.map az.e++[r.e]),.J 5 ([]++((x.b8.map az.e).drop 1).take ((x.b8.map az.e).length-1)),.J 5 (x.bR.map az.e),.J 4 (x.cells.map Cell.e),.J 1 (x.bB.map bc),.J 1 (x.bL.map cv),.J 1 (x.bj.map cv),.J 2 (x.bZ.map cx.e)]:=by
    rw[uu ao,Dx];rfl
   rw[Dy,e];have key:=atO ⟨is,rfl,c6,de,cq,ly ao,c6,de,cq,by omega,mw ao,nf ao,oq,sf,c6,de,cq,vk mT,vl mT,cq,rfl,fE (az.flat r),rfl,rfl,rfl,rfl,rfl,rfl,rfl,rfl,rfl,rfl,rfl,rfl,rfl,c6,de,cq,rfl,c6,by grind,h0 c6 de,nt,nu ao,nv,sF ao nA,sG ao nA,sH ao,c6,by grind,h0 c6 de,aa⟩;simp only[qF]at key;exact key
  have sf:(o != w)=true:=by simp[how]
  have win:av w 0 (c.ay.ar-1)=true:=by
   have:=Gt af;rwa[ct,(fz.1 ok).2.1]at this
  obtain⟨l,al⟩:=xI ok win zw;obtain⟨kJ,kK,kL⟩:=zZ al;have aS:=Ow c.ay w o aZ;have kQ:=XI l r (z1 al ak);have aec:=fun h=>Wx ok af ao zw how al h
  rw[Xo how al];cases bu:(ef l r).2 with
  | false=>
   rw[bu]at kQ;exact atM ⟨is,rfl,c6,de,cq,ly ao,c6,de,cq,by omega,mw ao,nf ao,oq,sf,aS,kJ,kK,kL,kQ,rfl,aa⟩
  | true=>
   rw[bu]at kQ;rw[bn rfl];unfold fU at is ⊢;dsimp only;rw[aec bu];rw[ok]at is ⊢;have yr:=YR (dc c (dZ c.ay w o) (ef l r).1) w r.bi.a8 1 x (Cx.trans af) f4 he (by omega) (eS _ he);rw[Xk,Oz,YQ]at yr;have e:(mv (hP x t) r.bi.a8).e=[.J 5 (x.queue.map az.e),.J 5 ([]++((x.b8.map az.e).drop 1).take ((x.b8.map az.e).length-1)),.J 5 (x.bR.map az.e),.J 4 (x.cells.map Cell.e),.J 1 ((x.bB.map bc).set r.bi.a8.toNat [I (x.bB.getD r.bi.a8.toNat 0+1)]),.J 1 (x.bL.map cv),.J 1 (x.bj.map cv),.J 2 (x.bZ.map cx.e)]:=by
    rw[uu ao,Xg];rfl
   rw[Oz,e];have key:=atN ⟨is,rfl,c6,de,cq,ly ao,c6,de,cq,by omega,mw ao,nf ao,oq,sf,aS,kJ,kK,kL,kQ,rfl,kJ,kK,kL,yr,c6,by grind,h0 c6 de,nt,nu ao,nv,sF ao nA,sG ao nA,sH ao,c6,by grind,h0 c6 de,aa⟩;simp only[qF]at key;exact key
theorem avm(c:aT)(a b:Int)(ak:c.sz<=8388608):b2 prog 156 [.ref (fU c) (fU (jE c a b).1),.ro (.one (I a)),.ro (.one (I b))] (.vals [.one (B (jE c a b).2)]):=by
 cases ok:cB c with
 | false=>
  rw[show jE c a b=(c,false) by grind[jE]];obtain⟨v,aS⟩:=XN c.ay a b;unfold fU;rw[ok];exact atQ ⟨aS,rfl,aa⟩
 | true=>
 have aZ:=iR (fz.1 ok).1;have aS:=Ow c.ay a b aZ;cases bN:(av a 0 (c.ay.ar-1)&&av b 0 (c.ay.ar-1)) with
 | false=>
  rw[uo bN]at aS;rw[show jE c a b=(c,false) by grind[jE,Gv]];unfold fU;rw[ok];exact atS ⟨aS,rfl,dh (by decide),aa⟩
 | true=>
 rw[cw]at bN;obtain⟨l,al⟩:=xI ok bN.1 bN.2;obtain⟨kJ,kK,kL⟩:=zZ al;by_cases eb:a=b
 ·rw[show jE c a b=(c,false) by grind[jE]];unfold fU;rw[ok];exact atT ⟨aS,rfl,ea (by omega),by simp[eb],aa⟩
 have sf:(a==b)=false:=by simp[eb]
 obtain⟨x,af⟩:∃x,cc c b=some x:=by
  have aw:=bN.2;have:=(fz.1 ok).2.1;simp only[av,ck]at aw;grind[pA]
 obtain⟨c6,de,cq⟩:=mx af;have dM:=nh af ak;have s6:=XJ l (z1 al ak);have aef:=fun h=>Wz ok al af h
 rw[YO ok eb al af];unfold fU;cases bu:(dG l).2.2 with
 | false=>
  rw[bu]at s6;rw[bw (by decide)];dsimp only;rw[ok];exact atU ⟨aS,rfl,ea (by omega),sf,kJ,kK,kL,s6,rfl,aa⟩
 | true=>
  rw[bu]at s6;rw[bn rfl];dsimp only;rw[aef bu,ok];have aD:=(G2 (rN ok al) bu).2;have he:=rO aD;generalize (dG l).2.1=r at s6 aD he ⊢;obtain⟨f4,Jf,_,eS⟩:=Gu ok af;have mT:x.queue.length<=8388608:=by grind[aK.sz]
  obtain⟨fb,fY⟩:=r9 Jf he;have km:cc (setW (dc c (dZ c.ay a b) (dG l).1) b ⟨x.queue++[r],x.b8,x.bR,x.cells,x.bB,x.bL.set r.bi.a8.toNat true,x.bj,x.bZ⟩) b=some ⟨x.queue++[r],x.b8,x.bR,x.cells,x.bB,x.bL.set r.bi.a8.toNat true,x.bj,x.bZ⟩:=by
   obtain⟨q1,jb,_⟩:=eO af;simp_all[cc,setW,dc,bn]
  have yr:=YR _ b r.bi.a8 (-1) _ km f4 he (by omega) (eS _ he);rw[Oz]at yr;have e2:aK.e ⟨x.queue++[r],x.b8,x.bR,x.cells,x.bB,x.bL.set r.bi.a8.toNat true,x.bj,x.bZ⟩=[.J 5 (x.queue.map az.e++[r.e]),.J 5 (x.b8.map az.e),.J 5 (x.bR.map az.e),.J 4 (x.cells.map Cell.e),.J 1 (x.bB.map bc),.J 1 ((x.bL.map cv).set r.bi.a8.toNat [B true]),.J 1 (x.bj.map cv),.J 2 (x.bZ.map cx.e)]:=by
   simp only[aK.e,gi,hE];rfl
  rw[e2,<-qF]at yr;rw[show setW (setW (dc c (dZ c.ay a b) (dG l).1) b ⟨x.queue++[r],x.b8,x.bR,x.cells,x.bB,x.bL.set r.bi.a8.toNat true,x.bj,x.bZ⟩) b (HW ⟨x.queue++[r],x.b8,x.bR,x.cells,x.bB,x.bL.set r.bi.a8.toNat true,x.bj,x.bZ⟩ r.bi.a8 (-1))=setW (dc c (dZ c.ay a b) (dG l).1) b (h8 x r) by unfold setW dc;simp only[qF];rfl]at yr;exact atV ⟨aS,rfl,ea (by omega),sf,kJ,kK,kL,s6,rfl,kJ,kK,kL,c6,de,cq,vk mT,vl mT,cq,rfl,fE (az.flat r),rfl,rfl,rfl,rfl,rfl,rfl,rfl,c6,de,cq,rfl,c6,by grind,h0 c6 de,he.1,fb,fY,h0 c6 de,rfl,rfl,yr,aa⟩
theorem avn(c:aT)(a b:Int)(ak:c.sz<=8388608):b2 prog 158 [.ref (fU c) (fU (ji c a b).1),.ro (.one (I a)),.ro (.one (I b))] (.vals [.one (B (ji c a b).2)]):=by
 have post:=fun h=>WC (c:=c) (a:=a) (b:=b) h
 cases ok:cB c with
 | false=>
  rw[show ji c a b=(c,false) by grind[ji]];obtain⟨v,aS⟩:=XN c.ay a b;unfold fU;rw[ok];exact aut ⟨aS,rfl,aa⟩
 | true=>
 replace post:=post ok;have aZ:=iR (fz.1 ok).1;have aS:=Ow c.ay a b aZ;unfold fU;rw[post,ok];cases bN:(av a 0 (c.ay.ar-1)&&av b 0 (c.ay.ar-1)) with
 | false=>
  rw[uo bN]at aS;rw[show ji c a b=(c,false) by grind[ji,Gv]];exact auu ⟨aS,rfl,dh (by decide),aa⟩
 | true=>
 rw[cw]at bN;obtain⟨l,al⟩:=xI ok bN.1 bN.2;obtain⟨kJ,kK,kL⟩:=zZ al;by_cases eb:a=b
 ·rw[show ji c a b=(c,false) by grind[ji]];exact atE ⟨aS,rfl,ea (by omega),by simp[eb],aa⟩
 rw[YP ok eb al];dsimp only;rw[Xk];exact atF ⟨aS,rfl,ea (by omega),by simp[eb],kJ,kK,kL,XK l (z1 al ak),kJ,kK,kL,aa⟩
theorem OC(c:aT)(p:b')(ak:c.sz<=8388608):b2 prog 128 [.ref (fU c) (fU (cY c p).1),.ro (.agg p.e)] (.vals [.one (B (cY c p).2)]):=by
 by_cases h1:p.kind=1
 ·rw[show cY c p=jg c p.a by grind[cY]];exact at0 ⟨by grind,avj c p.a ak,aa⟩
 have h5:(p.kind==1)=false:=by grind
 by_cases U:p.kind=2
 ·rw[show cY c p=jh c p.a by grind[cY]];exact at1 ⟨h5,by grind,avk c p.a ak,aa⟩
 have iy:(p.kind==2)=false:=by grind
 by_cases aA:p.kind=3
 ·rw[show cY c p=iS c p.a by grind[cY]];exact at2 ⟨h5,iy,by grind,avl c p.a ak,aa⟩
 have kM:(p.kind==3)=false:=by grind
 by_cases aJ:p.kind=4
 ·rw[show cY c p=jE c p.a p.b by grind[cY]];exact at3 ⟨h5,iy,kM,by grind,avm c p.a p.b ak,aa⟩
 have jz:(p.kind==4)=false:=by grind
 by_cases a':p.kind=5
 ·rw[show cY c p=ji c p.a p.b by grind[cY]];exact at4 ⟨h5,iy,kM,jz,by grind,avn c p.a p.b ak,aa⟩
 have k7:(p.kind==5)=false:=by grind
 by_cases bu:p.kind=6
 ·rw[show cY c p=ij c p.a by grind[cY]];exact atu ⟨h5,iy,kM,jz,k7,by grind,awk c p.a ak,aa⟩
 have n6:(p.kind==6)=false:=by grind
 by_cases b1:p.kind=7
 ·rw[show cY c p=jF c p.a by grind[cY]];exact atv ⟨h5,iy,kM,jz,k7,n6,by grind,awa c p.a ak,aa⟩
 have n7:(p.kind==7)=false:=by grind
 rw[show cY c p=(c,false) by grind[cY]];exact atw ⟨h5,iy,kM,jz,k7,n6,n7,aa⟩
theorem avo(c:aT)(p:b')(ak:c.sz<=8388608)(hw:fa c):aq 87 [.agg c.e,.agg p.e] [.agg (cY c p).1.e,.one (B (cY c p).2)]:=by
 by_cases h1:p.kind=1
 ·rw[show cY c p=jg c p.a by grind[cY]];exact asL ⟨by grind,ave c p.a ak hw,aa⟩
 have h5:(p.kind==1)=false:=by grind
 by_cases U:p.kind=2
 ·rw[show cY c p=jh c p.a by grind[cY]];exact asM ⟨h5,by grind,avf c p.a ak hw,aa⟩
 have iy:(p.kind==2)=false:=by grind
 by_cases aA:p.kind=3
 ·rw[show cY c p=iS c p.a by grind[cY]];exact asN ⟨h5,iy,by grind,avg c p.a ak hw,aa⟩
 have kM:(p.kind==3)=false:=by grind
 by_cases aJ:p.kind=4
 ·rw[show cY c p=jE c p.a p.b by grind[cY]];exact asO ⟨h5,iy,kM,by grind,avh c p.a p.b ak hw,aa⟩
 have jz:(p.kind==4)=false:=by grind
 by_cases a':p.kind=5
 ·rw[show cY c p=ji c p.a p.b by grind[cY]];exact asP ⟨h5,iy,kM,jz,by grind,avi c p.a p.b ak hw,aa⟩
 have k7:(p.kind==5)=false:=by grind
 by_cases bu:p.kind=6
 ·rw[show cY c p=ij c p.a by grind[cY]];exact asQ ⟨h5,iy,kM,jz,k7,by grind,awn c p.a ak hw,aa⟩
 have n6:(p.kind==6)=false:=by grind
 by_cases b1:p.kind=7
 ·rw[show cY c p=jF c p.a by grind[cY]];exact asR ⟨h5,iy,kM,jz,k7,n6,by grind,awb c p.a ak hw,aa⟩
 have n7:(p.kind==7)=false:=by grind
 rw[show cY c p=(c,false) by grind[cY]];exact asS ⟨h5,iy,kM,jz,k7,n6,n7,rJ c ak,aa⟩
theorem YS(c:aT)(p:b')(ak:c.sz<=8388608)(hw:fa c):aq 204 [.agg c.e,.agg p.e] [.agg (cY c p).1.e,.one (B (cY c p).2)]:=
 aup ⟨DH c ak hw,OC c p ak,aa⟩
end Go.Proofs.YtdchjefneblpgaaGreat
namespace Go.Proofs.YtdchjefneblpgaaGreat
open Go.Sx Go.RowKit Go.Proofs.Tryz
theorem avp(c:aT)(l:List b')(ak:c.sz+4*l.length<=8388608):
  c8 prog (ap f15 0) (zX (l.map b'.e) 0 [] (c.ay.nodes.map Node.e) c.ay.ar c.ay.cap (c.ar.map aK.e) (c.bJ.map bm.e) (c.tokens.map bP.e) (c.news.map bT.e) (cB c) 0 0) (.exit 0)
   (Ov ((cU c l).2.map cv) ((cU c l).1.ay.nodes.map Node.e) (cU c l).1.ay.ar (cU c l).1.ay.cap ((cU c l).1.ar.map aK.e) ((cU c l).1.bJ.map bm.e) ((cU c l).1.tokens.map bP.e) ((cU c l).1.news.map bT.e) (cB (cU c l).1) 0 0):=by
 have al:l.length<=8388608:=by omega
 have k:=dY (P:=prog) (c:=(ap f15 0)) (cn 0) l.length (fun i:Nat=>zX (l.map b'.e) i ((cU c (l.take i)).2.map cv) ((cU c (l.take i)).1.ay.nodes.map Node.e) (cU c (l.take i)).1.ay.ar (cU c (l.take i)).1.ay.cap ((cU c (l.take i)).1.ar.map aK.e) ((cU c (l.take i)).1.bJ.map bm.e) ((cU c (l.take i)).1.tokens.map bP.e) ((cU c (l.take i)).1.news.map bT.e) (cB (cU c (l.take i)).1) 0 0) (fun i hi=>by
  obtain⟨p,hp⟩:=c4 hi;have aZ:=Cz (l.take i) c;have ao:=OK c l i;rw[Nd c hp];dsimp only;rw[G4];generalize cU c (l.take i)=o at*;exact auh ⟨b5 hi,bA,bH hi,bC b'.e hp,OC o.1 p (by omega),by grind,by grind,yU [(cY o.1 p).2],db hi al,aa⟩) (aui ⟨dw,aa⟩)
 rw[kS]at k;exact k
theorem YT(c:aT)(l:List b')(ak:c.sz+4*l.length<=8388608)(hw:fa c):aq 15 [.agg c.e,.one (.J 3 (l.map b'.e))] [.agg (cU c l).1.e,.one (.J 1 ((cU c l).2.map cv))]:=
 auj ⟨DH c (by omega) hw,avp c l ak,aa⟩
theorem avq(c:aT)(l:List b')(ak:c.sz+4*l.length<=8388608)(hw:fa c):aq 200 [.agg c.e,.one (.J 3 (l.map b'.e))] [.agg (cU c l).1.e,.one (.J 1 ((cU c l).2.map cv))]:=by
 have al:l.length<=8388608:=by omega
 have k:=dY (P:=prog) (c:=(ap f200 0)) (cn 0) l.length (fun i:Nat=>Dw (l.map b'.e) i ((cU c (l.take i)).2.map cv) ((cU c (l.take i)).1.ay.nodes.map Node.e) (cU c (l.take i)).1.ay.ar (cU c (l.take i)).1.ay.cap ((cU c (l.take i)).1.ar.map aK.e) ((cU c (l.take i)).1.bJ.map bm.e) ((cU c (l.take i)).1.tokens.map bP.e) ((cU c (l.take i)).1.news.map bT.e) 0 0) (fun i hi=>by
  obtain⟨p,hp⟩:=c4 hi;have aZ:=Cz (l.take i) c;have ao:=OK c l i;have ax:=(zT (l.take i) c).cW hw;rw[Nd c hp];dsimp only;rw[G4];generalize cU c (l.take i)=o at*;exact atr ⟨b5 hi,bA,bH hi,bC b'.e hp,avo o.1 p (by omega) ax,by grind,by grind,yU [(cY o.1 p).2],db hi al,aa⟩) (ats ⟨dw,aa⟩)
 rw[kS]at k;exact att ⟨rJ c (by omega),k,aa⟩
def gG(c:aT):aT×Nat:=((cU c (ff c)).1,mM (cU c (ff c)).2)
theorem avr{c d:aT}(h:d.ay=c.ay):ff d=ff c:=by grind[ff]
theorem Dz(c:aT):nV c (gG c).1:=zT _ _
theorem Gw(c:aT):(gG c).1.sz<=c.sz+400:=by
 grind[CA,ff,CG,gG]
theorem YU(c:aT)(l:List b')(ak:c.sz+4*l.length<=8388608):b2 prog 131 [.ref (fU c) (fU (cU c l).1),.ro (.one (.J 3 (l.map b'.e)))] (.vals [.one (I (mM (cU c l).2))]):=by
 have al:l.length<=8388608:=by omega
 have k:=dY (P:=prog) (c:=(ap f131 0)) (cn 0) l.length (fun i:Nat=>xO (l.map b'.e) i (mM (cU c (l.take i)).2) ((cU c (l.take i)).1.ay.nodes.map Node.e) (cU c (l.take i)).1.ay.ar (cU c (l.take i)).1.ay.cap ((cU c (l.take i)).1.ar.map aK.e) ((cU c (l.take i)).1.bJ.map bm.e) ((cU c (l.take i)).1.tokens.map bP.e) ((cU c (l.take i)).1.news.map bT.e) (cB (cU c (l.take i)).1)) (fun i hi=>by
  obtain⟨p,hp⟩:=c4 hi;have aZ:=Cz (l.take i) c;have aE:=Wk (cU c (l.take i)).2;have ao:=OK c l i;have bG:=G5 i l;rw[Nd c hp];dsimp only;rw[Wl];generalize cU c (l.take i)=o at*;have st:=OC o.1 p (by omega);cases aw:(cY o.1 p).2 with
  | true=>
   rw[aw]at st;exact atx ⟨b5 hi,bA,bH hi,bC b'.e hp,st,rfl,⟨by omega,by omega⟩,db hi al,aa⟩
  | false=>
   rw[aw]at st;exact aty ⟨b5 hi,bA,bH hi,bC b'.e hp,st,rfl,db hi al,aa⟩) (atz ⟨dw,aa⟩)
 rw[kS]at k;exact atA ⟨k,aa⟩
theorem avs(c:aT)(ak:c.sz+400<=8388608)(hw:fa c):aq 65 [.agg c.e] [.agg (gG c).1.e,.one (I (gG c).2)]:=
 aub ⟨DH c (by omega) hw,CH c,YU c (ff c) (by grind[CG]),aa⟩
theorem YV(c:aT)(ak:c.sz+400<=8388608)(hw:fa c):aq 64 [.agg c.e] [.agg (gG c).1.e,.one (I (gG c).2)]:=by
 have ai:=CG c;have run:=avq c (ff c) (by omega) hw;have aZ:=Cz (ff c) c;unfold gG;dsimp only;generalize cU c (ff c)=o at*;have k:=dY (P:=prog) (c:=(ap f64 0)) (cn 0) o.2.length (fun i:Nat=>xM (o.1.ay.nodes.map Node.e) o.1.ay.ar o.1.ay.cap (o.1.ar.map aK.e) (o.1.bJ.map bm.e) (o.1.tokens.map bP.e) (o.1.news.map bT.e) (o.2.map cv) i (mM (o.2.take i))) (fun i hi=>by
  obtain⟨b,aw⟩:=c4 hi;have aE:=Wk (o.2.take i);have bG:=G5 i o.2;rw[qH,aw,yD,Wl];cases b with
  | true=>exact as6 ⟨b5 hi,bA,bH hi,bC cv aw,rfl,⟨by omega,by omega⟩,db hi (by omega),aa⟩
  | false=>exact as7 ⟨b5 hi,bA,bH hi,bC cv aw,rfl,db hi (by omega),aa⟩) (as8 ⟨dw,aa⟩)
 rw[kS]at k;exact as9 ⟨afF c,run,k,aa⟩
def eG:Nat->aT->Nat->aT×Nat
 | 0,c,k=>(c,k)
 | n+1,c,k=>if (gG c).2=0 then ((gG c).1,k+1) else eG n (gG c).1 (k+1)
def jj(c:aT)(jx:Int):aT×Nat:=eG (fT jx 0 3000).toNat c 0
theorem Gx:∀(n:Nat) (c:aT) (k:Nat),(eG n c k).1.sz<=c.sz+n*400
 | 0,c,k=>fg _
 | n+1,c,k=>by
  have h1:=Gw c;have U:=Gx n (gG c).1 (k+1);unfold eG;split
  ·dsimp only;omega
  omega
theorem DA:∀(n:Nat) (c:aT) (k:Nat),nV c (eG n c k).1
 | 0,c,k=>.rfl
 | n+1,c,k=>by
  unfold eG;split
  ·exact Dz c
  exact (Dz c).trans (DA n _ _)
theorem YW{n:Nat}{c:aT}{k:Nat}(bO:¬(gG c).2=0):eG (n+1) c k=eG n (gG c).1 (k+1):=by
 simp_all[eG,bw]
theorem OD(n:Int):∃k:Nat,fT n 0 3000=k/\k<=3000:=by
 refine⟨(fT n 0 3000).toNat,?_,?_⟩<;>(unfold fT;grind)
theorem YX(m:Nat)(hm:m<=3000)(l:List b'):∀(n:Nat) (c:aT) (k:Nat),k+n=m->ff c=l->c.sz+n*400<=8388608->
  c8 prog (ap f16 0) (vz (l.map b'.e) m ((k:Int)+1) (c.ay.nodes.map Node.e) c.ay.ar c.ay.cap (c.ar.map aK.e) (c.bJ.map bm.e) (c.tokens.map bP.e) (c.news.map bT.e) (cB c) 0 0) .ret
    (Ot (eG n c k).2 ((eG n c k).1.ay.nodes.map Node.e) (eG n c k).1.ay.ar (eG n c k).1.ay.cap ((eG n c k).1.ar.map aK.e) ((eG n c k).1.bJ.map bm.e) ((eG n c k).1.tokens.map bP.e) ((eG n c k).1.news.map bT.e))\/
  (eG n c k).2=m/\c8 prog (ap f16 0) (vz (l.map b'.e) m ((k:Int)+1) (c.ay.nodes.map Node.e) c.ay.ar c.ay.cap (c.ar.map aK.e) (c.bJ.map bm.e) (c.tokens.map bP.e) (c.news.map bT.e) (cB c) 0 0) (.exit 0)
    (Ou m ((eG n c k).1.ay.nodes.map Node.e) (eG n c k).1.ay.ar (eG n c k).1.ay.cap ((eG n c k).1.ar.map aK.e) ((eG n c k).1.bJ.map bm.e) ((eG n c k).1.tokens.map bP.e) ((eG n c k).1.news.map bT.e) (cB (eG n c k).1) 0 0)
 | 0,c,k,hk,_,_=>.inr ⟨by grind[eG],.last (cn 0) (aud ⟨ea (by omega),aa⟩)⟩
 | n+1,c,k,hk,al,ak=>by
  have r:=YU c l (by grind[CG]);have ao:=Gw c;have ax:=(Dz c).ay;have e1:gG c=((cU c l).1,mM (cU c l).2):=by grind[gG]
  by_cases bO:(gG c).2=0
  ·rw[show eG (n+1) c k=((gG c).1,k+1) by simp_all[eG,bn]];rw[e1]at bO ⊢;exact .inl (.last e5 (auc ⟨dh (by omega),r,by grind,aa⟩))
  rw[YW bO];have eg:=YX m hm l n (gG c).1 (k+1) (by omega) ((avr ax).trans al) (by omega);rw[e1]at bO eg ⊢;rcases eg with eg | ⟨adX,eg⟩
  ·exact .inl (.more (Xy ⟨dh (by omega),r,by grind,⟨by omega,by omega⟩,aa⟩) eg)
  exact .inr ⟨adX,.more (Xy ⟨dh (by omega),r,by grind,⟨by omega,by omega⟩,aa⟩) eg⟩
theorem DB(c:aT)(jx:Int)(ak:c.sz+1200000<=8388608)(hw:fa c):aq 16 [.agg c.e,.one (I jx)] [.agg (jj c jx).1.e,.one (I (jj c jx).2)]:=by
 have b:=He jx 0 3000;obtain⟨m,hm,aw⟩:=OD jx;unfold jj;rw[hm]at b ⊢;rw[kU];rcases YX m (by omega) (ff c) m c 0 (by omega) rfl (by omega) with k | ⟨cS,k⟩
 ·exact aue ⟨DH c (by omega) hw,CH c,b,k,aa⟩
 rw[cS];exact auf ⟨DH c (by omega) hw,CH c,b,k,aa⟩
theorem YY(jx:Int)(m:Nat)(hm:m<=3000)(b:aq 167 [.one (I jx),.one (I 0),.one (I 3000)] [.one (I m)]):∀(n:Nat) (c:aT) (k:Nat),k+n=m->fa c->c.sz+n*400<=8388608->
  c8 prog (ap f40 0) (vy jx k (c.ay.nodes.map Node.e) c.ay.ar c.ay.cap (c.ar.map aK.e) (c.bJ.map bm.e) (c.tokens.map bP.e) (c.news.map bT.e) 0 0) (.exit 0)
    (On (eG n c k).2 ((eG n c k).1.ay.nodes.map Node.e) (eG n c k).1.ay.ar (eG n c k).1.ay.cap ((eG n c k).1.ar.map aK.e) ((eG n c k).1.bJ.map bm.e) ((eG n c k).1.tokens.map bP.e) ((eG n c k).1.news.map bT.e) 0 0)\/
  c8 prog (ap f40 0) (vy jx k (c.ay.nodes.map Node.e) c.ay.ar c.ay.cap (c.ar.map aK.e) (c.bJ.map bm.e) (c.tokens.map bP.e) (c.news.map bT.e) 0 0) (.exit 0)
    (Oo (eG n c k).2 ((eG n c k).1.ay.nodes.map Node.e) (eG n c k).1.ay.ar (eG n c k).1.ay.cap ((eG n c k).1.ar.map aK.e) ((eG n c k).1.bJ.map bm.e) ((eG n c k).1.tokens.map bP.e) ((eG n c k).1.news.map bT.e) 0 0)
 | 0,c,k,hk,_,_=>.inr (.last (cn 0) (atb ⟨b,ea (by omega),aa⟩))
 | n+1,c,k,hk,hw,ak=>by
  have r:=YV c (by omega) hw;have ao:=Gw c;have B3:=Dz c;by_cases bO:(gG c).2=0
  ·rw[show eG (n+1) c k=((gG c).1,k+1) by simp_all[eG,bn]];exact .inl (.last (cn 0) (ata ⟨b,dh (by omega),r,⟨by omega,by omega⟩,by grind,aa⟩))
  rw[YW bO];have eg:=YY jx m hm b n (gG c).1 (k+1) (by omega) (B3.cW hw) (by omega);rcases eg with eg | eg
  ·exact .inl (.more (Xp ⟨b,dh (by omega),r,⟨by omega,by omega⟩,by grind,aa⟩) eg)
  exact .inr (.more (Xp ⟨b,dh (by omega),r,⟨by omega,by omega⟩,by grind,aa⟩) eg)
theorem YZ(c:aT)(jx:Int)(ak:c.sz+1200000<=8388608)(hw:fa c):aq 40 [.agg c.e,.one (I jx)] [.agg (jj c jx).1.e,.one (I (jj c jx).2)]:=by
 have b:=Uy jx 0 3000;obtain⟨m,hm,aw⟩:=OD jx;unfold jj;rw[hm]at b ⊢;rw[kU];rcases YY jx m (by omega) b m c 0 (by omega) hw (by omega) with k | k
 ·exact atc ⟨rJ c (by omega),k,aa⟩
 exact atd ⟨rJ c (by omega),k,aa⟩
def Gy(c:aT):Bool:=(ff c).any fun p=>(cY c p).2
theorem avt(c:aT)(ak:c.sz<=8388608)(hw:fa c):aq 68 [.agg c.e] [.one (B (Gy c))]:=by
 have al:=CG c;have l:=gv (P:=prog) (c:=(ap f68 0)) (ff c) (fun p=>(cY c p).2) (fun i=>xN ((ff c).map b'.e) i (c.ay.nodes.map Node.e) c.ay.ar c.ay.cap (c.ar.map aK.e) (c.bJ.map bm.e) (c.tokens.map bP.e) (c.news.map bT.e)) (e1:=.ret) (e2:=.exit 0) (X:=fun _ _=>Oq true) e5 (cn 0)
  (fun i a ai h=>by
   have s:=YS c a ak hw;rw[h]at s;exact asE ⟨b5 (a1 ai),bA,bH (a1 ai),bC b'.e ai,s,rfl,db (a1 ai) (by omega),aa⟩)
  (fun i a ai h=>by
   have s:=YS c a ak hw;rw[h]at s;exact asD ⟨b5 (a1 ai),bA,bH (a1 ai),bC b'.e ai,s,rfl,aa⟩)
  (at5 ⟨dw,aa⟩)
 unfold Gy;rcases l with⟨_,_,h1,U⟩ | ⟨i,a,_,_,_,_,h1,U⟩
 ·rw[h1];exact at7 ⟨CH c,U,aa⟩
 rw[h1];exact at6 ⟨CH c,U,aa⟩
