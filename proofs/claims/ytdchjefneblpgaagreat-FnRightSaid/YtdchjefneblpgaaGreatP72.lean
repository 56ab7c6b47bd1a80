import Derived.Test.YtdchjefneblpgaaGreatP86
import Derived.Test.YtdchjefneblpgaaGreatGW
import Derived.Test.YtdchjefneblpgaaGreatGX
set_option linter.unusedVariables false
set_option linter.unusedSimpArgs false
namespace Go.Proofs.YtdchjefneblpgaaGreat
open Go.Sx Go.RowKit Go.Proofs.Tryz
theorem awg{g:bF}{op:Int}{x:Node}(h:dZ g op=some x):0<=op/\op<(↑(g.nodes.map Node.e).length:Int)/\(g.nodes.map Node.e)[op.toNat]?=some x.e:=by
 unfold dZ at h;split at h
 ·have:=a6 h;exact⟨‹_›,by rw[cp];omega,bL Node.e h⟩
 cases h
theorem awh(g:bF)(r:ay)(ar:g.sz<=8388608):av 265 [.agg g.e,.agg r.e] [.one (B (b7 g r))]:=by
 have k:=wI g ar;have fI:=rZ r;have LV:=N1 r.bf;cases h1:dg g with
 | false=>
  rw[h1]at k;rw[show b7 g r=false by unfold b7;split<;>simp[kF,h1]];exact aoa ⟨k,rfl,ad⟩
 | true=>
 rw[h1]at k;cases U:dM r with
 | false=>
  rw[U]at fI;rw[show b7 g r=false by unfold b7;split<;>simp[kF,U]];exact aob ⟨k,rfl,fI,rfl,ad⟩
 | true=>
 rw[U]at fI;cases aA:dZ g r.op with
 | none=>
  rw[show b7 g r=false by unfold b7;rw[aA]];exact ank ⟨k,rfl,fI,rfl,s4 g r.op false (by rw[aA];rfl) ar,rfl,ad⟩
 | some x=>
  obtain⟨m1,m2,m3⟩:=awg aA;have LR:=s4 g r.op true (by rw[aA];rfl) ar;rw[show b7 g r=kF g r x by unfold b7;rw[aA]];cases aI:(x.kind==7) with
  | false=>
   rw[show kF g r x=false by simp[kF,aI]];exact ann ⟨k,rfl,fI,rfl,LR,rfl,m1,m2,m3,LV,aI,ad⟩
  | true=>
  by_cases a':0<x.outs.length
  ·rw[show kF g r x=!(eF r.bf).2 by simp[kF,h1,U,aI,a']];exact anl ⟨k,rfl,fI,rfl,LR,rfl,m1,m2,m3,LV,aI,dc (by rw[cp];omega),ad⟩
  rw[show kF g r x=false by simp[kF,a']];exact anm ⟨k,rfl,fI,rfl,LR,rfl,m1,m2,m3,LV,aI,dE (by rw[cp];omega),ad⟩
end Go.Proofs.YtdchjefneblpgaaGreat
namespace Go.Proofs.YtdchjefneblpgaaGreat
open Go.Sx Go.RowKit Go.Proofs.Tryz
section
variable {xs : List ay} {r : ay} {t : List ay}
theorem vL(h:xs=r::t):((xs.map ay.e).drop 1).take ((xs.map ay.e).length-1)=t.map ay.e:=by grind
theorem pV(h:xs=r::t):(0:Int)<(↑(xs.map ay.e).length:Int):=by grind
theorem qL(h:xs=r::t):(xs.map ay.e)[0]?=some r.e:=by subst h;rfl
theorem nW(h:xs=r::t):((↑(xs.map ay.e).length:Int)==0)=false:=by
 grind
theorem vG(h:xs=[]):((↑(xs.map ay.e).length:Int)==0)=true:=by subst h;rfl
theorem zU(h:xs=r::t):decide ((↑(xs.map ay.e).length:Int)>0)=true:=dc (pV h)
theorem nv(h:xs=[]):decide ((↑(xs.map ay.e).length:Int)>0)=false:=by subst h;rfl
theorem q6:(0:Int)<=(some (1:Int)).getD 0:=by decide
theorem q7(h:xs=r::t):(some (1:Int)).getD 0<=(none:Option Int).getD (↑(xs.map ay.e).length:Int):=by
 grind
theorem q8{l:List (List D)}:(none:Option Int).getD (↑l.length:Int)<=(↑l.length:Int):=by simp
theorem A8(h:xs=r::t)(aj:xs.length<=8388608):(([]:List (List D)).length+(((xs.map ay.e).drop 1).take ((xs.map ay.e).length-1)).length)*40<=140737488355328:=by
 grind
theorem A9(h:xs=r::t)(aj:xs.length<=8388608):([]:List (List D)).length+(((xs.map ay.e).drop 1).take ((xs.map ay.e).length-1)).length<=9223372036854775807:=by
 grind
theorem A'(h:xs=r::t):Flat (((xs.map ay.e).drop 1).take ((xs.map ay.e).length-1)):=by grind[vL,dy,ay.flat]
theorem DG(h:xs=r::t):([]:List (List D))++((xs.map ay.e).drop 1).take ((xs.map ay.e).length-1)=t.map ay.e:=vL h
end
theorem zS{xs:List ay}{a:List D}(h:xs.length<=8388608):((xs.map ay.e).length+[a].length)*40<=140737488355328:=by simp;omega
theorem zT{xs:List ay}{a:List D}(h:xs.length<=8388608):(xs.map ay.e).length+[a].length<=9223372036854775807:=by simp;omega
theorem Y5(a:Int)(q:List ay)(r:ay)(b c d e:Int):bC.e ⟨a,q++[r],b,c,d,e⟩=[I a,.J 5 (q.map ay.e++[r.e]),I b,I c,I d,I e]:=by
 grind[bC.e]
theorem Ba{l:bC}(h:jr l=true):(0<=l.fb/\l.fb<=4)/\(0<=l.back/\l.back<=4)/\(0<=l.eG/\l.eG<=1000000000)/\(0<=l.eo/\l.eo<=1000000000)/\l.queue.length<=4:=by
 obtain⟨b8,bt,eL,k4,k5,nt,mh,qz⟩:=pS.1 h;simp only[aw,cc]at b8 bt eL k5;omega
theorem avs(l:bC)(r:ay)(aj:l.sz<=8388608):av 258 [.agg l.e,.agg r.e] [.agg (ei l r).1.e,.one (B (ei l r).2)]:=by
 have cK:=Iu l aj;have k:=G4 l aj;have fI:=s8 r;have aC:l.queue.length<=8388608:=aj;cases h1:jr l with
 | false=>
  rw[h1]at k;rw[show ei l r=(l,false) by grind[ei]];exact auJ ⟨cK,k,rfl,ad⟩
 | true=>
 rw[h1]at k;cases U:dM r with
 | false=>
  rw[U]at fI;rw[show ei l r=(l,false) by grind[ei]];exact auK ⟨cK,k,rfl,fI,rfl,ad⟩
 | true=>
 rw[U]at fI;by_cases aA:l.fb=0
 ·rw[show ei l r=(l,false) by grind[ei]];exact auL ⟨cK,k,rfl,fI,rfl,by grind,ad⟩
 have BN:(l.fb==0)=false:=by grind
 obtain⟨gv,gT,iX,jS,lv⟩:=Ba h1;by_cases aI:l.eG<1000000000
 ·rw[show ei l r=(⟨l.cap,l.queue++[r],l.fb-1,l.back,l.eG+1,l.eo⟩,true) by grind[ei]];dsimp only;rw[Y5];exact auN ⟨cK,k,rfl,fI,rfl,BN,dE (by omega),zS aC,zT aC,fA (ay.flat r),⟨by omega,by omega⟩,⟨by omega,by omega⟩,ad⟩
 rw[show ei l r=(l,false) by grind[ei]];dsimp only;exact auM ⟨cK,k,rfl,fI,rfl,BN,dc (by omega),ad⟩
theorem avt(l:bC)(aj:l.sz<=8388608):av 260 [.agg l.e] [.agg (dF l).1.e,.agg (dF l).2.1.e,.one (B (dF l).2.2)]:=by
 have cK:=Iu l aj;have k:=G4 l aj;have aC:l.queue.length<=8388608:=aj;cases h1:jr l with
 | false=>
  rw[h1]at k;rw[show dF l=(l,Bf,false) by grind[dF]];exact auO ⟨cK,k,rfl,ad⟩
 | true=>
 rw[h1]at k;cases U:l.queue with
 | nil=>
  rw[show dF l=(l,Bf,false) by simp_all[dF,bh]];exact auP ⟨cK,k,rfl,vG U,ad⟩
 | cons r q=>
  obtain⟨gv,gT,iX,jS,lv⟩:=Ba h1;rw[show dF l=(⟨l.cap,q,l.fb,l.back+1,l.eG,l.eo+1⟩,r,true) by simp_all[dF,bh]];have e:bC.e ⟨l.cap,q,l.fb,l.back+1,l.eG,l.eo+1⟩=[I l.cap,.J 5 (((l.queue.map ay.e).drop 1).take ((l.queue.map ay.e).length-1)),I l.fb,I (l.back+1),I l.eG,I (l.eo+1)]:=by rw[vL U];rfl
  dsimp only;rw[e];exact auQ ⟨cK,k,rfl,nW U,by omega,pV U,qL U,q6,q7 U,q8,A8 U aC,A9 U aC,A' U,⟨by omega,by omega⟩,⟨by omega,by omega⟩,ad⟩
theorem avu(l:bC)(aj:l.sz<=8388608):av 261 [.agg l.e] [.agg (fK l).1.e,.one (B (fK l).2)]:=by
 have cK:=Iu l aj;have k:=G4 l aj;cases h1:jr l with
 | false=>
  rw[h1]at k;rw[show fK l=(l,false) by grind[fK]];exact auy ⟨cK,k,rfl,ad⟩
 | true=>
 rw[h1]at k;by_cases aA:l.back=0
 ·rw[show fK l=(l,false) by grind[fK]];exact auz ⟨cK,k,rfl,by grind,ad⟩
 obtain⟨gv,gT,iX,jS,lv⟩:=Ba h1;rw[show fK l=(⟨l.cap,l.queue,l.fb+1,l.back-1,l.eG,l.eo⟩,true) by grind[fK]];exact auA ⟨cK,k,rfl,by grind,⟨by omega,by omega⟩,⟨by omega,by omega⟩,ad⟩
theorem avv(l:bC)(r:ay)(aj:l.sz<=8388608)(ar:l.eo<=9223372036854775807):av 149 [.agg l.e,.agg r.e] [.agg (ei l r).1.e,.one (B (ei l r).2)]:=by
 have cK:=It l aj;have k:=G3 l aj ar;have fI:=rZ r;have aC:l.queue.length<=8388608:=aj;cases h1:jr l with
 | false=>
  rw[h1]at k;rw[show ei l r=(l,false) by grind[ei]];exact atp ⟨cK,k,rfl,ad⟩
 | true=>
 rw[h1]at k;cases U:dM r with
 | false=>
  rw[U]at fI;rw[show ei l r=(l,false) by grind[ei]];exact atq ⟨cK,k,rfl,fI,rfl,ad⟩
 | true=>
 rw[U]at fI;by_cases aA:l.fb=0
 ·rw[show ei l r=(l,false) by grind[ei]];exact auS ⟨cK,k,rfl,fI,rfl,by grind,ad⟩
 have BN:(l.fb==0)=false:=by grind
 obtain⟨gv,gT,iX,jS,lv⟩:=Ba h1;by_cases aI:l.eG<1000000000
 ·rw[show ei l r=(⟨l.cap,l.queue++[r],l.fb-1,l.back,l.eG+1,l.eo⟩,true) by grind[ei]];dsimp only;rw[Y5];exact auU ⟨cK,k,rfl,fI,rfl,BN,by grind,zS aC,zT aC,fA (ay.flat r),⟨by omega,by omega⟩,⟨by omega,by omega⟩,ad⟩
 rw[show ei l r=(l,false) by grind[ei]];dsimp only;exact auT ⟨cK,k,rfl,fI,rfl,BN,by grind,ad⟩
theorem avw(l:bC)(aj:l.sz<=8388608)(ar:l.eo<=9223372036854775807):av 154 [.agg l.e] [.agg (dF l).1.e,.agg (dF l).2.1.e,.one (B (dF l).2.2)]:=by
 have cK:=It l aj;have k:=G3 l aj ar;have aC:l.queue.length<=8388608:=aj;cases h1:jr l with
 | false=>
  rw[h1]at k;rw[show dF l=(l,Bf,false) by grind[dF]];exact au4 ⟨cK,k,rfl,ad⟩
 | true=>
 rw[h1]at k;cases U:l.queue with
 | nil=>
  rw[show dF l=(l,Bf,false) by simp_all[dF,bh]];exact au5 ⟨cK,k,rfl,vG U,ad⟩
 | cons r q=>
  obtain⟨gv,gT,iX,jS,lv⟩:=Ba h1;rw[show dF l=(⟨l.cap,q,l.fb,l.back+1,l.eG,l.eo+1⟩,r,true) by simp_all[dF,bh]];have e:bC.e ⟨l.cap,q,l.fb,l.back+1,l.eG,l.eo+1⟩=[I l.cap,.J 5 (((l.queue.map ay.e).drop 1).take ((l.queue.map ay.e).length-1)),I l.fb,I (l.back+1),I l.eG,I (l.eo+1)]:=by rw[vL U];rfl
  dsimp only;rw[e];exact au6 ⟨cK,k,rfl,nW U,q6,q7 U,q8,⟨by omega,by omega⟩,⟨by omega,by omega⟩,by omega,pV U,qL U,ad⟩
theorem avx(l:bC)(aj:l.sz<=8388608)(ar:l.eo<=9223372036854775807):av 157 [.agg l.e] [.agg (fK l).1.e,.one (B (fK l).2)]:=by
 have cK:=It l aj;have k:=G3 l aj ar;cases h1:jr l with
 | false=>
  rw[h1]at k;rw[show fK l=(l,false) by grind[fK]];exact atx ⟨cK,k,rfl,ad⟩
 | true=>
 rw[h1]at k;by_cases aA:l.back=0
 ·rw[show fK l=(l,false) by grind[fK]];exact aty ⟨cK,k,rfl,by grind,ad⟩
 obtain⟨gv,gT,iX,jS,lv⟩:=Ba h1;rw[show fK l=(⟨l.cap,l.queue,l.fb+1,l.back-1,l.eG,l.eo⟩,true) by grind[fK]];exact atz ⟨cK,k,rfl,by grind,⟨by omega,by omega⟩,⟨by omega,by omega⟩,ad⟩
theorem Y6{n a b:Int}(aP:1<=n/\n<=4)(ae:aw a 0 (n-1)=true)(aq:aw b 0 (n-1)=true):aJ .i64 (a*n)/\aJ .i64 (a*n+b):=by
 simp only[aw,cc]at ae aq;have zz:n=1\/n=2\/n=3\/n=4:=by omega
 rcases zz with rfl | rfl | rfl | rfl<;>exact⟨⟨by omega,by omega⟩,⟨by omega,by omega⟩⟩
theorem Y7{n:Int}(h:aJ .i64 n):IntKind.i64.wrap n=n:=by
 obtain⟨h1,U⟩:=h;grind[IntKind.wrap_i64]
theorem Y8(g:bF)(a b:Int):∃v,av 61 [.agg g.e,.one (I a),.one (I b)] [.one (I v)]:=by
 cases ae:aw a 0 (IntKind.i64.wrap (g.ao-1)) with
 | false=>exact⟨_,YX ⟨gp _ _ _ _ ae,rfl,ad⟩⟩
 | true=>
 cases aq:aw b 0 (IntKind.i64.wrap (g.ao-1)) with
 | false=>exact⟨_,YY ⟨gp _ _ _ _ ae,rfl,gp _ _ _ _ aq,rfl,ad⟩⟩
 | true=>
 by_cases aP:g.ao<1
 ·exact⟨_,auF ⟨gp _ _ _ _ ae,rfl,gp _ _ _ _ aq,rfl,dc aP,ad⟩⟩
 exact⟨_,YZ ⟨gp _ _ _ _ ae,rfl,gp _ _ _ _ aq,rfl,dE aP,ad⟩⟩
theorem Qc(g:bF)(a b:Int)(aP:1<=g.ao/\g.ao<=4):av 61 [.agg g.e,.one (I a),.one (I b)] [.one (I (dT g a b))]:=by
 have i1:IntKind.i64.wrap (g.ao-1)=g.ao-1:=Y7 ⟨by omega,by omega⟩;have Cz:∀(x:Int) (r:Bool),aw x 0 (g.ao-1)=r->av 168 [.one (I x),.one (I 0),.one (I (IntKind.i64.wrap (g.ao-1)))] [.one (B r)]:=fun x r h=>by
  grind[gp]
 cases ae:aw a 0 (g.ao-1) with
 | false=>
  rw[uQ (by rw[ae];rfl)];exact YX ⟨Cz _ _ ae,rfl,ad⟩
 | true=>
 cases aq:aw b 0 (g.ao-1) with
 | false=>
  rw[uQ (by grind)];exact YY ⟨Cz _ _ ae,rfl,Cz _ _ aq,rfl,ad⟩
 | true=>
  obtain⟨qy,py⟩:=Y6 aP ae aq;have key:av 61 [.agg g.e,.one (I a),.one (I b)] [.one (I (IntKind.i64.wrap (IntKind.i64.wrap (a*g.ao)+b)))]:=YZ ⟨Cz a true ae,rfl,Cz b true aq,rfl,dE (by omega),ad⟩;grind[Y7,yf]
theorem Y9(g:bF)(a b:Int)(aP:1<=g.ao/\g.ao<=4):av 60 [.agg g.e,.one (I a),.one (I b)] [.one (I (dT g a b))]:=by
 cases bK:(aw a 0 (g.ao-1)&&aw b 0 (g.ao-1)) with
 | true=>
  rw[b9]at bK;obtain⟨qy,py⟩:=Y6 aP bK.1 bK.2;rw[(yf aP bK.1 bK.2).1];obtain⟨ae,aq⟩:=bK;simp only[aw,cc]at ae aq;exact atL ⟨dE (by grind),dE (by grind),qy,py,ad⟩
 | false=>
  rw[uQ bK];have sB:¬((0<=a/\a<=g.ao-1)/\(0<=b/\b<=g.ao-1)):=by
   simp_all[aw,true,b9,cc]
  by_cases hm:(if b<a then b else a)<0
  ·exact atJ ⟨dc hm,ad⟩
  exact atK ⟨dE hm,dc (by grind),ad⟩
theorem PA(w:aN)(r:ay):(kept w r).e=[.J 5 (w.queue.map ay.e++[r.e]),.J 5 (w.cj.map ay.e),.J 5 (w.bX.map ay.e),.J 4 (w.cells.map Cell.e),.J 1 (w.bP.map bd),.J 1 (w.bV.map cF),.J 1 (w.bl.map cF),.J 2 (w.b1.map cz.e)]:=by
 grind[kept,aN.e]
theorem avy(w:aN)(r:ay):(jY w r).e=[.J 5 (w.queue.map ay.e++[r.e]),.J 5 (w.cj.map ay.e),.J 5 (w.bX.map ay.e),.J 4 (w.cells.map Cell.e),.J 1 ((w.bP.map bd).set r.bf.aU.toNat [I (w.bP.getD r.bf.aU.toNat 0-1)]),.J 1 ((w.bV.map cF).set r.bf.aU.toNat [B true]),.J 1 (w.bl.map cF),.J 2 (w.b1.map cz.e)]:=by
 simp only[jY,nr,aN.e,gF,ks];rfl
theorem Y'(w:aN)(e:Int):(lD w e).e=[.J 5 (w.queue.map ay.e),.J 5 (w.cj.map ay.e),.J 5 (w.bX.map ay.e),.J 4 (w.cells.map Cell.e),.J 1 ((w.bP.map bd).set e.toNat [I (w.bP.getD e.toNat 0+1)]),.J 1 (w.bV.map cF),.J 1 (w.bl.map cF),.J 2 (w.b1.map cz.e)]:=by
 simp only[lD,nr,aN.e,ks];rfl
theorem Za(w:aN)(r:ay)(hw:w.sz<=8388608):av 148 [.agg w.e,.agg r.e] [.agg (kept w r).e]:=by
 have aC:w.queue.length<=8388608:=by grind[aN.sz]
 rw[PA];exact atI ⟨Av w hw,zS aC,zT aC,fA (ay.flat r),ad⟩
theorem avz(w:aN)(r:ay)(hw:w.sz<=8388608)(aI:w.bP.length=4)(aq:w.bV.length=4)(he:0<=r.bf.aU/\r.bf.aU<=3)(ai:-1000000<=w.bP.getD r.bf.aU.toNat 0/\w.bP.getD r.bf.aU.toNat 0<=1000000):
  av 155 [.agg w.e,.agg r.e] [.agg (jY w r).e]:=by
 have k:=Za w r hw;rw[PA]at k;rw[avy];obtain⟨s1,s2⟩:=CD aI he;obtain⟨eO,fo⟩:=vh aq he;have adt:(if (↑(w.bV.map cF).length:Int)<(↑(w.bP.map bd).length:Int) then (↑(w.bV.map cF).length:Int) else (↑(w.bP.map bd).length:Int))-1=3:=by
  grind
 exact atl ⟨k,⟨by grind,by grind⟩,hX true (by simp_all[aw,cc]),rfl,he.1,s1,s2,⟨by omega,by omega⟩,he.1,s1,s2,he.1,eO,fo,ad⟩
theorem avA(w:aN)(e:Int)(hw:w.sz<=8388608)(aI:w.bP.length=4)(he:0<=e/\e<=3)(ai:-1000000<=w.bP.getD e.toNat 0/\w.bP.getD e.toNat 0<=1000000):
  av 150 [.agg w.e,.one (I e)] [.agg (lD w e).e]:=by
 rw[Y'];obtain⟨s1,s2⟩:=CD aI he;have adt:(↑(w.bP.map bd).length:Int)-1=3:=by grind
 exact auV ⟨Av w hw,⟨by grind,by grind⟩,hX true (by simp_all[aw,cc]),rfl,he.1,s1,s2,⟨by omega,by omega⟩,he.1,s1,s2,ad⟩
theorem avB(w:aN)(r:ay)(t:List ay)(hw:w.sz<=8388608)(h:w.cj=r::t):av 146 [.agg w.e] [.agg (hI w t).e,.agg r.e,.one (B true)]:=by
 have e:(hI w t).e=[.J 5 (w.queue.map ay.e),.J 5 (((w.cj.map ay.e).drop 1).take ((w.cj.map ay.e).length-1)),.J 5 (w.bX.map ay.e),.J 4 (w.cells.map Cell.e),.J 1 (w.bP.map bd),.J 1 (w.bV.map cF),.J 1 (w.bl.map cF),.J 2 (w.b1.map cz.e)]:=by rw[vL h];rfl
 rw[e];exact avd ⟨Av w hw,nW h,q6,q7 h,q8,by omega,pV h,qL h,ad⟩
theorem avC(g:bF)(w:aN)(ar:g.sz<=8388608)(hw:w.sz<=8388608):av 169 [.agg g.e,.agg w.e] [.agg (gM g w).1.e,.one (B (gM g w).2)]:=by
 have cK:=Av w hw;have k:=wI g ar;have kw:=G7 g w ar hw;have uc:w.cells.length<=8388608:=by grind[aN.sz]
 cases h1:dg g with
 | false=>
  rw[h1]at k;rw[show gM g w=(w,false) by grind[gM]];exact ave ⟨cK,k,rfl,ad⟩
 | true=>
 rw[h1]at k;cases U:e8 g w with
 | false=>
  rw[U]at kw;rw[show gM g w=(w,false) by grind[gM]];exact avf ⟨cK,k,rfl,kw,rfl,ad⟩
 | true=>
 rw[U]at kw;have hu:gM g w=match w.cj,w.queue with
  | [],r::q=>(⟨q,(dh g w.cells r).2.1,w.bX,(dh g w.cells r).1,w.bP,w.bV,(if b7 g r then w.bl.set r.bf.aU.toNat true else w.bl),w.b1⟩,true)
  | _,_=>(w,false):=by grind[gM]
 cases aA:w.cj with
 | cons r q=>
  rw[show gM g w=(w,false) by rw[hu,aA]];exact avg ⟨cK,k,rfl,kw,rfl,zU aA,ad⟩
 | nil=>
 cases aI:w.queue with
 | nil=>
  rw[show gM g w=(w,false) by grind];exact avh ⟨cK,k,rfl,kw,rfl,nv aA,vG aI,ad⟩
 | cons r q=>
  have st:=anw g w.cells r ar uc;have tM:=awh g r ar;obtain⟨b8,_,_,_,_,_,mh,_⟩:=h3.1 U;rw[aI,pR]at b8;have he:=r3 b8.1;obtain⟨c1,c2⟩:=vh mh he;cases a':b7 g r with
  | true=>
   rw[a']at tM;rw[show gM g w=(⟨q,(dh g w.cells r).2.1,w.bX,(dh g w.cells r).1,w.bP,w.bV,w.bl.set r.bf.aU.toNat true,w.b1⟩,true) by grind];have e:aN.e ⟨q,(dh g w.cells r).2.1,w.bX,(dh g w.cells r).1,w.bP,w.bV,w.bl.set r.bf.aU.toNat true,w.b1⟩=[.J 5 (((w.queue.map ay.e).drop 1).take ((w.queue.map ay.e).length-1)),.J 5 ((dh g w.cells r).2.1.map ay.e),.J 5 (w.bX.map ay.e),.J 4 ((dh g w.cells r).1.map Cell.e),.J 1 (w.bP.map bd),.J 1 (w.bV.map cF),.J 1 ((w.bl.map cF).set r.bf.aU.toNat [B true]),.J 2 (w.b1.map cz.e)]:=by
    rw[vL aI];simp only[aN.e,ks];rfl
   dsimp only;rw[e];exact aur ⟨cK,k,rfl,kw,rfl,nv aA,nW aI,by omega,pV aI,qL aI,q6,q7 aI,q8,st,tM,rfl,he.1,c1,c2,ad⟩
  | false=>
   rw[a']at tM;rw[show gM g w=(⟨q,(dh g w.cells r).2.1,w.bX,(dh g w.cells r).1,w.bP,w.bV,w.bl,w.b1⟩,true) by grind];have e:aN.e ⟨q,(dh g w.cells r).2.1,w.bX,(dh g w.cells r).1,w.bP,w.bV,w.bl,w.b1⟩=[.J 5 (((w.queue.map ay.e).drop 1).take ((w.queue.map ay.e).length-1)),.J 5 ((dh g w.cells r).2.1.map ay.e),.J 5 (w.bX.map ay.e),.J 4 ((dh g w.cells r).1.map Cell.e),.J 1 (w.bP.map bd),.J 1 (w.bV.map cF),.J 1 (w.bl.map cF),.J 2 (w.b1.map cz.e)]:=by
    rw[vL aI];rfl
   dsimp only;rw[e];exact aus ⟨cK,k,rfl,kw,rfl,nv aA,nW aI,by omega,pV aI,qL aI,q6,q7 aI,q8,st,tM,rfl,ad⟩
theorem avD(g:bF)(w:aN)(ar:g.sz<=8388608)(hw:w.sz<=8388608):av 164 [.agg g.e,.agg w.e] [.agg (gN g w).1.e,.one (B (gN g w).2)]:=by
 have cK:=Av w hw;have k:=wI g ar;have kw:=G7 g w ar hw;have aC:w.queue.length<=8388608:=by grind[aN.sz]
 cases h1:dg g with
 | false=>
  rw[h1]at k;rw[show gN g w=(w,false) by grind[gN]];exact au7 ⟨cK,k,rfl,ad⟩
 | true=>
 rw[h1]at k;cases U:e8 g w with
 | false=>
  rw[U]at kw;rw[show gN g w=(w,false) by grind[gN]];exact au8 ⟨cK,k,rfl,kw,rfl,ad⟩
 | true=>
 rw[U]at kw;have hu:gN g w=match w.cj,w.queue,w.bX with
  | [],[],r::t=>(⟨[r],[],t,w.cells,w.bP,w.bV,w.bl,w.b1⟩,true)
  | _,_,_=>(w,false):=by grind[gN]
 cases aA:w.cj with
 | cons r q=>
  rw[show gN g w=(w,false) by rw[hu,aA]];exact au9 ⟨cK,k,rfl,kw,rfl,zU aA,ad⟩
 | nil=>
 cases aI:w.queue with
 | cons r q=>
  rw[show gN g w=(w,false) by grind];exact ava ⟨cK,k,rfl,kw,rfl,nv aA,zU aI,ad⟩
 | nil=>
 cases a':w.bX with
 | nil=>
  rw[show gN g w=(w,false) by grind];exact avb ⟨cK,k,rfl,kw,rfl,nv aA,nv aI,vG a',ad⟩
 | cons r t=>
  rw[show gN g w=(⟨[r],[],t,w.cells,w.bP,w.bV,w.bl,w.b1⟩,true) by grind];have e:aN.e ⟨[r],[],t,w.cells,w.bP,w.bV,w.bl,w.b1⟩=[.J 5 (w.queue.map ay.e++[r.e]),.J 5 (w.cj.map ay.e),.J 5 (((w.bX.map ay.e).drop 1).take ((w.bX.map ay.e).length-1)),.J 4 (w.cells.map Cell.e),.J 1 (w.bP.map bd),.J 1 (w.bV.map cF),.J 1 (w.bl.map cF),.J 2 (w.b1.map cz.e)]:=by
   rw[vL a',aI,aA];rfl
  dsimp only;rw[e];exact avc ⟨cK,k,rfl,kw,rfl,nv aA,nv aI,nW a',by omega,pV a',qL a',zS aC,zT aC,fA (ay.flat r),q6,q7 a',q8,ad⟩
end Go.Proofs.YtdchjefneblpgaaGreat
namespace Go.Proofs.YtdchjefneblpgaaGreat
open Go.Sx Go.RowKit Go.Proofs.Tryz
variable{c:aV}{w:Int}
theorem Zb(h:b0 c w=none):aw w 0 ((↑(c.ao.map aN.e).length:Int)-1)=false:=by
 grind[b0,aw,cp,l4]
variable{x:aN}
theorem H7(h:b0 c w=some x):aw w 0 ((↑(c.ao.map aN.e).length:Int)-1)=true:=by
 obtain⟨h1,U,_⟩:=dU h;simp only[aw,cp,cc];omega
variable{i:Int}
theorem Bb{x:bC}(h:eA c i=some x):0<=i/\i<(↑(c.bQ.map bC.e).length:Int)/\(c.bQ.map bC.e)[i.toNat]?=some x.e:=by
 obtain⟨h1,U,aA⟩:=hJ h;grind
theorem Bc{x:bC}(h:eA c i=some x)(al:c.sz<=8388608):x.sz<=8388608:=aV.LM al (cB (hJ h).2.2)
theorem PB{x:bC}(h:eA c i=some x)(hw:ga c):x.eo<=9223372036854775807:=hw _ (cB (hJ h).2.2)
theorem IQ(al:c.sz<=8388608):aJ .i64 ((↑(c.ao.map aN.e).length:Int)-1):=by
 have:=aV.Ei al;exact⟨by grind,by grind⟩
theorem PC(c:aV)(w:Int)(y:aN):(setW c w y).e=[.J 4 (c.ax.nodes.map Node.e),I c.ax.ao,I c.ax.cap,.J 8 ((c.ao.map aN.e).set w.toNat y.e),.J 6 (c.bQ.map bC.e),.J 5 (c.tokens.map bO.e),.J 3 (c.news.map bW.e)]:=by grind[setW,aV.e,ks]
theorem avE(c:aV)(i:Int)(y:bC):(c3 c i y).e=[.J 4 (c.ax.nodes.map Node.e),I c.ax.ao,I c.ax.cap,.J 8 (c.ao.map aN.e),.J 6 ((c.bQ.map bC.e).set i.toNat y.e),.J 5 (c.tokens.map bO.e),.J 3 (c.news.map bW.e)]:=by grind[c3,aV.e,ks]
theorem Zc(c:aV)(w i:Int)(y:aN)(z:bC):(setW (c3 c i z) w y).e=[.J 4 (c.ax.nodes.map Node.e),I c.ax.ao,I c.ax.cap,.J 8 ((c.ao.map aN.e).set w.toNat y.e),.J 6 ((c.bQ.map bC.e).set i.toNat z.e),.J 5 (c.tokens.map bO.e),.J 3 (c.news.map bW.e)]:=by grind[setW,c3,aV.e,ks]
theorem DH(c:aV)(w:Int)(y:aN)(b:Bool):nI (setW c w y) b=[.J 4 (c.ax.nodes.map Node.e),I c.ax.ao,I c.ax.cap,.J 8 ((c.ao.map aN.e).set w.toNat y.e),.J 6 (c.bQ.map bC.e),.J 5 (c.tokens.map bO.e),.J 3 (c.news.map bW.e),B b]:=by grind[setW,nI,ks]
theorem Zd(c:aV)(i:Int)(y:bC)(b:Bool):nI (c3 c i y) b=[.J 4 (c.ax.nodes.map Node.e),I c.ax.ao,I c.ax.cap,.J 8 (c.ao.map aN.e),.J 6 ((c.bQ.map bC.e).set i.toNat y.e),.J 5 (c.tokens.map bO.e),.J 3 (c.news.map bW.e),B b]:=by grind[c3,nI,ks]
theorem PD(c:aV)(w i:Int)(y:aN)(z:bC)(b:Bool):nI (setW (c3 c i z) w y) b=[.J 4 (c.ax.nodes.map Node.e),I c.ax.ao,I c.ax.cap,.J 8 ((c.ao.map aN.e).set w.toNat y.e),.J 6 ((c.bQ.map bC.e).set i.toNat z.e),.J 5 (c.tokens.map bO.e),.J 3 (c.news.map bW.e),B b]:=by grind[setW,c3,nI,ks]
theorem PE(c:aV)(w:Int)(al:c.sz<=8388608)(hw:ga c):av 145 [.agg c.e,.one (I w)] [.one (B (cr c&&(b0 c w).isSome))]:=by
 have k:=Il c al hw;cases ok:cr c with
 | false=>rw[ok]at k;exact aut ⟨k,rfl,ad⟩
 | true=>
  rw[ok]at k;cases aa:b0 c w with
  | none=>exact YV ⟨k,rfl,IQ al,hX _ (Zb aa),ad⟩
  | some x=>exact YV ⟨k,rfl,IQ al,hX _ (H7 aa),ad⟩
theorem Ze(c:aV)(a b:Int)(al:c.sz<=8388608)(hw:ga c):av 153 [.agg c.e,.one (I a),.one (I b)] [.one (I (if cr c&&a != b then dT c.ax a b else -1))]:=by
 have k:=Il c al hw;cases ok:cr c with
 | false=>rw[ok]at k;exact auu ⟨k,rfl,ad⟩
 | true=>
  rw[ok]at k;by_cases dw:a=b
  ·rw[show (true&&a != b)=false by simp[dw]];exact auv ⟨k,rfl,by simp[dw],ad⟩
  rw[show (true&&a != b)=true by simp[dw],bh rfl];exact auw ⟨k,rfl,by simp[dw],Y9 c.ax a b (ih (fe.1 ok).1),ad⟩
theorem avF(c:aV)(w:Int)(al:c.sz<=8388608)(hw:ga c):av 44 [.agg c.e,.one (I w)] [.agg (js c w).1.e,.one (B (js c w).2)]:=by
 have cK:=r5 c al;have k:=PE c w al hw;cases ok:cr c with
 | false=>
  rw[ok]at k;rw[show js c w=(c,false) by grind[js]];exact YT ⟨cK,k,rfl,ad⟩
 | true=>
 cases aa:b0 c w with
 | none=>
  rw[ok,aa]at k;rw[show js c w=(c,false) by grind[js]];exact YT ⟨cK,k,rfl,ad⟩
 | some x=>
  rw[ok,aa]at k;obtain⟨c4,db,ck⟩:=mQ aa;rw[show js c w=(setW c w (gM c.ax x).1,(gM c.ax x).2) by grind[js]];dsimp only;rw[PC];exact atk ⟨cK,k,rfl,c4,db,ck,avC c.ax x (aV.ox al) (nG aa al),c4,db,ck,ad⟩
theorem avG(c:aV)(w:Int)(al:c.sz<=8388608)(hw:ga c):av 36 [.agg c.e,.one (I w)] [.agg (jt c w).1.e,.one (B (jt c w).2)]:=by
 have cK:=r5 c al;have k:=PE c w al hw;cases ok:cr c with
 | false=>
  rw[ok]at k;rw[show jt c w=(c,false) by grind[jt]];exact YQ ⟨cK,k,rfl,ad⟩
 | true=>
 cases aa:b0 c w with
 | none=>
  rw[ok,aa]at k;rw[show jt c w=(c,false) by grind[jt]];exact YQ ⟨cK,k,rfl,ad⟩
 | some x=>
  rw[ok,aa]at k;obtain⟨c4,db,ck⟩:=mQ aa;rw[show jt c w=(setW c w (gN c.ax x).1,(gN c.ax x).2) by grind[jt]];dsimp only;rw[PC];exact atN ⟨cK,k,rfl,c4,db,ck,avD c.ax x (aV.ox al) (nG aa al),c4,db,ck,ad⟩
theorem H8(ok:cr c=true)(aa:b0 c w=some x):x.bP.length=4/\x.bV.length=4/\x.bl.length=4/\(∀e:Int,0<=e/\e<=3->-1000000<=x.bP.getD e.toNat 0/\x.bP.getD e.toNat 0<=1000000):=by
 obtain⟨_,_,_,_,k5,nt,mh,_,uo,_⟩:=h3.1 (iJ ok aa);refine⟨k5,nt,mh,fun e he=>?_⟩;have aj:e.toNat<x.bP.length:=by omega
 rw[fm]at uo;have:=uo _ (p5 aj);rw[lZ,jA aj,l0];simpa only[oU,gQ,jf,aw,cc,wX,Bool.not_not,Bool.not_eq_eq_eq_not,jg,l4,Classical.not_not]using this
variable{r:ay}{t:List ay}
theorem YG(ok:cr c=true)(aa:b0 c w=some x)(ai:x.cj=r::t):jc c w=r1 c w x r t (ec r.key c.ax.ao):=by
 simp_all[jc,bh]
theorem YH{o:Int}(h:o=w):r1 c w x r t o=(setW c w (kept (hI x t) r),true):=bh h
variable{l:bC}
theorem YI{o:Int}(h:o≠w)(aj:eA c (dT c.ax w o)=some l):r1 c w x r t o=if (ei l r).2 then (setW (c3 c (dT c.ax w o) (ei l r).1) w (lD (hI x t) r.bf.aU),true) else (c,false):=by
 simp_all[r1,bq]
theorem avH(c:aV)(w:Int)(al:c.sz<=8388608)(hw:ga c):av 28 [.agg c.e,.one (I w)] [.agg (jc c w).1.e,.one (B (jc c w).2)]:=by
 have cK:=r5 c al;have k:=PE c w al hw;cases ok:cr c with
 | false=>
  rw[ok]at k;rw[show jc c w=(c,false) by grind[jc]];exact YR ⟨cK,k,rfl,ad⟩
 | true=>
 cases aa:b0 c w with
 | none=>
  rw[ok,aa]at k;rw[show jc c w=(c,false) by grind[jc]];exact YR ⟨cK,k,rfl,ad⟩
 | some x=>
 rw[ok,aa]at k;obtain⟨c4,db,ck⟩:=mQ aa;have aP:=ih (fe.1 ok).1;cases ai:x.cj with
 | nil=>
  rw[show jc c w=(c,false) by simp_all[jc,bh]];exact atO ⟨cK,k,rfl,c4,db,ck,vG ai,ad⟩
 | cons r t=>
  have dN:=nG aa al;have gS:(hI x t).sz<=8388608:=by grind[W4]
  have un:=avB x r t dN ai;have gw:=Wc r.key c.ax.ao (by omega);have aB:=(Im (iJ ok aa) ai).2;have he:=r3 aB;obtain⟨f4,_,_,eI⟩:=H8 ok aa;rw[YG ok aa ai];have zR:=Al r.key aP.1;generalize ec r.key c.ax.ao=o at gw zR;by_cases how:o=w
  ·rw[YH how];dsimp only;rw[PC];exact atP ⟨cK,k,rfl,c4,db,ck,nW ai,c4,db,ck,un,gw,by grind,Za (hI x t) r gS,c4,db,ck,ad⟩
  have sx:(o==w)=false:=by grind
  have win:aw w 0 (c.ax.ao-1)=true:=by
   have:=H7 aa;rwa[cp,(fe.1 ok).2.1]at this
  obtain⟨l,aj⟩:=yg ok win zR;obtain⟨k6,k7,k8⟩:=Bb aj;have aQ:=Y9 c.ax w o aP;have k':=avv l r (Bc aj al) (PB aj hw);rw[YI how aj];cases bu:(ei l r).2 with
  | false=>
   rw[bu]at k';exact atQ ⟨cK,k,rfl,c4,db,ck,nW ai,c4,db,ck,un,gw,sx,aQ,k6,k7,k8,k',rfl,ad⟩
  | true=>
   rw[bu]at k';rw[bh rfl];dsimp only;rw[Zc];exact ath ⟨cK,k,rfl,c4,db,ck,nW ai,c4,db,ck,un,gw,sx,aQ,k6,k7,k8,k',rfl,k6,k7,k8,avA (hI x t) r.bf.aU gS f4 he (eI _ he),c4,db,ck,ad⟩
variable{a b:Int}
theorem H9(h:(aw a 0 (c.ax.ao-1)&&aw b 0 (c.ax.ao-1))=false):eA c (dT c.ax a b)=none:=by
 rw[uQ h];rfl
theorem YJ(ok:cr c=true)(dw:a≠b)(aj:eA c (dT c.ax a b)=some l)(aa:b0 c b=some x):jT c a b=if (dF l).2.2 then (setW (c3 c (dT c.ax a b) (dF l).1) b (jY x (dF l).2.1),true) else (c,false):=by
 simp_all[jT,bh]
theorem YK(ok:cr c=true)(dw:a≠b)(aj:eA c (dT c.ax a b)=some l):ju c a b=(c3 c (dT c.ax a b) (fK l).1,(fK l).2):=by
 simp_all[ju,bh]
theorem avI(c:aV)(a b:Int)(al:c.sz<=8388608)(hw:ga c):av 31 [.agg c.e,.one (I a),.one (I b)] [.agg (jT c a b).1.e,.one (B (jT c a b).2)]:=by
 have cK:=r5 c al;have k:=Ze c a b al hw;cases h1:(cr c&&a != b) with
 | false=>
  rw[h1,bq (by decide)]at k;rw[show jT c a b=(c,false) by grind[jT]];exact YS ⟨cK,k,dc (by decide),ad⟩
 | true=>
 rw[h1,bh rfl]at k;rw[b9]at h1;obtain⟨ok,dw⟩:=h1;have dw:a≠b:=by grind
 have aP:=ih (fe.1 ok).1;cases bK:(aw a 0 (c.ax.ao-1)&&aw b 0 (c.ax.ao-1)) with
 | false=>
  rw[uQ bK]at k;rw[show jT c a b=(c,false) by grind[jT,H9]];exact YS ⟨cK,k,dc (by decide),ad⟩
 | true=>
 rw[b9]at bK;obtain⟨l,aj⟩:=yg ok bK.1 bK.2;obtain⟨x,aa⟩:∃x,b0 c b=some x:=by
  have aq:=bK.2;have:=(fe.1 ok).2.1;simp only[aw,cc]at aq;grind[oV]
 obtain⟨k6,k7,k8⟩:=Bb aj;obtain⟨c4,db,ck⟩:=mQ aa;have tu:=avw l (Bc aj al) (PB aj hw);rw[YJ ok dw aj aa];cases bu:(dF l).2.2 with
 | false=>
  rw[bu]at tu;exact ati ⟨cK,k,dE (by omega),k6,k7,k8,tu,rfl,ad⟩
 | true=>
  rw[bu]at tu;have he:=r3 (Ip (r2 ok aj) bu).2;obtain⟨f4,BH,_,eI⟩:=H8 ok aa;rw[bh rfl];dsimp only;rw[Zc];exact atj ⟨cK,k,dE (by omega),k6,k7,k8,tu,rfl,k6,k7,k8,c4,db,ck,avz x _ (nG aa al) f4 BH he (eI _ he),c4,db,ck,ad⟩
theorem avJ(c:aV)(a b:Int)(al:c.sz<=8388608)(hw:ga c):av 33 [.agg c.e,.one (I a),.one (I b)] [.agg (ju c a b).1.e,.one (B (ju c a b).2)]:=by
 have cK:=r5 c al;have k:=Ze c a b al hw;cases h1:(cr c&&a != b) with
 | false=>
  rw[h1,bq (by decide)]at k;rw[show ju c a b=(c,false) by grind[ju]];exact ZD ⟨cK,k,dc (by decide),ad⟩
 | true=>
 rw[h1,bh rfl]at k;rw[b9]at h1;obtain⟨ok,dw⟩:=h1;have dw:a≠b:=by grind
 cases bK:(aw a 0 (c.ax.ao-1)&&aw b 0 (c.ax.ao-1)) with
 | false=>
  rw[uQ bK]at k;rw[show ju c a b=(c,false) by grind[ju,H9]];exact ZD ⟨cK,k,dc (by decide),ad⟩
 | true=>
 rw[b9]at bK;obtain⟨l,aj⟩:=yg ok bK.1 bK.2;obtain⟨k6,k7,k8⟩:=Bb aj;rw[YK ok dw aj];dsimp only;rw[avE];exact atM ⟨cK,k,dE (by omega),k6,k7,k8,avx l (Bc aj al) (PB aj hw),k6,k7,k8,ad⟩
theorem PF(c:aV)(w:Int)(al:c.sz<=8388608):cH prog 257 [.ref (fT c) (fT c),.ro (.one (I w))] (.vals [.one (B (cr c&&(b0 c w).isSome))]):=by
 unfold fT;cases ok:cr c with
 | false=>exact auo ⟨rfl,ad⟩
 | true=>
  cases aa:b0 c w with
  | none=>exact Y1 ⟨rfl,IQ al,gp _ _ _ _ (Zb aa),ad⟩
  | some x=>exact Y1 ⟨rfl,IQ al,gp _ _ _ _ (H7 aa),ad⟩
def IM(x:aN)(e d:Int):aN:=⟨x.queue,x.cj,x.bX,x.cells,nr x.bP e d,x.bV,x.bl,x.b1⟩
theorem YL(w:aN)(e d:Int):(IM w e d).e=[.J 5 (w.queue.map ay.e),.J 5 (w.cj.map ay.e),.J 5 (w.bX.map ay.e),.J 4 (w.cells.map Cell.e),.J 1 ((w.bP.map bd).set e.toNat [I (w.bP.getD e.toNat 0+d)]),.J 1 (w.bV.map cF),.J 1 (w.bl.map cF),.J 2 (w.b1.map cz.e)]:=by
 simp only[IM,nr,aN.e,ks];rfl
theorem YM(c:aV)(w e d:Int)(x:aN)(aa:b0 c w=some x)(aI:x.bP.length=4)(he:0<=e/\e<=3)(aF:-1<=d/\d<=1)(ai:-1000000<=x.bP.getD e.toNat 0/\x.bP.getD e.toNat 0<=1000000):
  cH prog 259 [.ref (nI c true) (nI (setW c w (IM x e d)) (aw (x.bP.getD e.toNat 0+d) (-1000000) 1000000)),.ro (.one (I w)),.ro (.one (I e)),.ro (.one (I d))] (.vals []):=by
 obtain⟨c4,db,ck⟩:=mQ aa;obtain⟨s1,s2⟩:=CD aI he;rw[DH,YL];exact avU ⟨c4,db,ck,c4,db,ck,he.1,s1,s2,⟨by omega,by omega⟩,he.1,s1,s2,ck,rfl,rfl,rfl,rfl,rfl,c4,by grind,ia c4 db,he.1,by grind,ia he.1 s1,iw _ _ _,ad⟩
theorem avK(c:aV)(w:Int)(al:c.sz<=8388608):cH prog 170 [.ref (fT c) (fT (js c w).1),.ro (.one (I w))] (.vals [.one (B (js c w).2)]):=by
 have post:=fun h=>WX (c:=c) (w:=w) h
 have is:=PF c w al;cases ok:cr c with
 | false=>
  rw[ok]at is;rw[show js c w=(c,false) by grind[js]];exact Y3 ⟨is,rfl,ad⟩
 | true=>
 replace post:=post ok;cases aa:b0 c w with
 | none=>
  rw[ok,aa]at is;rw[show js c w=(c,false) by grind[js]];exact Y3 ⟨is,rfl,ad⟩
 | some x=>
 rw[ok,aa]at is;obtain⟨c4,db,ck⟩:=mQ aa;have dN:=nG aa al;have acB:=(fe.1 ok).1;have Z9:=iJ ok aa;have hu:gM c.ax x=match x.cj,x.queue with
  | [],r::q=>(⟨q,(dh c.ax x.cells r).2.1,x.bX,(dh c.ax x.cells r).1,x.bP,x.bV,(if b7 c.ax r then x.bl.set r.bf.aU.toNat true else x.bl),x.b1⟩,true)
  | _,_=>(x,false):=by grind[gM]
 have uy:js c w=(setW c w (gM c.ax x).1,(gM c.ax x).2):=by grind[js]
 cases aA:x.cj with
 | cons r q=>
  rw[uy,show gM c.ax x=(x,false) by rw[hu,aA]];dsimp only;rw[uP aa];exact av0 ⟨is,rfl,c4,db,ck,zU aA,ad⟩
 | nil=>
 cases aI:x.queue with
 | nil=>
  rw[uy,show gM c.ax x=(x,false) by grind];dsimp only;rw[uP aa];exact av1 ⟨is,rfl,c4,db,ck,nv aA,vG aI,ad⟩
 | cons r q=>
  have uc:x.cells.length<=8388608:=by grind[aN.sz]
  have sH:x.queue.length<=8388608:=by grind[aN.sz]
  have ar:=aV.ox al;have st:=anv c.ax x.cells r ar uc;have tM:=anz c.ax r ar;obtain⟨b8,_,_,_,_,_,mh,_⟩:=h3.1 Z9;rw[aI,pR]at b8;have he:=r3 b8.1;obtain⟨c1,c2⟩:=vh mh he;unfold fT at is ⊢;rw[post];rw[ok]at is ⊢;cases a':b7 c.ax r with
  | true=>
   rw[a']at tM;rw[uy,show gM c.ax x=(⟨q,(dh c.ax x.cells r).2.1,x.bX,(dh c.ax x.cells r).1,x.bP,x.bV,x.bl.set r.bf.aU.toNat true,x.b1⟩,true) by grind];have e:aN.e ⟨q,(dh c.ax x.cells r).2.1,x.bX,(dh c.ax x.cells r).1,x.bP,x.bV,x.bl.set r.bf.aU.toNat true,x.b1⟩=[.J 5 ([]++((x.queue.map ay.e).drop 1).take ((x.queue.map ay.e).length-1)),.J 5 ((dh c.ax x.cells r).2.1.map ay.e),.J 5 (x.bX.map ay.e),.J 4 ((dh c.ax x.cells r).1.map Cell.e),.J 1 (x.bP.map bd),.J 1 (x.bV.map cF),.J 1 ((x.bl.map cF).set r.bf.aU.toNat [B true]),.J 2 (x.b1.map cz.e)]:=by
    rw[DG aI];simp only[aN.e,ks];rfl
   dsimp only;rw[DH,e];have key:=av2 ⟨is,rfl,c4,db,ck,nv aA,nW aI,by omega,pV aI,qL aI,st,q6,q7 aI,q8,A8 aI sH,A9 aI sH,A' aI,tM,rfl,he.1,c1,c2,ck,rfl,rfl,rfl,rfl,c4,by grind,ia c4 db,rfl,rfl,rfl,rfl,rfl,ad⟩;simp only[qT]at key;exact key
  | false=>
   rw[a']at tM;rw[uy,show gM c.ax x=(⟨q,(dh c.ax x.cells r).2.1,x.bX,(dh c.ax x.cells r).1,x.bP,x.bV,x.bl,x.b1⟩,true) by grind];have e:aN.e ⟨q,(dh c.ax x.cells r).2.1,x.bX,(dh c.ax x.cells r).1,x.bP,x.bV,x.bl,x.b1⟩=[.J 5 ([]++((x.queue.map ay.e).drop 1).take ((x.queue.map ay.e).length-1)),.J 5 ((dh c.ax x.cells r).2.1.map ay.e),.J 5 (x.bX.map ay.e),.J 4 ((dh c.ax x.cells r).1.map Cell.e),.J 1 (x.bP.map bd),.J 1 (x.bV.map cF),.J 1 (x.bl.map cF),.J 2 (x.b1.map cz.e)]:=by
    rw[DG aI];rfl
   dsimp only;rw[DH,e];exact av3 ⟨is,rfl,c4,db,ck,nv aA,nW aI,by omega,pV aI,qL aI,st,q6,q7 aI,q8,A8 aI sH,A9 aI sH,A' aI,tM,rfl,c4,db,ck,rfl,rfl,rfl,rfl,rfl,ad⟩
theorem avL(c:aV)(w:Int)(al:c.sz<=8388608):cH prog 171 [.ref (fT c) (fT (jt c w).1),.ro (.one (I w))] (.vals [.one (B (jt c w).2)]):=by
 have post:=fun h=>WY (c:=c) (w:=w) h
 have is:=PF c w al;cases ok:cr c with
 | false=>
  rw[ok]at is;rw[show jt c w=(c,false) by grind[jt]];exact Y0 ⟨is,rfl,ad⟩
 | true=>
 replace post:=post ok;cases aa:b0 c w with
 | none=>
  rw[ok,aa]at is;rw[show jt c w=(c,false) by grind[jt]];exact Y0 ⟨is,rfl,ad⟩
 | some x=>
 rw[ok,aa]at is;obtain⟨c4,db,ck⟩:=mQ aa;have dN:=nG aa al;have acB:=(fe.1 ok).1;have Z9:=iJ ok aa;have lN:x.bX.length<=8388608:=by grind[aN.sz]
 have hu:gN c.ax x=match x.cj,x.queue,x.bX with
  | [],[],r::t=>(⟨[r],[],t,x.cells,x.bP,x.bV,x.bl,x.b1⟩,true)
  | _,_,_=>(x,false):=by grind[gN]
 have uy:jt c w=(setW c w (gN c.ax x).1,(gN c.ax x).2):=by grind[jt]
 cases aA:x.cj with
 | cons r q=>
  rw[uy,show gN c.ax x=(x,false) by rw[hu,aA]];dsimp only;rw[uP aa];exact auk ⟨is,rfl,c4,db,ck,zU aA,ad⟩
 | nil=>
 cases aI:x.queue with
 | cons r q=>
  rw[uy,show gN c.ax x=(x,false) by grind];dsimp only;rw[uP aa];exact aul ⟨is,rfl,c4,db,ck,nv aA,zU aI,ad⟩
 | nil=>
 cases a':x.bX with
 | nil=>
  rw[uy,show gN c.ax x=(x,false) by grind];dsimp only;rw[uP aa];exact aum ⟨is,rfl,c4,db,ck,nv aA,nv aI,vG a',ad⟩
 | cons r t=>
  unfold fT at is ⊢;rw[post];rw[ok]at is ⊢;rw[uy,show gN c.ax x=(⟨[r],[],t,x.cells,x.bP,x.bV,x.bl,x.b1⟩,true) by grind];have e:aN.e ⟨[r],[],t,x.cells,x.bP,x.bV,x.bl,x.b1⟩=[.J 5 ([r.e]),.J 5 (x.cj.map ay.e),.J 5 ([]++((x.bX.map ay.e).drop 1).take ((x.bX.map ay.e).length-1)),.J 4 (x.cells.map Cell.e),.J 1 (x.bP.map bd),.J 1 (x.bV.map cF),.J 1 (x.bl.map cF),.J 2 (x.b1.map cz.e)]:=by
   rw[DG a',aA];rfl
  dsimp only;rw[DH,e];exact aun ⟨is,rfl,c4,db,ck,nv aA,nv aI,nW a',by omega,pV a',qL a',q6,q7 a',q8,A8 a' lN,A9 a' lN,A' a',c4,db,ck,rfl,rfl,rfl,rfl,rfl,rfl,ad⟩
theorem avM(c:aV)(w:Int)(al:c.sz<=8388608):cH prog 151 [.ref (fT c) (fT (jc c w).1),.ro (.one (I w))] (.vals [.one (B (jc c w).2)]):=by
 have is:=PF c w al;cases ok:cr c with
 | false=>
  rw[ok]at is;rw[show jc c w=(c,false) by grind[jc]];exact Y2 ⟨is,rfl,ad⟩
 | true=>
 cases aa:b0 c w with
 | none=>
  rw[ok,aa]at is;rw[show jc c w=(c,false) by grind[jc]];exact Y2 ⟨is,rfl,ad⟩
 | some x=>
 rw[ok,aa]at is;obtain⟨c4,db,ck⟩:=mQ aa;have dN:=nG aa al;have aP:=ih (fe.1 ok).1;cases ai:x.cj with
 | nil=>
  rw[show jc c w=(c,false) by simp_all[jc,bh]];exact aup ⟨is,rfl,c4,db,ck,vG ai,ad⟩
 | cons r t=>
  have gw:=Wb r.key c.ax.ao (by omega);have aB:=(Im (iJ ok aa) ai).2;have he:=r3 aB;have sH:x.queue.length<=8388608:=by grind[aN.sz]
  have mH:x.cj.length<=8388608:=by grind[aN.sz]
  obtain⟨f4,_,_,eI⟩:=H8 ok aa;rw[YG ok aa ai];have zR:=Al r.key aP.1;generalize ec r.key c.ax.ao=o at gw zR;by_cases how:o=w
  ·have sx:(o != w)=false:=by simp[how]
   rw[YH how];unfold fT at is ⊢;dsimp only;rw[WV ok aa ai];rw[ok]at is ⊢;have e:(kept (hI x t) r).e=[.J 5 (x.queue.map ay.e++[r.e]),.J 5 ([]++((x.cj.map ay.e).drop 1).take ((x.cj.map ay.e).length-1)),.J 5 (x.bX.map ay.e),.J 4 (x.cells.map Cell.e),.J 1 (x.bP.map bd),.J 1 (x.bV.map cF),.J 1 (x.bl.map cF),.J 2 (x.b1.map cz.e)]:=by
    rw[DG ai,PA];rfl
   rw[DH,e];have key:=avT ⟨is,rfl,c4,db,ck,nW ai,c4,db,ck,by omega,pV ai,qL ai,gw,sx,c4,db,ck,zS sH,zT sH,ck,rfl,fA (ay.flat r),rfl,rfl,rfl,rfl,rfl,rfl,rfl,rfl,rfl,rfl,rfl,rfl,rfl,c4,db,ck,rfl,c4,by grind,ia c4 db,q6,q7 ai,q8,A8 ai mH,A9 ai mH,A' ai,c4,by grind,ia c4 db,ad⟩;simp only[qT]at key;exact key
  have sx:(o != w)=true:=by simp[how]
  have win:aw w 0 (c.ax.ao-1)=true:=by
   have:=H7 aa;rwa[cp,(fe.1 ok).2.1]at this
  obtain⟨l,aj⟩:=yg ok win zR;obtain⟨k6,k7,k8⟩:=Bb aj;have aQ:=Qc c.ax w o aP;have k':=avs l r (Bc aj al);have aeY:=fun h=>WU ok aa ai zR how aj h
  rw[YI how aj];cases bu:(ei l r).2 with
  | false=>
   rw[bu]at k';exact auq ⟨is,rfl,c4,db,ck,nW ai,c4,db,ck,by omega,pV ai,qL ai,gw,sx,aQ,k6,k7,k8,k',rfl,ad⟩
  | true=>
   rw[bu]at k';rw[bh rfl];unfold fT at is ⊢;dsimp only;rw[aeY bu];rw[ok]at is ⊢;have yU:=YM (c3 c (dT c.ax w o) (ei l r).1) w r.bf.aU 1 x (DV.trans aa) f4 he (by omega) (eI _ he);rw[Zd,PD,YL]at yU;have e:(lD (hI x t) r.bf.aU).e=[.J 5 (x.queue.map ay.e),.J 5 ([]++((x.cj.map ay.e).drop 1).take ((x.cj.map ay.e).length-1)),.J 5 (x.bX.map ay.e),.J 4 (x.cells.map Cell.e),.J 1 ((x.bP.map bd).set r.bf.aU.toNat [I (x.bP.getD r.bf.aU.toNat 0+1)]),.J 1 (x.bV.map cF),.J 1 (x.bl.map cF),.J 2 (x.b1.map cz.e)]:=by
    rw[DG ai,Y'];rfl
   rw[PD,e];have key:=avS ⟨is,rfl,c4,db,ck,nW ai,c4,db,ck,by omega,pV ai,qL ai,gw,sx,aQ,k6,k7,k8,k',rfl,k6,k7,k8,yU,c4,by grind,ia c4 db,q6,q7 ai,q8,A8 ai mH,A9 ai mH,A' ai,c4,by grind,ia c4 db,ad⟩;simp only[qT]at key;exact key
theorem avN(c:aV)(a b:Int)(al:c.sz<=8388608):cH prog 156 [.ref (fT c) (fT (jT c a b).1),.ro (.one (I a)),.ro (.one (I b))] (.vals [.one (B (jT c a b).2)]):=by
 cases ok:cr c with
 | false=>
  rw[show jT c a b=(c,false) by grind[jT]];obtain⟨v,aQ⟩:=Y8 c.ax a b;unfold fT;rw[ok];exact avV ⟨aQ,rfl,ad⟩
 | true=>
 have aP:=ih (fe.1 ok).1;have aQ:=Qc c.ax a b aP;cases bK:(aw a 0 (c.ax.ao-1)&&aw b 0 (c.ax.ao-1)) with
 | false=>
  rw[uQ bK]at aQ;rw[show jT c a b=(c,false) by grind[jT,H9]];unfold fT;rw[ok];exact avW ⟨aQ,rfl,dc (by decide),ad⟩
 | true=>
 rw[b9]at bK;obtain⟨l,aj⟩:=yg ok bK.1 bK.2;obtain⟨k6,k7,k8⟩:=Bb aj;by_cases dw:a=b
 ·rw[show jT c a b=(c,false) by grind[jT]];unfold fT;rw[ok];exact avX ⟨aQ,rfl,dE (by omega),by simp[dw],ad⟩
 have sx:(a==b)=false:=by simp[dw]
 obtain⟨x,aa⟩:∃x,b0 c b=some x:=by
  have aq:=bK.2;have:=(fe.1 ok).2.1;simp only[aw,cc]at aq;grind[oV]
 obtain⟨c4,db,ck⟩:=mQ aa;have dN:=nG aa al;have tu:=avt l (Bc aj al);have ae1:=fun h=>WW ok aj aa h
 rw[YJ ok dw aj aa];unfold fT;cases bu:(dF l).2.2 with
 | false=>
  rw[bu]at tu;rw[bq (by decide)];dsimp only;rw[ok];exact avY ⟨aQ,rfl,dE (by omega),sx,k6,k7,k8,tu,rfl,ad⟩
 | true=>
  rw[bu]at tu;rw[bh rfl];dsimp only;rw[ae1 bu,ok];have aB:=(Ip (r2 ok aj) bu).2;have he:=r3 aB;generalize (dF l).2.1=r at tu aB he ⊢;obtain⟨f4,BH,_,eI⟩:=H8 ok aa;have sH:x.queue.length<=8388608:=by grind[aN.sz]
  obtain⟨eO,fo⟩:=vh BH he;have kB:b0 (setW (c3 c (dT c.ax a b) (dF l).1) b ⟨x.queue++[r],x.cj,x.bX,x.cells,x.bP,x.bV.set r.bf.aU.toNat true,x.bl,x.b1⟩) b=some ⟨x.queue++[r],x.cj,x.bX,x.cells,x.bP,x.bV.set r.bf.aU.toNat true,x.bl,x.b1⟩:=by
   obtain⟨q1,eP,_⟩:=dU aa;simp_all[b0,setW,c3,bh]
  have yU:=YM _ b r.bf.aU (-1) _ kB f4 he (by omega) (eI _ he);rw[PD]at yU;have e2:aN.e ⟨x.queue++[r],x.cj,x.bX,x.cells,x.bP,x.bV.set r.bf.aU.toNat true,x.bl,x.b1⟩=[.J 5 (x.queue.map ay.e++[r.e]),.J 5 (x.cj.map ay.e),.J 5 (x.bX.map ay.e),.J 4 (x.cells.map Cell.e),.J 1 (x.bP.map bd),.J 1 ((x.bV.map cF).set r.bf.aU.toNat [B true]),.J 1 (x.bl.map cF),.J 2 (x.b1.map cz.e)]:=by
   simp only[aN.e,gF,ks];rfl
  rw[e2,<-qT]at yU;rw[show setW (setW (c3 c (dT c.ax a b) (dF l).1) b ⟨x.queue++[r],x.cj,x.bX,x.cells,x.bP,x.bV.set r.bf.aU.toNat true,x.bl,x.b1⟩) b (IM ⟨x.queue++[r],x.cj,x.bX,x.cells,x.bP,x.bV.set r.bf.aU.toNat true,x.bl,x.b1⟩ r.bf.aU (-1))=setW (c3 c (dT c.ax a b) (dF l).1) b (jY x r) by unfold setW c3;simp only[qT];rfl]at yU;exact avZ ⟨aQ,rfl,dE (by omega),sx,k6,k7,k8,tu,rfl,k6,k7,k8,c4,db,ck,zS sH,zT sH,ck,rfl,fA (ay.flat r),rfl,rfl,rfl,rfl,rfl,rfl,rfl,c4,db,ck,rfl,c4,by grind,ia c4 db,he.1,eO,fo,ia c4 db,rfl,rfl,yU,ad⟩
theorem avO(c:aV)(a b:Int)(al:c.sz<=8388608):cH prog 158 [.ref (fT c) (fT (ju c a b).1),.ro (.one (I a)),.ro (.one (I b))] (.vals [.one (B (ju c a b).2)]):=by
 have post:=fun h=>WZ (c:=c) (a:=a) (b:=b) h
 cases ok:cr c with
 | false=>
  rw[show ju c a b=(c,false) by grind[ju]];obtain⟨v,aQ⟩:=Y8 c.ax a b;unfold fT;rw[ok];exact auR ⟨aQ,rfl,ad⟩
 | true=>
 replace post:=post ok;have aP:=ih (fe.1 ok).1;have aQ:=Qc c.ax a b aP;unfold fT;rw[post,ok];cases bK:(aw a 0 (c.ax.ao-1)&&aw b 0 (c.ax.ao-1)) with
 | false=>
  rw[uQ bK]at aQ;rw[show ju c a b=(c,false) by grind[ju,H9]];exact auh ⟨aQ,rfl,dc (by decide),ad⟩
 | true=>
 rw[b9]at bK;obtain⟨l,aj⟩:=yg ok bK.1 bK.2;obtain⟨k6,k7,k8⟩:=Bb aj;by_cases dw:a=b
 ·rw[show ju c a b=(c,false) by grind[ju]];exact aui ⟨aQ,rfl,dE (by omega),by simp[dw],ad⟩
 rw[YK ok dw aj];dsimp only;rw[Zd];exact auj ⟨aQ,rfl,dE (by omega),by simp[dw],k6,k7,k8,avu l (Bc aj al),k6,k7,k8,ad⟩
theorem YN(c:aV)(p:b6)(al:c.sz<=8388608):cH prog 128 [.ref (fT c) (fT (c7 c p).1),.ro (.agg p.e)] (.vals [.one (B (c7 c p).2)]):=by
 by_cases h1:p.kind=1
 ·rw[show c7 c p=js c p.a by grind[c7]];exact av4 ⟨by grind,avK c p.a al,ad⟩
 have gv:(p.kind==1)=false:=by grind
 by_cases U:p.kind=2
 ·rw[show c7 c p=jt c p.a by grind[c7]];exact av5 ⟨gv,by grind,avL c p.a al,ad⟩
 have gT:(p.kind==2)=false:=by grind
 by_cases aA:p.kind=3
 ·rw[show c7 c p=jc c p.a by grind[c7]];exact av6 ⟨gv,gT,by grind,avM c p.a al,ad⟩
 have iX:(p.kind==3)=false:=by grind
 by_cases aI:p.kind=4
 ·rw[show c7 c p=jT c p.a p.b by grind[c7]];exact av7 ⟨gv,gT,iX,by grind,avN c p.a p.b al,ad⟩
 have jS:(p.kind==4)=false:=by grind
 by_cases a':p.kind=5
 ·rw[show c7 c p=ju c p.a p.b by grind[c7]];exact av8 ⟨gv,gT,iX,jS,by grind,avO c p.a p.b al,ad⟩
 have lv:(p.kind==5)=false:=by grind
 by_cases bu:p.kind=6
 ·rw[show c7 c p=ix c p.a by grind[c7]];exact av9 ⟨gv,gT,iX,jS,lv,by grind,atW c p.a al,ad⟩
 have n6:(p.kind==6)=false:=by grind
 by_cases bU:p.kind=7
 ·rw[show c7 c p=jU c p.a by grind[c7]];exact awa ⟨gv,gT,iX,jS,lv,n6,by grind,asl c p.a al,ad⟩
 have n7:(p.kind==7)=false:=by grind
 rw[show c7 c p=(c,false) by grind[c7]];exact awb ⟨gv,gT,iX,jS,lv,n6,n7,ad⟩
theorem avP(c:aV)(p:b6)(al:c.sz<=8388608)(hw:ga c):av 87 [.agg c.e,.agg p.e] [.agg (c7 c p).1.e,.one (B (c7 c p).2)]:=by
 by_cases h1:p.kind=1
 ·rw[show c7 c p=js c p.a by grind[c7]];exact auW ⟨by grind,avF c p.a al hw,ad⟩
 have gv:(p.kind==1)=false:=by grind
 by_cases U:p.kind=2
 ·rw[show c7 c p=jt c p.a by grind[c7]];exact auX ⟨gv,by grind,avG c p.a al hw,ad⟩
 have gT:(p.kind==2)=false:=by grind
 by_cases aA:p.kind=3
 ·rw[show c7 c p=jc c p.a by grind[c7]];exact auY ⟨gv,gT,by grind,avH c p.a al hw,ad⟩
 have iX:(p.kind==3)=false:=by grind
 by_cases aI:p.kind=4
 ·rw[show c7 c p=jT c p.a p.b by grind[c7]];exact auZ ⟨gv,gT,iX,by grind,avI c p.a p.b al hw,ad⟩
 have jS:(p.kind==4)=false:=by grind
 by_cases a':p.kind=5
 ·rw[show c7 c p=ju c p.a p.b by grind[c7]];exact au0 ⟨gv,gT,iX,jS,by grind,avJ c p.a p.b al hw,ad⟩
 have lv:(p.kind==5)=false:=by grind
 by_cases bu:p.kind=6
 ·rw[show c7 c p=ix c p.a by grind[c7]];exact au1 ⟨gv,gT,iX,jS,lv,by grind,atZ c p.a al hw,ad⟩
 have n6:(p.kind==6)=false:=by grind
 by_cases bU:p.kind=7
 ·rw[show c7 c p=jU c p.a by grind[c7]];exact au2 ⟨gv,gT,iX,jS,lv,n6,by grind,asm c p.a al hw,ad⟩
 have n7:(p.kind==7)=false:=by grind
 rw[show c7 c p=(c,false) by grind[c7]];exact au3 ⟨gv,gT,iX,jS,lv,n6,n7,r5 c al,ad⟩
