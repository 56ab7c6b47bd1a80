import Derived.Test.YthfnndblgbjniaaGreatP88
import Derived.Test.YthfnndblgbjniaaGreatGW
set_option linter.unusedVariables false
set_option linter.unusedSimpArgs false
namespace Go.Proofs.YthfnndblgbjniaaGreat
open Go.Sx Go.RowKit Go.Proofs.Tryz
theorem axS{g:bX}{op:Int}{x:Node}(h:fZ g op=some x):0<=op/\op<(↑(g.nodes.map Node.e).length:Int)/\(g.nodes.map Node.e)[op.toNat]?=some x.e:=by
 unfold fZ at h;split at h
 ·have:=aY h;exact⟨‹_›,by rw[b'];omega,bS Node.e h⟩
 cases h
theorem axT(g:bX)(r:az)(ay:g.sz<=8388608):ar 172 [.agg g.e,.agg r.e] [.one (B (cr g r))]:=by
 have k:=Ac g ay;have gA:=wI r;have LM:=No r.bl;cases h1:ej g with
 | false=>
  rw[h1]at k;rw[show cr g r=false by unfold cr;split<;>simp[k5,h1]];exact arP ⟨k,rfl,aa⟩
 | true=>
 rw[h1]at k;cases U:eO r with
 | false=>
  rw[U]at gA;rw[show cr g r=false by unfold cr;split<;>simp[k5,U]];exact arQ ⟨k,rfl,gA,rfl,aa⟩
 | true=>
 rw[U]at gA;cases aA:fZ g r.op with
 | none=>
  rw[show cr g r=false by unfold cr;rw[aA]];exact arR ⟨k,rfl,gA,rfl,z' g r.op false (by rw[aA];rfl) ay,rfl,aa⟩
 | some x=>
  obtain⟨m1,m2,m3⟩:=axS aA;have LJ:=z' g r.op true (by rw[aA];rfl) ay;rw[show cr g r=k5 g r x by unfold cr;rw[aA]];cases aJ:(x.kind==7) with
  | false=>
   rw[show k5 g r x=false by simp[k5,aJ]];exact aq1 ⟨k,rfl,gA,rfl,LJ,rfl,m1,m2,m3,LM,aJ,aa⟩
  | true=>
  by_cases a7:0<x.outs.length
  ·rw[show k5 g r x=!(fg r.bl).2 by simp[k5,h1,U,aJ,a7]];exact arS ⟨k,rfl,gA,rfl,LJ,rfl,m1,m2,m3,LM,aJ,dh (by rw[b'];omega),aa⟩
  rw[show k5 g r x=false by simp[k5,a7]];exact arT ⟨k,rfl,gA,rfl,LJ,rfl,m1,m2,m3,LM,aJ,ea (by rw[b'];omega),aa⟩
end Go.Proofs.YthfnndblgbjniaaGreat
namespace Go.Proofs.YthfnndblgbjniaaGreat
open Go.Sx Go.RowKit Go.Proofs.Tryz
section
variable {xs : List az} {r : az} {t : List az}
theorem wc(h:xs=r::t):((xs.map az.e).drop 1).take ((xs.map az.e).length-1)=t.map az.e:=by grind
theorem mH(h:xs=r::t):(0:Int)<(↑(xs.map az.e).length:Int):=by grind
theorem nu(h:xs=r::t):(xs.map az.e)[0]?=some r.e:=by subst h;rfl
theorem lM(h:xs=r::t):((↑(xs.map az.e).length:Int)==0)=false:=by
 grind
theorem rJ(h:xs=[]):((↑(xs.map az.e).length:Int)==0)=true:=by subst h;rfl
theorem uy(h:xs=r::t):decide ((↑(xs.map az.e).length:Int)>0)=true:=dh (mH h)
theorem jP(h:xs=[]):decide ((↑(xs.map az.e).length:Int)>0)=false:=by subst h;rfl
theorem nL:(0:Int)<=(some (1:Int)).getD 0:=by decide
theorem nM(h:xs=r::t):(some (1:Int)).getD 0<=(none:Option Int).getD (↑(xs.map az.e).length:Int):=by
 grind
theorem nN{l:List (List D)}:(none:Option Int).getD (↑l.length:Int)<=(↑l.length:Int):=by simp
theorem s8(h:xs=r::t)(al:xs.length<=8388608):(([]:List (List D)).length+(((xs.map az.e).drop 1).take ((xs.map az.e).length-1)).length)*40<=140737488355328:=by
 grind
theorem s9(h:xs=r::t)(al:xs.length<=8388608):([]:List (List D)).length+(((xs.map az.e).drop 1).take ((xs.map az.e).length-1)).length<=9223372036854775807:=by
 grind
theorem s'(h:xs=r::t):Flat (((xs.map az.e).drop 1).take ((xs.map az.e).length-1)):=by grind[wc,dt,az.flat]
theorem uI(h:xs=r::t):([]:List (List D))++((xs.map az.e).drop 1).take ((xs.map az.e).length-1)=t.map az.e:=wc h
end
theorem vK{xs:List az}{a:List D}(h:xs.length<=8388608):((xs.map az.e).length+[a].length)*40<=140737488355328:=by simp;omega
theorem vL{xs:List az}{a:List D}(h:xs.length<=8388608):(xs.map az.e).length+[a].length<=9223372036854775807:=by simp;omega
theorem Y0(a:Int)(q:List az)(r:az)(b c d e:Int):bj.e ⟨a,q++[r],b,c,d,e⟩=[I a,.J 5 (q.map az.e++[r.e]),I b,I c,I d,I e]:=by
 grind[bj.e]
theorem zU{l:bj}(h:jt l=true):(0<=l.eb/\l.eb<=4)/\(0<=l.back/\l.back<=4)/\(0<=l.ek/\l.ek<=1000000000)/\(0<=l.db/\l.db<=1000000000)/\l.queue.length<=4:=by
 obtain⟨cA,bm,eK,pD,ke,pE,k0,qC⟩:=n4.1 h;simp only[ax,cj]at cA bm eK ke;omega
theorem Y1(l:bj)(r:az)(al:l.sz<=8388608):ar 161 [.agg l.e,.agg r.e] [.agg (eh l r).1.e,.one (B (eh l r).2)]:=by
 have cF:=H' l al;have k:=HX l al;have gA:=uT r;have aH:l.queue.length<=8388608:=al;cases h1:jt l with
 | false=>
  rw[h1]at k;rw[show eh l r=(l,false) by grind[eh]];exact awk ⟨cF,k,rfl,aa⟩
 | true=>
 rw[h1]at k;cases U:eO r with
 | false=>
  rw[U]at gA;rw[show eh l r=(l,false) by grind[eh]];exact awl ⟨cF,k,rfl,gA,rfl,aa⟩
 | true=>
 rw[U]at gA;by_cases aA:l.eb=0
 ·rw[show eh l r=(l,false) by grind[eh]];exact awm ⟨cF,k,rfl,gA,rfl,by grind,aa⟩
 have BA:(l.eb==0)=false:=by grind
 obtain⟨ib,iI,k4,jM,lm⟩:=zU h1;by_cases aJ:l.ek<1000000000
 ·rw[show eh l r=(⟨l.cap,l.queue++[r],l.eb-1,l.back,l.ek+1,l.db⟩,true) by grind[eh]];dsimp only;rw[Y0];exact awo ⟨cF,k,rfl,gA,rfl,BA,ea (by omega),vK aH,vL aH,gb (az.flat r),⟨by omega,by omega⟩,⟨by omega,by omega⟩,aa⟩
 rw[show eh l r=(l,false) by grind[eh]];dsimp only;exact awn ⟨cF,k,rfl,gA,rfl,BA,dh (by omega),aa⟩
theorem Y2(l:bj)(al:l.sz<=8388608):ar 159 [.agg l.e] [.agg (dH l).1.e,.agg (dH l).2.1.e,.one (B (dH l).2.2)]:=by
 have cF:=H' l al;have k:=HX l al;have aH:l.queue.length<=8388608:=al;cases h1:jt l with
 | false=>
  rw[h1]at k;rw[show dH l=(l,AY,false) by grind[dH]];exact awq ⟨cF,k,rfl,aa⟩
 | true=>
 rw[h1]at k;cases U:l.queue with
 | nil=>
  rw[show dH l=(l,AY,false) by simp_all[dH,bq]];exact awr ⟨cF,k,rfl,rJ U,aa⟩
 | cons r q=>
  obtain⟨ib,iI,k4,jM,lm⟩:=zU h1;rw[show dH l=(⟨l.cap,q,l.eb,l.back+1,l.ek,l.db+1⟩,r,true) by simp_all[dH,bq]];have e:bj.e ⟨l.cap,q,l.eb,l.back+1,l.ek,l.db+1⟩=[I l.cap,.J 5 (((l.queue.map az.e).drop 1).take ((l.queue.map az.e).length-1)),I l.eb,I (l.back+1),I l.ek,I (l.db+1)]:=by rw[wc U];rfl
  dsimp only;rw[e];exact aws ⟨cF,k,rfl,lM U,by omega,mH U,nu U,nL,nM U,nN,s8 U aH,s9 U aH,s' U,⟨by omega,by omega⟩,⟨by omega,by omega⟩,aa⟩
theorem Y3(l:bj)(al:l.sz<=8388608):ar 160 [.agg l.e] [.agg (fQ l).1.e,.one (B (fQ l).2)]:=by
 have cF:=H' l al;have k:=HX l al;cases h1:jt l with
 | false=>
  rw[h1]at k;rw[show fQ l=(l,false) by grind[fQ]];exact av9 ⟨cF,k,rfl,aa⟩
 | true=>
 rw[h1]at k;by_cases aA:l.back=0
 ·rw[show fQ l=(l,false) by grind[fQ]];exact awa ⟨cF,k,rfl,by grind,aa⟩
 obtain⟨ib,iI,k4,jM,lm⟩:=zU h1;rw[show fQ l=(⟨l.cap,l.queue,l.eb+1,l.back-1,l.ek,l.db⟩,true) by grind[fQ]];exact awb ⟨cF,k,rfl,by grind,⟨by omega,by omega⟩,⟨by omega,by omega⟩,aa⟩
theorem axU(l:bj)(r:az)(al:l.sz<=8388608)(ay:l.db<=9223372036854775807):ar 129 [.agg l.e,.agg r.e] [.agg (eh l r).1.e,.one (B (eh l r).2)]:=by
 have cF:=H9 l al;have k:=HW l al ay;have gA:=wI r;have aH:l.queue.length<=8388608:=al;cases h1:jt l with
 | false=>
  rw[h1]at k;rw[show eh l r=(l,false) by grind[eh]];exact avu ⟨cF,k,rfl,aa⟩
 | true=>
 rw[h1]at k;cases U:eO r with
 | false=>
  rw[U]at gA;rw[show eh l r=(l,false) by grind[eh]];exact avv ⟨cF,k,rfl,gA,rfl,aa⟩
 | true=>
 rw[U]at gA;by_cases aA:l.eb=0
 ·rw[show eh l r=(l,false) by grind[eh]];exact auW ⟨cF,k,rfl,gA,rfl,by grind,aa⟩
 have BA:(l.eb==0)=false:=by grind
 obtain⟨ib,iI,k4,jM,lm⟩:=zU h1;by_cases aJ:l.ek<1000000000
 ·rw[show eh l r=(⟨l.cap,l.queue++[r],l.eb-1,l.back,l.ek+1,l.db⟩,true) by grind[eh]];dsimp only;rw[Y0];exact auY ⟨cF,k,rfl,gA,rfl,BA,by grind,vK aH,vL aH,gb (az.flat r),⟨by omega,by omega⟩,⟨by omega,by omega⟩,aa⟩
 rw[show eh l r=(l,false) by grind[eh]];dsimp only;exact auX ⟨cF,k,rfl,gA,rfl,BA,by grind,aa⟩
theorem axV(l:bj)(al:l.sz<=8388608)(ay:l.db<=9223372036854775807):ar 132 [.agg l.e] [.agg (dH l).1.e,.agg (dH l).2.1.e,.one (B (dH l).2.2)]:=by
 have cF:=H9 l al;have k:=HW l al ay;have aH:l.queue.length<=8388608:=al;cases h1:jt l with
 | false=>
  rw[h1]at k;rw[show dH l=(l,AY,false) by grind[dH]];exact awy ⟨cF,k,rfl,aa⟩
 | true=>
 rw[h1]at k;cases U:l.queue with
 | nil=>
  rw[show dH l=(l,AY,false) by simp_all[dH,bq]];exact awz ⟨cF,k,rfl,rJ U,aa⟩
 | cons r q=>
  obtain⟨ib,iI,k4,jM,lm⟩:=zU h1;rw[show dH l=(⟨l.cap,q,l.eb,l.back+1,l.ek,l.db+1⟩,r,true) by simp_all[dH,bq]];have e:bj.e ⟨l.cap,q,l.eb,l.back+1,l.ek,l.db+1⟩=[I l.cap,.J 5 (((l.queue.map az.e).drop 1).take ((l.queue.map az.e).length-1)),I l.eb,I (l.back+1),I l.ek,I (l.db+1)]:=by rw[wc U];rfl
  dsimp only;rw[e];exact awA ⟨cF,k,rfl,lM U,nL,nM U,nN,⟨by omega,by omega⟩,⟨by omega,by omega⟩,by omega,mH U,nu U,aa⟩
theorem aw6(l:bj)(al:l.sz<=8388608)(ay:l.db<=9223372036854775807):ar 134 [.agg l.e] [.agg (fQ l).1.e,.one (B (fQ l).2)]:=by
 have cF:=H9 l al;have k:=HW l al ay;cases h1:jt l with
 | false=>
  rw[h1]at k;rw[show fQ l=(l,false) by grind[fQ]];exact avd ⟨cF,k,rfl,aa⟩
 | true=>
 rw[h1]at k;by_cases aA:l.back=0
 ·rw[show fQ l=(l,false) by grind[fQ]];exact ave ⟨cF,k,rfl,by grind,aa⟩
 obtain⟨ib,iI,k4,jM,lm⟩:=zU h1;rw[show fQ l=(⟨l.cap,l.queue,l.eb+1,l.back-1,l.ek,l.db⟩,true) by grind[fQ]];exact avf ⟨cF,k,rfl,by grind,⟨by omega,by omega⟩,⟨by omega,by omega⟩,aa⟩
theorem Y4{n a b:Int}(aW:1<=n/\n<=4)(ah:ax a 0 (n-1)=true)(aw:ax b 0 (n-1)=true):aL .i64 (a*n)/\aL .i64 (a*n+b):=by
 simp only[ax,cj]at ah aw;have FG:n=1\/n=2\/n=3\/n=4:=by omega
 rcases FG with rfl | rfl | rfl | rfl<;>exact⟨⟨by omega,by omega⟩,⟨by omega,by omega⟩⟩
theorem Y5{n:Int}(h:aL .i64 n):IntKind.i64.wrap n=n:=by
 obtain⟨h1,U⟩:=h;grind[IntKind.wrap_i64]
theorem Y6(g:bX)(a b:Int):∃v,ar 182 [.agg g.e,.one (I a),.one (I b)] [.one (I v)]:=by
 cases ah:ax a 0 (IntKind.i64.wrap (g.aq-1)) with
 | false=>exact⟨_,ZG ⟨fm _ _ _ _ ah,rfl,aa⟩⟩
 | true=>
 cases aw:ax b 0 (IntKind.i64.wrap (g.aq-1)) with
 | false=>exact⟨_,ZH ⟨fm _ _ _ _ ah,rfl,fm _ _ _ _ aw,rfl,aa⟩⟩
 | true=>
 by_cases aW:g.aq<1
 ·exact⟨_,awg ⟨fm _ _ _ _ ah,rfl,fm _ _ _ _ aw,rfl,dh aW,aa⟩⟩
 exact⟨_,ZI ⟨fm _ _ _ _ ah,rfl,fm _ _ _ _ aw,rfl,ea aW,aa⟩⟩
theorem P6(g:bX)(a b:Int)(aW:1<=g.aq/\g.aq<=4):ar 182 [.agg g.e,.one (I a),.one (I b)] [.one (I (d' g a b))]:=by
 have i1:IntKind.i64.wrap (g.aq-1)=g.aq-1:=Y5 ⟨by omega,by omega⟩;have Cm:∀(x:Int) (r:Bool),ax x 0 (g.aq-1)=r->ar 44 [.one (I x),.one (I 0),.one (I (IntKind.i64.wrap (g.aq-1)))] [.one (B r)]:=fun x r h=>by
  grind[fm]
 cases ah:ax a 0 (g.aq-1) with
 | false=>
  rw[uE (by rw[ah];rfl)];exact ZG ⟨Cm _ _ ah,rfl,aa⟩
 | true=>
 cases aw:ax b 0 (g.aq-1) with
 | false=>
  rw[uE (by grind)];exact ZH ⟨Cm _ _ ah,rfl,Cm _ _ aw,rfl,aa⟩
 | true=>
  obtain⟨qB,pC⟩:=Y4 aW ah aw;have key:ar 182 [.agg g.e,.one (I a),.one (I b)] [.one (I (IntKind.i64.wrap (IntKind.i64.wrap (a*g.aq)+b)))]:=ZI ⟨Cm a true ah,rfl,Cm b true aw,rfl,ea (by omega),aa⟩;grind[Y5,x9]
theorem Y7(g:bX)(a b:Int)(aW:1<=g.aq/\g.aq<=4):ar 128 [.agg g.e,.one (I a),.one (I b)] [.one (I (d' g a b))]:=by
 cases bO:(ax a 0 (g.aq-1)&&ax b 0 (g.aq-1)) with
 | true=>
  rw[cu]at bO;obtain⟨qB,pC⟩:=Y4 aW bO.1 bO.2;rw[(x9 aW bO.1 bO.2).1];obtain⟨ah,aw⟩:=bO;simp only[ax,cj]at ah aw;exact avj ⟨ea (by grind),ea (by grind),qB,pC,aa⟩
 | false=>
  rw[uE bO];have sH:¬((0<=a/\a<=g.aq-1)/\(0<=b/\b<=g.aq-1)):=by
   simp_all[ax,true,cu,cj]
  by_cases hm:(if b<a then b else a)<0
  ·exact avh ⟨dh hm,aa⟩
  exact avi ⟨ea hm,dh (by grind),aa⟩
theorem D4(w:aK)(r:az):(kept w r).e=[.J 5 (w.queue.map az.e++[r.e]),.J 5 (w.b9.map az.e),.J 5 (w.bM.map az.e),.J 4 (w.cells.map Cell.e),.J 1 (w.bB.map bd),.J 1 (w.bN.map cG),.J 1 (w.bk.map cG),.J 2 (w.b0.map cS.e)]:=by
 grind[kept,aK.e]
theorem Y8(w:aK)(r:az):(ii w r).e=[.J 5 (w.queue.map az.e++[r.e]),.J 5 (w.b9.map az.e),.J 5 (w.bM.map az.e),.J 4 (w.cells.map Cell.e),.J 1 ((w.bB.map bd).set r.bl.ba.toNat [I (w.bB.getD r.bl.ba.toNat 0-1)]),.J 1 ((w.bN.map cG).set r.bl.ba.toNat [B true]),.J 1 (w.bk.map cG),.J 2 (w.b0.map cS.e)]:=by
 simp only[ii,l7,aK.e,gi,hL];rfl
theorem Y9(w:aK)(e:Int):(mF w e).e=[.J 5 (w.queue.map az.e),.J 5 (w.b9.map az.e),.J 5 (w.bM.map az.e),.J 4 (w.cells.map Cell.e),.J 1 ((w.bB.map bd).set e.toNat [I (w.bB.getD e.toNat 0+1)]),.J 1 (w.bN.map cG),.J 1 (w.bk.map cG),.J 2 (w.b0.map cS.e)]:=by
 simp only[mF,l7,aK.e,hL];rfl
theorem Y'(w:aK)(r:az)(hw:w.sz<=8388608):ar 127 [.agg w.e,.agg r.e] [.agg (kept w r).e]:=by
 have aH:w.queue.length<=8388608:=by grind[aK.sz]
 rw[D4];exact avg ⟨Ar w hw,vK aH,vL aH,gb (az.flat r),aa⟩
theorem aw7(w:aK)(r:az)(hw:w.sz<=8388608)(aJ:w.bB.length=4)(aw:w.bN.length=4)(he:0<=r.bl.ba/\r.bl.ba<=3)(ao:-1000000<=w.bB.getD r.bl.ba.toNat 0/\w.bB.getD r.bl.ba.toNat 0<=1000000):
  ar 133 [.agg w.e,.agg r.e] [.agg (ii w r).e]:=by
 have k:=Y' w r hw;rw[D4]at k;rw[Y8];obtain⟨s1,s2⟩:=zE aJ he;obtain⟨e7,fT⟩:=sw aw he;have B1:(if (↑(w.bN.map cG).length:Int)<(↑(w.bB.map bd).length:Int) then (↑(w.bN.map cG).length:Int) else (↑(w.bB.map bd).length:Int))-1=3:=by
  grind
 exact avt ⟨k,⟨by grind,by grind⟩,fY true (by simp_all[ax,cj]),rfl,he.1,s1,s2,⟨by omega,by omega⟩,he.1,s1,s2,he.1,e7,fT,aa⟩
theorem aw8(w:aK)(e:Int)(hw:w.sz<=8388608)(aJ:w.bB.length=4)(he:0<=e/\e<=3)(ao:-1000000<=w.bB.getD e.toNat 0/\w.bB.getD e.toNat 0<=1000000):
  ar 130 [.agg w.e,.one (I e)] [.agg (mF w e).e]:=by
 rw[Y9];obtain⟨s1,s2⟩:=zE aJ he;have B1:(↑(w.bB.map bd).length:Int)-1=3:=by grind
 exact auZ ⟨Ar w hw,⟨by grind,by grind⟩,fY true (by simp_all[ax,cj]),rfl,he.1,s1,s2,⟨by omega,by omega⟩,he.1,s1,s2,aa⟩
theorem aw9(w:aK)(r:az)(t:List az)(hw:w.sz<=8388608)(h:w.b9=r::t):ar 126 [.agg w.e] [.agg (hX w t).e,.agg r.e,.one (B true)]:=by
 have e:(hX w t).e=[.J 5 (w.queue.map az.e),.J 5 (((w.b9.map az.e).drop 1).take ((w.b9.map az.e).length-1)),.J 5 (w.bM.map az.e),.J 4 (w.cells.map Cell.e),.J 1 (w.bB.map bd),.J 1 (w.bN.map cG),.J 1 (w.bk.map cG),.J 2 (w.b0.map cS.e)]:=by rw[wc h];rfl
 rw[e];exact awH ⟨Ar w hw,lM h,nL,nM h,nN,by omega,mH h,nu h,aa⟩
theorem axa(g:bX)(w:aK)(ay:g.sz<=8388608)(hw:w.sz<=8388608):ar 124 [.agg g.e,.agg w.e] [.agg (e0 g w).1.e,.one (B (e0 g w).2)]:=by
 have cF:=Ar w hw;have k:=Ac g ay;have kw:=H2 g w ay hw;have ps:w.cells.length<=8388608:=by grind[aK.sz]
 cases h1:ej g with
 | false=>
  rw[h1]at k;rw[show e0 g w=(w,false) by grind[e0]];exact awI ⟨cF,k,rfl,aa⟩
 | true=>
 rw[h1]at k;cases U:fb g w with
 | false=>
  rw[U]at kw;rw[show e0 g w=(w,false) by grind[e0]];exact awJ ⟨cF,k,rfl,kw,rfl,aa⟩
 | true=>
 rw[U]at kw;have hu:e0 g w=match w.b9,w.queue with
  | [],r::q=>(⟨q,(du g w.cells r).2.1,w.bM,(du g w.cells r).1,w.bB,w.bN,(if cr g r then w.bk.set r.bl.ba.toNat true else w.bk),w.b0⟩,true)
  | _,_=>(w,false):=by grind[e0]
 cases aA:w.b9 with
 | cons r q=>
  rw[show e0 g w=(w,false) by rw[hu,aA]];exact awK ⟨cF,k,rfl,kw,rfl,uy aA,aa⟩
 | nil=>
 cases aJ:w.queue with
 | nil=>
  rw[show e0 g w=(w,false) by grind];exact awL ⟨cF,k,rfl,kw,rfl,jP aA,rJ aJ,aa⟩
 | cons r q=>
  have st:=aqP g w.cells r ay ps;have om:=axT g r ay;obtain⟨cA,_,_,_,_,_,k0,_⟩:=iB.1 U;rw[aJ,qI]at cA;have he:=r7 cA.1;obtain⟨c1,c2⟩:=sw k0 he;cases a7:cr g r with
  | true=>
   rw[a7]at om;rw[show e0 g w=(⟨q,(du g w.cells r).2.1,w.bM,(du g w.cells r).1,w.bB,w.bN,w.bk.set r.bl.ba.toNat true,w.b0⟩,true) by grind];have e:aK.e ⟨q,(du g w.cells r).2.1,w.bM,(du g w.cells r).1,w.bB,w.bN,w.bk.set r.bl.ba.toNat true,w.b0⟩=[.J 5 (((w.queue.map az.e).drop 1).take ((w.queue.map az.e).length-1)),.J 5 ((du g w.cells r).2.1.map az.e),.J 5 (w.bM.map az.e),.J 4 ((du g w.cells r).1.map Cell.e),.J 1 (w.bB.map bd),.J 1 (w.bN.map cG),.J 1 ((w.bk.map cG).set r.bl.ba.toNat [B true]),.J 2 (w.b0.map cS.e)]:=by
    rw[wc aJ];simp only[aK.e,hL];rfl
   dsimp only;rw[e];exact awM ⟨cF,k,rfl,kw,rfl,jP aA,lM aJ,by omega,mH aJ,nu aJ,nL,nM aJ,nN,st,om,rfl,he.1,c1,c2,aa⟩
  | false=>
   rw[a7]at om;rw[show e0 g w=(⟨q,(du g w.cells r).2.1,w.bM,(du g w.cells r).1,w.bB,w.bN,w.bk,w.b0⟩,true) by grind];have e:aK.e ⟨q,(du g w.cells r).2.1,w.bM,(du g w.cells r).1,w.bB,w.bN,w.bk,w.b0⟩=[.J 5 (((w.queue.map az.e).drop 1).take ((w.queue.map az.e).length-1)),.J 5 ((du g w.cells r).2.1.map az.e),.J 5 (w.bM.map az.e),.J 4 ((du g w.cells r).1.map Cell.e),.J 1 (w.bB.map bd),.J 1 (w.bN.map cG),.J 1 (w.bk.map cG),.J 2 (w.b0.map cS.e)]:=by
    rw[wc aJ];rfl
   dsimp only;rw[e];exact awN ⟨cF,k,rfl,kw,rfl,jP aA,lM aJ,by omega,mH aJ,nu aJ,nL,nM aJ,nN,st,om,rfl,aa⟩
theorem axb(g:bX)(w:aK)(ay:g.sz<=8388608)(hw:w.sz<=8388608):ar 125 [.agg g.e,.agg w.e] [.agg (e3 g w).1.e,.one (B (e3 g w).2)]:=by
 have cF:=Ar w hw;have k:=Ac g ay;have kw:=H2 g w ay hw;have aH:w.queue.length<=8388608:=by grind[aK.sz]
 cases h1:ej g with
 | false=>
  rw[h1]at k;rw[show e3 g w=(w,false) by grind[e3]];exact awB ⟨cF,k,rfl,aa⟩
 | true=>
 rw[h1]at k;cases U:fb g w with
 | false=>
  rw[U]at kw;rw[show e3 g w=(w,false) by grind[e3]];exact awC ⟨cF,k,rfl,kw,rfl,aa⟩
 | true=>
 rw[U]at kw;have hu:e3 g w=match w.b9,w.queue,w.bM with
  | [],[],r::t=>(⟨[r],[],t,w.cells,w.bB,w.bN,w.bk,w.b0⟩,true)
  | _,_,_=>(w,false):=by grind[e3]
 cases aA:w.b9 with
 | cons r q=>
  rw[show e3 g w=(w,false) by rw[hu,aA]];exact awD ⟨cF,k,rfl,kw,rfl,uy aA,aa⟩
 | nil=>
 cases aJ:w.queue with
 | cons r q=>
  rw[show e3 g w=(w,false) by grind];exact awE ⟨cF,k,rfl,kw,rfl,jP aA,uy aJ,aa⟩
 | nil=>
 cases a7:w.bM with
 | nil=>
  rw[show e3 g w=(w,false) by grind];exact awF ⟨cF,k,rfl,kw,rfl,jP aA,jP aJ,rJ a7,aa⟩
 | cons r t=>
  rw[show e3 g w=(⟨[r],[],t,w.cells,w.bB,w.bN,w.bk,w.b0⟩,true) by grind];have e:aK.e ⟨[r],[],t,w.cells,w.bB,w.bN,w.bk,w.b0⟩=[.J 5 (w.queue.map az.e++[r.e]),.J 5 (w.b9.map az.e),.J 5 (((w.bM.map az.e).drop 1).take ((w.bM.map az.e).length-1)),.J 4 (w.cells.map Cell.e),.J 1 (w.bB.map bd),.J 1 (w.bN.map cG),.J 1 (w.bk.map cG),.J 2 (w.b0.map cS.e)]:=by
   rw[wc a7,aJ,aA];rfl
  dsimp only;rw[e];exact awG ⟨cF,k,rfl,kw,rfl,jP aA,jP aJ,lM a7,by omega,mH a7,nu a7,vK aH,vL aH,gb (az.flat r),nL,nM a7,nN,aa⟩
end Go.Proofs.YthfnndblgbjniaaGreat
namespace Go.Proofs.YthfnndblgbjniaaGreat
open Go.Sx Go.RowKit Go.Proofs.Tryz
variable{c:aO}{w:Int}
theorem Za(h:cd c w=none):ax w 0 ((↑(c.aq.map aK.e).length:Int)-1)=false:=by
 grind[cd,ax,b',kK]
variable{x:aK}
theorem Ih(h:cd c w=some x):ax w 0 ((↑(c.aq.map aK.e).length:Int)-1)=true:=by
 obtain⟨h1,U,_⟩:=eR h;simp only[ax,b',cj];omega
variable{i:Int}
theorem zV{x:bj}(h:eF c i=some x):0<=i/\i<(↑(c.bn.map bj.e).length:Int)/\(c.bn.map bj.e)[i.toNat]?=some x.e:=by
 obtain⟨h1,U,aA⟩:=iK h;grind
theorem zW{x:bj}(h:eF c i=some x)(ai:c.sz<=8388608):x.sz<=8388608:=aO.LC ai (cD (iK h).2.2)
theorem P7{x:bj}(h:eF c i=some x)(hw:fE c):x.db<=9223372036854775807:=hw _ (cD (iK h).2.2)
theorem Ix(ai:c.sz<=8388608):aL .i64 ((↑(c.aq.map aK.e).length:Int)-1):=by
 have:=aO.nA ai;exact⟨by grind,by grind⟩
theorem P8(c:aO)(w:Int)(y:aK):(setW c w y).e=[.J 4 (c.au.nodes.map Node.e),I c.au.aq,I c.au.cap,.J 8 ((c.aq.map aK.e).set w.toNat y.e),.J 6 (c.bn.map bj.e),.J 5 (c.tokens.map bQ.e),.J 3 (c.news.map bT.e)]:=by grind[setW,aO.e,hL]
theorem axc(c:aO)(i:Int)(y:bj):(dd c i y).e=[.J 4 (c.au.nodes.map Node.e),I c.au.aq,I c.au.cap,.J 8 (c.aq.map aK.e),.J 6 ((c.bn.map bj.e).set i.toNat y.e),.J 5 (c.tokens.map bQ.e),.J 3 (c.news.map bT.e)]:=by grind[dd,aO.e,hL]
theorem Zb(c:aO)(w i:Int)(y:aK)(z:bj):(setW (dd c i z) w y).e=[.J 4 (c.au.nodes.map Node.e),I c.au.aq,I c.au.cap,.J 8 ((c.aq.map aK.e).set w.toNat y.e),.J 6 ((c.bn.map bj.e).set i.toNat z.e),.J 5 (c.tokens.map bQ.e),.J 3 (c.news.map bT.e)]:=by grind[setW,dd,aO.e,hL]
theorem Dv(c:aO)(w:Int)(y:aK)(b:Bool):nz (setW c w y) b=[.J 4 (c.au.nodes.map Node.e),I c.au.aq,I c.au.cap,.J 8 ((c.aq.map aK.e).set w.toNat y.e),.J 6 (c.bn.map bj.e),.J 5 (c.tokens.map bQ.e),.J 3 (c.news.map bT.e),B b]:=by grind[setW,nz,hL]
theorem Zc(c:aO)(i:Int)(y:bj)(b:Bool):nz (dd c i y) b=[.J 4 (c.au.nodes.map Node.e),I c.au.aq,I c.au.cap,.J 8 (c.aq.map aK.e),.J 6 ((c.bn.map bj.e).set i.toNat y.e),.J 5 (c.tokens.map bQ.e),.J 3 (c.news.map bT.e),B b]:=by grind[dd,nz,hL]
theorem P9(c:aO)(w i:Int)(y:aK)(z:bj)(b:Bool):nz (setW (dd c i z) w y) b=[.J 4 (c.au.nodes.map Node.e),I c.au.aq,I c.au.cap,.J 8 ((c.aq.map aK.e).set w.toNat y.e),.J 6 ((c.bn.map bj.e).set i.toNat z.e),.J 5 (c.tokens.map bQ.e),.J 3 (c.news.map bT.e),B b]:=by grind[setW,dd,nz,hL]
theorem P'(c:aO)(w:Int)(ai:c.sz<=8388608)(hw:fE c):ar 123 [.agg c.e,.one (I w)] [.one (B (cx c&&(cd c w).isSome))]:=by
 have k:=DJ c ai hw;cases ok:cx c with
 | false=>rw[ok]at k;exact awO ⟨k,rfl,aa⟩
 | true=>
  rw[ok]at k;cases ag:cd c w with
  | none=>exact ZD ⟨k,rfl,Ix ai,fY _ (Za ag),aa⟩
  | some x=>exact ZD ⟨k,rfl,Ix ai,fY _ (Ih ag),aa⟩
theorem Zd(c:aO)(a b:Int)(ai:c.sz<=8388608)(hw:fE c):ar 131 [.agg c.e,.one (I a),.one (I b)] [.one (I (if cx c&&a != b then d' c.au a b else -1))]:=by
 have k:=DJ c ai hw;cases ok:cx c with
 | false=>rw[ok]at k;exact awP ⟨k,rfl,aa⟩
 | true=>
  rw[ok]at k;by_cases ec:a=b
  ·rw[show (true&&a != b)=false by simp[ec]];exact awQ ⟨k,rfl,by simp[ec],aa⟩
  rw[show (true&&a != b)=true by simp[ec],bq rfl];exact awR ⟨k,rfl,by simp[ec],Y7 c.au a b (iz (fp.1 ok).1),aa⟩
theorem axd(c:aO)(w:Int)(ai:c.sz<=8388608)(hw:fE c):ar 88 [.agg c.e,.one (I w)] [.agg (ju c w).1.e,.one (B (ju c w).2)]:=by
 have cF:=v' c ai;have k:=P' c w ai hw;cases ok:cx c with
 | false=>
  rw[ok]at k;rw[show ju c w=(c,false) by grind[ju]];exact ZC ⟨cF,k,rfl,aa⟩
 | true=>
 cases ag:cd c w with
 | none=>
  rw[ok,ag]at k;rw[show ju c w=(c,false) by grind[ju]];exact ZC ⟨cF,k,rfl,aa⟩
 | some x=>
  rw[ok,ag]at k;obtain⟨c6,de,cq⟩:=mI ag;rw[show ju c w=(setW c w (e0 c.au x).1,(e0 c.au x).2) by grind[ju]];dsimp only;rw[P8];exact avs ⟨cF,k,rfl,c6,de,cq,axa c.au x (aO.oq ai) (nx ag ai),c6,de,cq,aa⟩
theorem axe(c:aO)(w:Int)(ai:c.sz<=8388608)(hw:fE c):ar 89 [.agg c.e,.one (I w)] [.agg (jv c w).1.e,.one (B (jv c w).2)]:=by
 have cF:=v' c ai;have k:=P' c w ai hw;cases ok:cx c with
 | false=>
  rw[ok]at k;rw[show jv c w=(c,false) by grind[jv]];exact Zz ⟨cF,k,rfl,aa⟩
 | true=>
 cases ag:cd c w with
 | none=>
  rw[ok,ag]at k;rw[show jv c w=(c,false) by grind[jv]];exact Zz ⟨cF,k,rfl,aa⟩
 | some x=>
  rw[ok,ag]at k;obtain⟨c6,de,cq⟩:=mI ag;rw[show jv c w=(setW c w (e3 c.au x).1,(e3 c.au x).2) by grind[jv]];dsimp only;rw[P8];exact avl ⟨cF,k,rfl,c6,de,cq,axb c.au x (aO.oq ai) (nx ag ai),c6,de,cq,aa⟩
theorem Ii(ok:cx c=true)(ag:cd c w=some x):x.bB.length=4/\x.bN.length=4/\x.bk.length=4/\(∀e:Int,0<=e/\e<=3->-1000000<=x.bB.getD e.toNat 0/\x.bB.getD e.toNat 0<=1000000):=by
 obtain⟨_,_,_,_,ke,pE,k0,_,uq,_⟩:=iB.1 (jU ok ag);refine⟨ke,pE,k0,fun e he=>?_⟩;have al:e.toNat<x.bB.length:=by omega
 rw[fx]at uq;have:=uq _ (p9 al);rw[ly,gU al,lW];simpa only[oN,gp,jC,ax,cj,wZ,Bool.not_not,Bool.not_eq_eq_eq_not,hy,kK,Classical.not_not]using this
variable{r:az}{t:List az}
theorem Ze(ok:cx c=true)(ag:cd c w=some x)(ao:x.b9=r::t):je c w=r5 c w x r t (eZ r.key c.au.aq):=by
 simp_all[je,bq]
theorem Zf{o:Int}(h:o=w):r5 c w x r t o=(setW c w (kept (hX x t) r),true):=bq h
variable{l:bj}
theorem Zg{o:Int}(h:o≠w)(al:eF c (d' c.au w o)=some l):r5 c w x r t o=if (eh l r).2 then (setW (dd c (d' c.au w o) (eh l r).1) w (mF (hX x t) r.bl.ba),true) else (c,false):=by
 simp_all[r5,bD]
theorem axf(c:aO)(w:Int)(ai:c.sz<=8388608)(hw:fE c):ar 90 [.agg c.e,.one (I w)] [.agg (je c w).1.e,.one (B (je c w).2)]:=by
 have cF:=v' c ai;have k:=P' c w ai hw;cases ok:cx c with
 | false=>
  rw[ok]at k;rw[show je c w=(c,false) by grind[je]];exact ZA ⟨cF,k,rfl,aa⟩
 | true=>
 cases ag:cd c w with
 | none=>
  rw[ok,ag]at k;rw[show je c w=(c,false) by grind[je]];exact ZA ⟨cF,k,rfl,aa⟩
 | some x=>
 rw[ok,ag]at k;obtain⟨c6,de,cq⟩:=mI ag;have aW:=iz (fp.1 ok).1;cases ao:x.b9 with
 | nil=>
  rw[show je c w=(c,false) by simp_all[je,bq]];exact avm ⟨cF,k,rfl,c6,de,cq,rJ ao,aa⟩
 | cons r t=>
  have dO:=nx ag ai;have gV:(hX x t).sz<=8388608:=by grind[OC]
  have un:=aw9 x r t dO ao;have oL:=W5 r.key c.au.aq (by omega);have aC:=(H4 (jU ok ag) ao).2;have he:=r7 aC;obtain⟨f4,_,_,eV⟩:=Ii ok ag;rw[Ze ok ag ao];have zL:=DK r.key aW.1;generalize eZ r.key c.au.aq=o at oL zL;by_cases how:o=w
  ·rw[Zf how];dsimp only;rw[P8];exact avn ⟨cF,k,rfl,c6,de,cq,lM ao,c6,de,cq,un,oL,by grind,Y' (hX x t) r gV,c6,de,cq,aa⟩
  have sE:(o==w)=false:=by grind
  have win:ax w 0 (c.au.aq-1)=true:=by
   have:=Ih ag;rwa[b',(fp.1 ok).2.1]at this
  obtain⟨l,al⟩:=x' ok win zL;obtain⟨k1,k2,k3⟩:=zV al;have aQ:=Y7 c.au w o aW;have k8:=axU l r (zW al ai) (P7 al hw);rw[Zg how al];cases bw:(eh l r).2 with
  | false=>
   rw[bw]at k8;exact avo ⟨cF,k,rfl,c6,de,cq,lM ao,c6,de,cq,un,oL,sE,aQ,k1,k2,k3,k8,rfl,aa⟩
  | true=>
   rw[bw]at k8;rw[bq rfl];dsimp only;rw[Zb];exact avp ⟨cF,k,rfl,c6,de,cq,lM ao,c6,de,cq,un,oL,sE,aQ,k1,k2,k3,k8,rfl,k1,k2,k3,aw8 (hX x t) r.bl.ba gV f4 he (eV _ he),c6,de,cq,aa⟩
variable{a b:Int}
theorem Ij(h:(ax a 0 (c.au.aq-1)&&ax b 0 (c.au.aq-1))=false):eF c (d' c.au a b)=none:=by
 rw[uE h];rfl
theorem Zh(ok:cx c=true)(ec:a≠b)(al:eF c (d' c.au a b)=some l)(ag:cd c b=some x):jS c a b=if (dH l).2.2 then (setW (dd c (d' c.au a b) (dH l).1) b (ii x (dH l).2.1),true) else (c,false):=by
 simp_all[jS,bq]
theorem Zi(ok:cx c=true)(ec:a≠b)(al:eF c (d' c.au a b)=some l):jw c a b=(dd c (d' c.au a b) (fQ l).1,(fQ l).2):=by
 simp_all[jw,bq]
theorem axg(c:aO)(a b:Int)(ai:c.sz<=8388608)(hw:fE c):ar 91 [.agg c.e,.one (I a),.one (I b)] [.agg (jS c a b).1.e,.one (B (jS c a b).2)]:=by
 have cF:=v' c ai;have k:=Zd c a b ai hw;cases h1:(cx c&&a != b) with
 | false=>
  rw[h1,bD (by decide)]at k;rw[show jS c a b=(c,false) by grind[jS]];exact ZB ⟨cF,k,dh (by decide),aa⟩
 | true=>
 rw[h1,bq rfl]at k;rw[cu]at h1;obtain⟨ok,ec⟩:=h1;have ec:a≠b:=by grind
 have aW:=iz (fp.1 ok).1;cases bO:(ax a 0 (c.au.aq-1)&&ax b 0 (c.au.aq-1)) with
 | false=>
  rw[uE bO]at k;rw[show jS c a b=(c,false) by grind[jS,Ij]];exact ZB ⟨cF,k,dh (by decide),aa⟩
 | true=>
 rw[cu]at bO;obtain⟨l,al⟩:=x' ok bO.1 bO.2;obtain⟨x,ag⟩:∃x,cd c b=some x:=by
  have aw:=bO.2;have:=(fp.1 ok).2.1;simp only[ax,cj]at aw;grind[pY]
 obtain⟨k1,k2,k3⟩:=zV al;obtain⟨c6,de,cq⟩:=mI ag;have tx:=axV l (zW al ai) (P7 al hw);rw[Zh ok ec al ag];cases bw:(dH l).2.2 with
 | false=>
  rw[bw]at tx;exact avq ⟨cF,k,ea (by omega),k1,k2,k3,tx,rfl,aa⟩
 | true=>
  rw[bw]at tx;have he:=r7 (H5 (r6 ok al) bw).2;obtain⟨f4,JN,_,eV⟩:=Ii ok ag;rw[bq rfl];dsimp only;rw[Zb];exact avr ⟨cF,k,ea (by omega),k1,k2,k3,tx,rfl,k1,k2,k3,c6,de,cq,aw7 x _ (nx ag ai) f4 JN he (eV _ he),c6,de,cq,aa⟩
theorem axh(c:aO)(a b:Int)(ai:c.sz<=8388608)(hw:fE c):ar 92 [.agg c.e,.one (I a),.one (I b)] [.agg (jw c a b).1.e,.one (B (jw c a b).2)]:=by
 have cF:=v' c ai;have k:=Zd c a b ai hw;cases h1:(cx c&&a != b) with
 | false=>
  rw[h1,bD (by decide)]at k;rw[show jw c a b=(c,false) by grind[jw]];exact Zy ⟨cF,k,dh (by decide),aa⟩
 | true=>
 rw[h1,bq rfl]at k;rw[cu]at h1;obtain⟨ok,ec⟩:=h1;have ec:a≠b:=by grind
 cases bO:(ax a 0 (c.au.aq-1)&&ax b 0 (c.au.aq-1)) with
 | false=>
  rw[uE bO]at k;rw[show jw c a b=(c,false) by grind[jw,Ij]];exact Zy ⟨cF,k,dh (by decide),aa⟩
 | true=>
 rw[cu]at bO;obtain⟨l,al⟩:=x' ok bO.1 bO.2;obtain⟨k1,k2,k3⟩:=zV al;rw[Zi ok ec al];dsimp only;rw[axc];exact avk ⟨cF,k,ea (by omega),k1,k2,k3,aw6 l (zW al ai) (P7 al hw),k1,k2,k3,aa⟩
theorem Qa(c:aO)(w:Int)(ai:c.sz<=8388608):b4 prog 179 [.ref (gf c) (gf c),.ro (.one (I w))] (.vals [.one (B (cx c&&(cd c w).isSome))]):=by
 unfold gf;cases ok:cx c with
 | false=>exact av1 ⟨rfl,aa⟩
 | true=>
  cases ag:cd c w with
  | none=>exact ZK ⟨rfl,Ix ai,fm _ _ _ _ (Za ag),aa⟩
  | some x=>exact ZK ⟨rfl,Ix ai,fm _ _ _ _ (Ih ag),aa⟩
def Iu(x:aK)(e d:Int):aK:=⟨x.queue,x.b9,x.bM,x.cells,l7 x.bB e d,x.bN,x.bk,x.b0⟩
theorem Zj(w:aK)(e d:Int):(Iu w e d).e=[.J 5 (w.queue.map az.e),.J 5 (w.b9.map az.e),.J 5 (w.bM.map az.e),.J 4 (w.cells.map Cell.e),.J 1 ((w.bB.map bd).set e.toNat [I (w.bB.getD e.toNat 0+d)]),.J 1 (w.bN.map cG),.J 1 (w.bk.map cG),.J 2 (w.b0.map cS.e)]:=by
 simp only[Iu,l7,aK.e,hL];rfl
theorem Zk(c:aO)(w e d:Int)(x:aK)(ag:cd c w=some x)(aJ:x.bB.length=4)(he:0<=e/\e<=3)(aE:-1<=d/\d<=1)(ao:-1000000<=x.bB.getD e.toNat 0/\x.bB.getD e.toNat 0<=1000000):
  b4 prog 183 [.ref (nz c true) (nz (setW c w (Iu x e d)) (ax (x.bB.getD e.toNat 0+d) (-1000000) 1000000)),.ro (.one (I w)),.ro (.one (I e)),.ro (.one (I d))] (.vals []):=by
 obtain⟨c6,de,cq⟩:=mI ag;obtain⟨s1,s2⟩:=zE aJ he;rw[Dv,Zj];exact axw ⟨c6,de,cq,c6,de,cq,he.1,s1,s2,⟨by omega,by omega⟩,he.1,s1,s2,cq,rfl,rfl,rfl,rfl,rfl,c6,by grind,h8 c6 de,he.1,by grind,h8 he.1 s1,js _ _ _,aa⟩
theorem axi(c:aO)(w:Int)(ai:c.sz<=8388608):b4 prog 142 [.ref (gf c) (gf (ju c w).1),.ro (.one (I w))] (.vals [.one (B (ju c w).2)]):=by
 have post:=fun h=>YA (c:=c) (w:=w) h
 have is:=Qa c w ai;cases ok:cx c with
 | false=>
  rw[ok]at is;rw[show ju c w=(c,false) by grind[ju]];exact YY ⟨is,rfl,aa⟩
 | true=>
 replace post:=post ok;cases ag:cd c w with
 | none=>
  rw[ok,ag]at is;rw[show ju c w=(c,false) by grind[ju]];exact YY ⟨is,rfl,aa⟩
 | some x=>
 rw[ok,ag]at is;obtain⟨c6,de,cq⟩:=mI ag;have dO:=nx ag ai;have adb:=(fp.1 ok).1;have aaM:=jU ok ag;have hu:e0 c.au x=match x.b9,x.queue with
  | [],r::q=>(⟨q,(du c.au x.cells r).2.1,x.bM,(du c.au x.cells r).1,x.bB,x.bN,(if cr c.au r then x.bk.set r.bl.ba.toNat true else x.bk),x.b0⟩,true)
  | _,_=>(x,false):=by grind[e0]
 have uw:ju c w=(setW c w (e0 c.au x).1,(e0 c.au x).2):=by grind[ju]
 cases aA:x.b9 with
 | cons r q=>
  rw[uw,show e0 c.au x=(x,false) by rw[hu,aA]];dsimp only;rw[uD ag];exact axC ⟨is,rfl,c6,de,cq,uy aA,aa⟩
 | nil=>
 cases aJ:x.queue with
 | nil=>
  rw[uw,show e0 c.au x=(x,false) by grind];dsimp only;rw[uD ag];exact axD ⟨is,rfl,c6,de,cq,jP aA,rJ aJ,aa⟩
 | cons r q=>
  have ps:x.cells.length<=8388608:=by grind[aK.sz]
  have na:x.queue.length<=8388608:=by grind[aK.sz]
  have ay:=aO.oq ai;have st:=W8 c.au x.cells r ay ps;have om:=W9 c.au r ay;obtain⟨cA,_,_,_,_,_,k0,_⟩:=iB.1 aaM;rw[aJ,qI]at cA;have he:=r7 cA.1;obtain⟨c1,c2⟩:=sw k0 he;unfold gf at is ⊢;rw[post];rw[ok]at is ⊢;cases a7:cr c.au r with
  | true=>
   rw[a7]at om;rw[uw,show e0 c.au x=(⟨q,(du c.au x.cells r).2.1,x.bM,(du c.au x.cells r).1,x.bB,x.bN,x.bk.set r.bl.ba.toNat true,x.b0⟩,true) by grind];have e:aK.e ⟨q,(du c.au x.cells r).2.1,x.bM,(du c.au x.cells r).1,x.bB,x.bN,x.bk.set r.bl.ba.toNat true,x.b0⟩=[.J 5 ([]++((x.queue.map az.e).drop 1).take ((x.queue.map az.e).length-1)),.J 5 ((du c.au x.cells r).2.1.map az.e),.J 5 (x.bM.map az.e),.J 4 ((du c.au x.cells r).1.map Cell.e),.J 1 (x.bB.map bd),.J 1 (x.bN.map cG),.J 1 ((x.bk.map cG).set r.bl.ba.toNat [B true]),.J 2 (x.b0.map cS.e)]:=by
    rw[uI aJ];simp only[aK.e,hL];rfl
   dsimp only;rw[Dv,e];have key:=axE ⟨is,rfl,c6,de,cq,jP aA,lM aJ,by omega,mH aJ,nu aJ,st,nL,nM aJ,nN,s8 aJ na,s9 aJ na,s' aJ,om,rfl,he.1,c1,c2,cq,rfl,rfl,rfl,rfl,c6,by grind,h8 c6 de,rfl,rfl,rfl,rfl,rfl,aa⟩;simp only[qZ]at key;exact key
  | false=>
   rw[a7]at om;rw[uw,show e0 c.au x=(⟨q,(du c.au x.cells r).2.1,x.bM,(du c.au x.cells r).1,x.bB,x.bN,x.bk,x.b0⟩,true) by grind];have e:aK.e ⟨q,(du c.au x.cells r).2.1,x.bM,(du c.au x.cells r).1,x.bB,x.bN,x.bk,x.b0⟩=[.J 5 ([]++((x.queue.map az.e).drop 1).take ((x.queue.map az.e).length-1)),.J 5 ((du c.au x.cells r).2.1.map az.e),.J 5 (x.bM.map az.e),.J 4 ((du c.au x.cells r).1.map Cell.e),.J 1 (x.bB.map bd),.J 1 (x.bN.map cG),.J 1 (x.bk.map cG),.J 2 (x.b0.map cS.e)]:=by
    rw[uI aJ];rfl
   dsimp only;rw[Dv,e];exact axF ⟨is,rfl,c6,de,cq,jP aA,lM aJ,by omega,mH aJ,nu aJ,st,nL,nM aJ,nN,s8 aJ na,s9 aJ na,s' aJ,om,rfl,c6,de,cq,rfl,rfl,rfl,rfl,rfl,aa⟩
theorem axj(c:aO)(w:Int)(ai:c.sz<=8388608):b4 prog 143 [.ref (gf c) (gf (jv c w).1),.ro (.one (I w))] (.vals [.one (B (jv c w).2)]):=by
 have post:=fun h=>YB (c:=c) (w:=w) h
 have is:=Qa c w ai;cases ok:cx c with
 | false=>
  rw[ok]at is;rw[show jv c w=(c,false) by grind[jv]];exact ZJ ⟨is,rfl,aa⟩
 | true=>
 replace post:=post ok;cases ag:cd c w with
 | none=>
  rw[ok,ag]at is;rw[show jv c w=(c,false) by grind[jv]];exact ZJ ⟨is,rfl,aa⟩
 | some x=>
 rw[ok,ag]at is;obtain⟨c6,de,cq⟩:=mI ag;have dO:=nx ag ai;have adb:=(fp.1 ok).1;have aaM:=jU ok ag;have kv:x.bM.length<=8388608:=by grind[aK.sz]
 have hu:e3 c.au x=match x.b9,x.queue,x.bM with
  | [],[],r::t=>(⟨[r],[],t,x.cells,x.bB,x.bN,x.bk,x.b0⟩,true)
  | _,_,_=>(x,false):=by grind[e3]
 have uw:jv c w=(setW c w (e3 c.au x).1,(e3 c.au x).2):=by grind[jv]
 cases aA:x.b9 with
 | cons r q=>
  rw[uw,show e3 c.au x=(x,false) by rw[hu,aA]];dsimp only;rw[uD ag];exact avX ⟨is,rfl,c6,de,cq,uy aA,aa⟩
 | nil=>
 cases aJ:x.queue with
 | cons r q=>
  rw[uw,show e3 c.au x=(x,false) by grind];dsimp only;rw[uD ag];exact avY ⟨is,rfl,c6,de,cq,jP aA,uy aJ,aa⟩
 | nil=>
 cases a7:x.bM with
 | nil=>
  rw[uw,show e3 c.au x=(x,false) by grind];dsimp only;rw[uD ag];exact avZ ⟨is,rfl,c6,de,cq,jP aA,jP aJ,rJ a7,aa⟩
 | cons r t=>
  unfold gf at is ⊢;rw[post];rw[ok]at is ⊢;rw[uw,show e3 c.au x=(⟨[r],[],t,x.cells,x.bB,x.bN,x.bk,x.b0⟩,true) by grind];have e:aK.e ⟨[r],[],t,x.cells,x.bB,x.bN,x.bk,x.b0⟩=[.J 5 ([r.e]),.J 5 (x.b9.map az.e),.J 5 ([]++((x.bM.map az.e).drop 1).take ((x.bM.map az.e).length-1)),.J 4 (x.cells.map Cell.e),.J 1 (x.bB.map bd),.J 1 (x.bN.map cG),.J 1 (x.bk.map cG),.J 2 (x.b0.map cS.e)]:=by
   rw[uI a7,aA];rfl
  dsimp only;rw[Dv,e];exact av0 ⟨is,rfl,c6,de,cq,jP aA,jP aJ,lM a7,by omega,mH a7,nu a7,nL,nM a7,nN,s8 a7 kv,s9 a7 kv,s' a7,c6,de,cq,rfl,rfl,rfl,rfl,rfl,rfl,aa⟩
theorem axk(c:aO)(w:Int)(ai:c.sz<=8388608):b4 prog 144 [.ref (gf c) (gf (je c w).1),.ro (.one (I w))] (.vals [.one (B (je c w).2)]):=by
 have is:=Qa c w ai;cases ok:cx c with
 | false=>
  rw[ok]at is;rw[show je c w=(c,false) by grind[je]];exact YX ⟨is,rfl,aa⟩
 | true=>
 cases ag:cd c w with
 | none=>
  rw[ok,ag]at is;rw[show je c w=(c,false) by grind[je]];exact YX ⟨is,rfl,aa⟩
 | some x=>
 rw[ok,ag]at is;obtain⟨c6,de,cq⟩:=mI ag;have dO:=nx ag ai;have aW:=iz (fp.1 ok).1;cases ao:x.b9 with
 | nil=>
  rw[show je c w=(c,false) by simp_all[je,bq]];exact av2 ⟨is,rfl,c6,de,cq,rJ ao,aa⟩
 | cons r t=>
  have oL:=GJ r.key c.au.aq (by omega);have aC:=(H4 (jU ok ag) ao).2;have he:=r7 aC;have na:x.queue.length<=8388608:=by grind[aK.sz]
  have nQ:x.b9.length<=8388608:=by grind[aK.sz]
  obtain⟨f4,_,_,eV⟩:=Ii ok ag;rw[Ze ok ag ao];have zL:=DK r.key aW.1;generalize eZ r.key c.au.aq=o at oL zL;by_cases how:o=w
  ·have sE:(o != w)=false:=by simp[how]
   rw[Zf how];unfold gf at is ⊢;dsimp only;rw[Yy ok ag ao];rw[ok]at is ⊢;have e:(kept (hX x t) r).e=[.J 5 (x.queue.map az.e++[r.e]),.J 5 ([]++((x.b9.map az.e).drop 1).take ((x.b9.map az.e).length-1)),.J 5 (x.bM.map az.e),.J 4 (x.cells.map Cell.e),.J 1 (x.bB.map bd),.J 1 (x.bN.map cG),.J 1 (x.bk.map cG),.J 2 (x.b0.map cS.e)]:=by
    rw[uI ao,D4];rfl
   rw[Dv,e];have key:=av5 ⟨is,rfl,c6,de,cq,lM ao,c6,de,cq,by omega,mH ao,nu ao,oL,sE,c6,de,cq,vK na,vL na,cq,rfl,gb (az.flat r),rfl,rfl,rfl,rfl,rfl,rfl,rfl,rfl,rfl,rfl,rfl,rfl,rfl,c6,de,cq,rfl,c6,by grind,h8 c6 de,nL,nM ao,nN,s8 ao nQ,s9 ao nQ,s' ao,c6,by grind,h8 c6 de,aa⟩;simp only[qZ]at key;exact key
  have sE:(o != w)=true:=by simp[how]
  have win:ax w 0 (c.au.aq-1)=true:=by
   have:=Ih ag;rwa[b',(fp.1 ok).2.1]at this
  obtain⟨l,al⟩:=x' ok win zL;obtain⟨k1,k2,k3⟩:=zV al;have aQ:=P6 c.au w o aW;have k8:=Y1 l r (zW al ai);have afC:=fun h=>Yx ok ag ao zL how al h
  rw[Zg how al];cases bw:(eh l r).2 with
  | false=>
   rw[bw]at k8;exact av3 ⟨is,rfl,c6,de,cq,lM ao,c6,de,cq,by omega,mH ao,nu ao,oL,sE,aQ,k1,k2,k3,k8,rfl,aa⟩
  | true=>
   rw[bw]at k8;rw[bq rfl];unfold gf at is ⊢;dsimp only;rw[afC bw];rw[ok]at is ⊢;have yN:=Zk (dd c (d' c.au w o) (eh l r).1) w r.bl.ba 1 x (DL.trans ag) f4 he (by omega) (eV _ he);rw[Zc,P9,Zj]at yN;have e:(mF (hX x t) r.bl.ba).e=[.J 5 (x.queue.map az.e),.J 5 ([]++((x.b9.map az.e).drop 1).take ((x.b9.map az.e).length-1)),.J 5 (x.bM.map az.e),.J 4 (x.cells.map Cell.e),.J 1 ((x.bB.map bd).set r.bl.ba.toNat [I (x.bB.getD r.bl.ba.toNat 0+1)]),.J 1 (x.bN.map cG),.J 1 (x.bk.map cG),.J 2 (x.b0.map cS.e)]:=by
    rw[uI ao,Y9];rfl
   rw[P9,e];have key:=av4 ⟨is,rfl,c6,de,cq,lM ao,c6,de,cq,by omega,mH ao,nu ao,oL,sE,aQ,k1,k2,k3,k8,rfl,k1,k2,k3,yN,c6,by grind,h8 c6 de,nL,nM ao,nN,s8 ao nQ,s9 ao nQ,s' ao,c6,by grind,h8 c6 de,aa⟩;simp only[qZ]at key;exact key
theorem axl(c:aO)(a b:Int)(ai:c.sz<=8388608):b4 prog 145 [.ref (gf c) (gf (jS c a b).1),.ro (.one (I a)),.ro (.one (I b))] (.vals [.one (B (jS c a b).2)]):=by
 cases ok:cx c with
 | false=>
  rw[show jS c a b=(c,false) by grind[jS]];obtain⟨v,aQ⟩:=Y6 c.au a b;unfold gf;rw[ok];exact axx ⟨aQ,rfl,aa⟩
 | true=>
 have aW:=iz (fp.1 ok).1;have aQ:=P6 c.au a b aW;cases bO:(ax a 0 (c.au.aq-1)&&ax b 0 (c.au.aq-1)) with
 | false=>
  rw[uE bO]at aQ;rw[show jS c a b=(c,false) by grind[jS,Ij]];unfold gf;rw[ok];exact axy ⟨aQ,rfl,dh (by decide),aa⟩
 | true=>
 rw[cu]at bO;obtain⟨l,al⟩:=x' ok bO.1 bO.2;obtain⟨k1,k2,k3⟩:=zV al;by_cases ec:a=b
 ·rw[show jS c a b=(c,false) by grind[jS]];unfold gf;rw[ok];exact axz ⟨aQ,rfl,ea (by omega),by simp[ec],aa⟩
 have sE:(a==b)=false:=by simp[ec]
 obtain⟨x,ag⟩:∃x,cd c b=some x:=by
  have aw:=bO.2;have:=(fp.1 ok).2.1;simp only[ax,cj]at aw;grind[pY]
 obtain⟨c6,de,cq⟩:=mI ag;have dO:=nx ag ai;have tx:=Y2 l (zW al ai);have afF:=fun h=>Yz ok al ag h
 rw[Zh ok ec al ag];unfold gf;cases bw:(dH l).2.2 with
 | false=>
  rw[bw]at tx;rw[bD (by decide)];dsimp only;rw[ok];exact axA ⟨aQ,rfl,ea (by omega),sE,k1,k2,k3,tx,rfl,aa⟩
 | true=>
  rw[bw]at tx;rw[bq rfl];dsimp only;rw[afF bw,ok];have aC:=(H5 (r6 ok al) bw).2;have he:=r7 aC;generalize (dH l).2.1=r at tx aC he ⊢;obtain⟨f4,JN,_,eV⟩:=Ii ok ag;have na:x.queue.length<=8388608:=by grind[aK.sz]
  obtain⟨e7,fT⟩:=sw JN he;have kz:cd (setW (dd c (d' c.au a b) (dH l).1) b ⟨x.queue++[r],x.b9,x.bM,x.cells,x.bB,x.bN.set r.bl.ba.toNat true,x.bk,x.b0⟩) b=some ⟨x.queue++[r],x.b9,x.bM,x.cells,x.bB,x.bN.set r.bl.ba.toNat true,x.bk,x.b0⟩:=by
   obtain⟨q1,ie,_⟩:=eR ag;simp_all[cd,setW,dd,bq]
  have yN:=Zk _ b r.bl.ba (-1) _ kz f4 he (by omega) (eV _ he);rw[P9]at yN;have e2:aK.e ⟨x.queue++[r],x.b9,x.bM,x.cells,x.bB,x.bN.set r.bl.ba.toNat true,x.bk,x.b0⟩=[.J 5 (x.queue.map az.e++[r.e]),.J 5 (x.b9.map az.e),.J 5 (x.bM.map az.e),.J 4 (x.cells.map Cell.e),.J 1 (x.bB.map bd),.J 1 ((x.bN.map cG).set r.bl.ba.toNat [B true]),.J 1 (x.bk.map cG),.J 2 (x.b0.map cS.e)]:=by
   simp only[aK.e,gi,hL];rfl
  rw[e2,<-qZ]at yN;rw[show setW (setW (dd c (d' c.au a b) (dH l).1) b ⟨x.queue++[r],x.b9,x.bM,x.cells,x.bB,x.bN.set r.bl.ba.toNat true,x.bk,x.b0⟩) b (Iu ⟨x.queue++[r],x.b9,x.bM,x.cells,x.bB,x.bN.set r.bl.ba.toNat true,x.bk,x.b0⟩ r.bl.ba (-1))=setW (dd c (d' c.au a b) (dH l).1) b (ii x r) by unfold setW dd;simp only[qZ];rfl]at yN;exact axB ⟨aQ,rfl,ea (by omega),sE,k1,k2,k3,tx,rfl,k1,k2,k3,c6,de,cq,vK na,vL na,cq,rfl,gb (az.flat r),rfl,rfl,rfl,rfl,rfl,rfl,rfl,c6,de,cq,rfl,c6,by grind,h8 c6 de,he.1,e7,fT,h8 c6 de,rfl,rfl,yN,aa⟩
theorem axm(c:aO)(a b:Int)(ai:c.sz<=8388608):b4 prog 146 [.ref (gf c) (gf (jw c a b).1),.ro (.one (I a)),.ro (.one (I b))] (.vals [.one (B (jw c a b).2)]):=by
 have post:=fun h=>YC (c:=c) (a:=a) (b:=b) h
 cases ok:cx c with
 | false=>
  rw[show jw c a b=(c,false) by grind[jw]];obtain⟨v,aQ⟩:=Y6 c.au a b;unfold gf;rw[ok];exact awt ⟨aQ,rfl,aa⟩
 | true=>
 replace post:=post ok;have aW:=iz (fp.1 ok).1;have aQ:=P6 c.au a b aW;unfold gf;rw[post,ok];cases bO:(ax a 0 (c.au.aq-1)&&ax b 0 (c.au.aq-1)) with
 | false=>
  rw[uE bO]at aQ;rw[show jw c a b=(c,false) by grind[jw,Ij]];exact awu ⟨aQ,rfl,dh (by decide),aa⟩
 | true=>
 rw[cu]at bO;obtain⟨l,al⟩:=x' ok bO.1 bO.2;obtain⟨k1,k2,k3⟩:=zV al;by_cases ec:a=b
 ·rw[show jw c a b=(c,false) by grind[jw]];exact awv ⟨aQ,rfl,ea (by omega),by simp[ec],aa⟩
 rw[Zi ok ec al];dsimp only;rw[Zc];exact avW ⟨aQ,rfl,ea (by omega),by simp[ec],k1,k2,k3,Y3 l (zW al ai),k1,k2,k3,aa⟩
theorem Qb(c:aO)(p:b7)(ai:c.sz<=8388608):b4 prog 98 [.ref (gf c) (gf (cX c p).1),.ro (.agg p.e)] (.vals [.one (B (cX c p).2)]):=by
 by_cases h1:p.kind=1
 ·rw[show cX c p=ju c p.a by grind[cX]];exact axG ⟨by grind,axi c p.a ai,aa⟩
 have ib:(p.kind==1)=false:=by grind
 by_cases U:p.kind=2
 ·rw[show cX c p=jv c p.a by grind[cX]];exact axH ⟨ib,by grind,axj c p.a ai,aa⟩
 have iI:(p.kind==2)=false:=by grind
 by_cases aA:p.kind=3
 ·rw[show cX c p=je c p.a by grind[cX]];exact axI ⟨ib,iI,by grind,axk c p.a ai,aa⟩
 have k4:(p.kind==3)=false:=by grind
 by_cases aJ:p.kind=4
 ·rw[show cX c p=jS c p.a p.b by grind[cX]];exact axJ ⟨ib,iI,k4,by grind,axl c p.a p.b ai,aa⟩
 have jM:(p.kind==4)=false:=by grind
 by_cases a7:p.kind=5
 ·rw[show cX c p=jw c p.a p.b by grind[cX]];exact axK ⟨ib,iI,k4,jM,by grind,axm c p.a p.b ai,aa⟩
 have lm:(p.kind==5)=false:=by grind
 by_cases bw:p.kind=6
 ·rw[show cX c p=iA c p.a by grind[cX]];exact axL ⟨ib,iI,k4,jM,lm,by grind,ax3 c p.a ai,aa⟩
 have n6:(p.kind==6)=false:=by grind
 by_cases b1:p.kind=7
 ·rw[show cX c p=jT c p.a by grind[cX]];exact axM ⟨ib,iI,k4,jM,lm,n6,by grind,ayt c p.a ai,aa⟩
 have n7:(p.kind==7)=false:=by grind
 rw[show cX c p=(c,false) by grind[cX]];exact axN ⟨ib,iI,k4,jM,lm,n6,n7,aa⟩
theorem axn(c:aO)(p:b7)(ai:c.sz<=8388608)(hw:fE c):ar 50 [.agg c.e,.agg p.e] [.agg (cX c p).1.e,.one (B (cX c p).2)]:=by
 by_cases h1:p.kind=1
 ·rw[show cX c p=ju c p.a by grind[cX]];exact au0 ⟨by grind,axd c p.a ai hw,aa⟩
 have ib:(p.kind==1)=false:=by grind
 by_cases U:p.kind=2
 ·rw[show cX c p=jv c p.a by grind[cX]];exact au1 ⟨ib,by grind,axe c p.a ai hw,aa⟩
 have iI:(p.kind==2)=false:=by grind
 by_cases aA:p.kind=3
 ·rw[show cX c p=je c p.a by grind[cX]];exact au2 ⟨ib,iI,by grind,axf c p.a ai hw,aa⟩
 have k4:(p.kind==3)=false:=by grind
 by_cases aJ:p.kind=4
 ·rw[show cX c p=jS c p.a p.b by grind[cX]];exact au3 ⟨ib,iI,k4,by grind,axg c p.a p.b ai hw,aa⟩
 have jM:(p.kind==4)=false:=by grind
 by_cases a7:p.kind=5
 ·rw[show cX c p=jw c p.a p.b by grind[cX]];exact au4 ⟨ib,iI,k4,jM,by grind,axh c p.a p.b ai hw,aa⟩
 have lm:(p.kind==5)=false:=by grind
 by_cases bw:p.kind=6
 ·rw[show cX c p=iA c p.a by grind[cX]];exact au5 ⟨ib,iI,k4,jM,lm,by grind,ay6 c p.a ai hw,aa⟩
 have n6:(p.kind==6)=false:=by grind
 by_cases b1:p.kind=7
 ·rw[show cX c p=jT c p.a by grind[cX]];exact aww ⟨ib,iI,k4,jM,lm,n6,by grind,ayu c p.a ai hw,aa⟩
 have n7:(p.kind==7)=false:=by grind
 rw[show cX c p=(c,false) by grind[cX]];exact awx ⟨ib,iI,k4,jM,lm,n6,n7,v' c ai,aa⟩
theorem Zl(c:aO)(p:b7)(ai:c.sz<=8388608)(hw:fE c):ar 52 [.agg c.e,.agg p.e] [.agg (cX c p).1.e,.one (B (cX c p).2)]:=
 awp ⟨HP c ai hw,Qb c p ai,aa⟩
end Go.Proofs.YthfnndblgbjniaaGreat
namespace Go.Proofs.YthfnndblgbjniaaGreat
open Go.Sx Go.RowKit Go.Proofs.Tryz
theorem axo(c:aO)(l:List b7)(ai:c.sz+4*l.length<=8388608):
  c8 prog (ap f101 0) (zT (l.map b7.e) 0 [] (c.au.nodes.map Node.e) c.au.aq c.au.cap (c.aq.map aK.e) (c.bn.map bj.e) (c.tokens.map bQ.e) (c.news.map bT.e) (cx c) 0 0) (.exit 0)
   (P5 ((dg c l).2.map cG) ((dg c l).1.au.nodes.map Node.e) (dg c l).1.au.aq (dg c l).1.au.cap ((dg c l).1.aq.map aK.e) ((dg c l).1.bn.map bj.e) ((dg c l).1.tokens.map bQ.e) ((dg c l).1.news.map bT.e) (cx (dg c l).1) 0 0):=by
 have al:l.length<=8388608:=by omega
 have k:=er (P:=prog) (c:=(ap f101 0)) (cn 0) l.length (fun i:Nat=>zT (l.map b7.e) i ((dg c (l.take i)).2.map cG) ((dg c (l.take i)).1.au.nodes.map Node.e) (dg c (l.take i)).1.au.aq (dg c (l.take i)).1.au.cap ((dg c (l.take i)).1.aq.map aK.e) ((dg c (l.take i)).1.bn.map bj.e) ((dg c (l.take i)).1.tokens.map bQ.e) ((dg c (l.take i)).1.news.map bT.e) (cx (dg c (l.take i)).1) 0 0) (fun i hi=>by
  obtain⟨p,hp⟩:=c5 hi;have aW:=OG (l.take i) c;have ao:=X5 c l i;rw[X4 c hp];dsimp only;rw[OF];generalize dg c (l.take i)=o at*;exact awh ⟨bV hi,bx,bH hi,bA b7.e hp,Qb o.1 p (by omega),by grind,by grind,Bu [(cX o.1 p).2],c0 hi al,aa⟩) (awi ⟨dq,aa⟩)
 rw[jh]at k;exact k
theorem YN(c:aO)(l:List b7)(ai:c.sz+4*l.length<=8388608)(hw:fE c):ar 101 [.agg c.e,.one (.J 3 (l.map b7.e))] [.agg (dg c l).1.e,.one (.J 1 ((dg c l).2.map cG))]:=
 awj ⟨HP c (by omega) hw,axo c l ai,aa⟩
def jf(c:aO):aO×Nat:=((dg c (fB c)).1,nO (dg c (fB c)).2)
theorem axp{c d:aO}(h:d.au=c.au):fB d=fB c:=by grind[fB]
theorem Ik(c:aO):o' c (jf c).1:=DO _ _
theorem YO(c:aO):(jf c).1.sz<=c.sz+400:=by
 grind[DN,fB,Ia,jf]
theorem axq(c:aO)(l:List b7)(ai:c.sz+4*l.length<=8388608):b4 prog 112 [.ref (gf c) (gf (dg c l).1),.ro (.one (.J 3 (l.map b7.e)))] (.vals [.one (I (nO (dg c l).2))]):=by
 have al:l.length<=8388608:=by omega
 have k:=er (P:=prog) (c:=(ap f112 0)) (cn 0) l.length (fun i:Nat=>yf (l.map b7.e) i (nO (dg c (l.take i)).2) ((dg c (l.take i)).1.au.nodes.map Node.e) (dg c (l.take i)).1.au.aq (dg c (l.take i)).1.au.cap ((dg c (l.take i)).1.aq.map aK.e) ((dg c (l.take i)).1.bn.map bj.e) ((dg c (l.take i)).1.tokens.map bQ.e) ((dg c (l.take i)).1.news.map bT.e) (cx (dg c (l.take i)).1)) (fun i hi=>by
  obtain⟨p,hp⟩:=c5 hi;have aW:=OG (l.take i) c;have aE:=asI (dg c (l.take i)).2;have ao:=X5 c l i;have bK:=OH i l;rw[X4 c hp];dsimp only;rw[asJ];generalize dg c (l.take i)=o at*;have st:=Qb o.1 p (by omega);cases aw:(cX o.1 p).2 with
  | true=>
   rw[aw]at st;exact axO ⟨bV hi,bx,bH hi,bA b7.e hp,st,rfl,⟨by omega,by omega⟩,c0 hi al,aa⟩
  | false=>
   rw[aw]at st;exact axP ⟨bV hi,bx,bH hi,bA b7.e hp,st,rfl,c0 hi al,aa⟩) (axQ ⟨dq,aa⟩)
 rw[jh]at k;exact axR ⟨k,aa⟩
def gK:Nat->aO->Nat->aO×Nat
 | 0,c,k=>(c,k)
 | n+1,c,k=>if (jf c).2=0 then ((jf c).1,k+1) else gK n (jf c).1 (k+1)
def lr(c:aO)(sX:Int):aO×Nat:=gK (gd sX 0 3000).toNat c 0
theorem Il:∀(n:Nat) (c:aO) (k:Nat),(gK n c k).1.sz<=c.sz+n*400
 | 0,c,k=>fi _
 | n+1,c,k=>by
  have h1:=YO c;have U:=Il n (jf c).1 (k+1);unfold gK;split
  ·dsimp only;omega
  omega
theorem Im:∀(n:Nat) (c:aO) (k:Nat),o' c (gK n c k).1
 | 0,c,k=>.rfl
 | n+1,c,k=>by
  unfold gK;split
  ·exact Ik c
  exact (Ik c).trans (Im n _ _)
theorem axr{n:Nat}{c:aO}{k:Nat}(bJ:¬(jf c).2=0):gK (n+1) c k=gK n (jf c).1 (k+1):=by
 simp_all[gK,bD]
theorem YP(n:Int):∃k:Nat,gd n 0 3000=k/\k<=3000:=by
 refine⟨(gd n 0 3000).toNat,?_,?_⟩<;>(unfold gd;grind)
theorem YQ(m:Nat)(hm:m<=3000)(l:List b7):∀(n:Nat) (c:aO) (k:Nat),k+n=m->fB c=l->c.sz+n*400<=8388608->
  c8 prog (ap f67 0) (wb (l.map b7.e) m ((k:Int)+1) (c.au.nodes.map Node.e) c.au.aq c.au.cap (c.aq.map aK.e) (c.bn.map bj.e) (c.tokens.map bQ.e) (c.news.map bT.e) (cx c) 0 0) .ret
    (P3 (gK n c k).2 ((gK n c k).1.au.nodes.map Node.e) (gK n c k).1.au.aq (gK n c k).1.au.cap ((gK n c k).1.aq.map aK.e) ((gK n c k).1.bn.map bj.e) ((gK n c k).1.tokens.map bQ.e) ((gK n c k).1.news.map bT.e))\/
  (gK n c k).2=m/\c8 prog (ap f67 0) (wb (l.map b7.e) m ((k:Int)+1) (c.au.nodes.map Node.e) c.au.aq c.au.cap (c.aq.map aK.e) (c.bn.map bj.e) (c.tokens.map bQ.e) (c.news.map bT.e) (cx c) 0 0) (.exit 0)
    (P4 m ((gK n c k).1.au.nodes.map Node.e) (gK n c k).1.au.aq (gK n c k).1.au.cap ((gK n c k).1.aq.map aK.e) ((gK n c k).1.bn.map bj.e) ((gK n c k).1.tokens.map bQ.e) ((gK n c k).1.news.map bT.e) (cx (gK n c k).1) 0 0)
 | 0,c,k,hk,_,_=>.inr ⟨by grind[gK],.last (cn 0) (awd ⟨ea (by omega),aa⟩)⟩
 | n+1,c,k,hk,al,ai=>by
  have r:=axq c l (by grind[Ia]);have ao:=YO c;have ay:=(Ik c).au;have e1:jf c=((dg c l).1,nO (dg c l).2):=by grind[jf]
  by_cases bJ:(jf c).2=0
  ·rw[show gK (n+1) c k=((jf c).1,k+1) by simp_all[gK,bq]];rw[e1]at bJ ⊢;exact .inl (.last eC (awc ⟨dh (by omega),r,by grind,aa⟩))
  rw[axr bJ];have eA:=YQ m hm l n (jf c).1 (k+1) (by omega) ((axp ay).trans al) (by omega);rw[e1]at bJ eA ⊢;rcases eA with eA | ⟨afn,eA⟩
  ·exact .inl (.more (ZF ⟨dh (by omega),r,by grind,⟨by omega,by omega⟩,aa⟩) eA)
  exact .inr ⟨afn,.more (ZF ⟨dh (by omega),r,by grind,⟨by omega,by omega⟩,aa⟩) eA⟩
theorem Qc(c:aO)(sX:Int)(ai:c.sz+1200000<=8388608)(hw:fE c):ar 67 [.agg c.e,.one (I sX)] [.agg (lr c sX).1.e,.one (I (lr c sX).2)]:=by
 have b:=GZ sX 0 3000;obtain⟨m,hm,aw⟩:=YP sX;unfold lr;rw[hm]at b ⊢;rw[lz];rcases YQ m (by omega) (fB c) m c 0 (by omega) rfl (by omega) with k | ⟨cA,k⟩
 ·exact awe ⟨HP c (by omega) hw,Ib c,b,k,aa⟩
 rw[cA];exact awf ⟨HP c (by omega) hw,Ib c,b,k,aa⟩
def yg(c:aO):Bool:=(fB c).any fun p=>(cX c p).2
theorem axs(c:aO)(ai:c.sz<=8388608)(hw:fE c):ar 19 [.agg c.e] [.one (B (yg c))]:=by
 have al:=Ia c;have l:=gl (P:=prog) (c:=(ap f19 0)) (fB c) (fun p=>(cX c p).2) (fun i=>ye ((fB c).map b7.e) i (c.au.nodes.map Node.e) c.au.aq c.au.cap (c.aq.map aK.e) (c.bn.map bj.e) (c.tokens.map bQ.e) (c.news.map bT.e)) (e1:=.ret) (e2:=.exit 0) (X:=fun _ _=>P2 true) eC (cn 0)
  (fun i a ah h=>by
   have s:=Zl c a ai hw;rw[h]at s;exact awV ⟨bV (aY ah),bx,bH (aY ah),bA b7.e ah,s,rfl,c0 (aY ah) (by omega),aa⟩)
  (fun i a ah h=>by
   have s:=Zl c a ai hw;rw[h]at s;exact awU ⟨bV (aY ah),bx,bH (aY ah),bA b7.e ah,s,rfl,aa⟩)
  (av6 ⟨dq,aa⟩)
 unfold yg;rcases l with⟨_,_,h1,U⟩ | ⟨i,a,_,_,_,_,h1,U⟩
 ·rw[h1];exact av8 ⟨Ib c,U,aa⟩
 rw[h1];exact av7 ⟨Ib c,U,aa⟩
theorem Qd(c:aO)(ai:c.sz<=8388608)(hw:fE c):ar 18 [.agg c.e] [.one (B (yg c))]:=by
 have al:=Ia c;exact awS ⟨atn c,ail (fB c) (fun p=>(cX c p).2) 49 [.ptr c.e] (by omega) (by kernel_rfl) (fun p _=>awT ⟨axn c p ai hw,aa⟩),aa⟩
