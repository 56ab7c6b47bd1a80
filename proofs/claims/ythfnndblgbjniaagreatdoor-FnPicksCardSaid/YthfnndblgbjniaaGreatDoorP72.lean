import Derived.Test.YthfnndblgbjniaaGreatDoorP43
import Derived.Test.YthfnndblgbjniaaGreatDoorGW
import Derived.Test.YthfnndblgbjniaaGreatDoorGX
set_option linter.unusedVariables false
set_option linter.unusedSimpArgs false
namespace Go.Proofs.YthfnndblgbjniaaGreatDoor
open Go.Sx Go.RowKit Go.Proofs.Tryz
theorem alW{g:b5}{op:Int}{x:Node}(h:gi g op=some x):0<=op/\op<(↑(g.nodes.map Node.e).length:Int)/\(g.nodes.map Node.e)[op.toNat]?=some x.e:=by
 unfold gi at h;split at h
 ·have:=a7 h;exact⟨‹_›,by rw[cr];omega,bN Node.e h⟩
 cases h
theorem alX(g:b5)(r:aD)(ax:g.sz<=8388608):al 152 [.agg g.e,.agg r.e] [.one (B (dx g r))]:=by
 have k:=xK g ax;have fX:=tV r;have IM:=LB r.bw;cases U:ev g with
 | false=>
  rw[U]at k;rw[show dx g r=false by unfold dx;split<;>simp[kf,U]];exact afS ⟨k,rfl,ad⟩
 | true=>
 rw[U]at k;cases aa:fb r with
 | false=>
  rw[aa]at fX;rw[show dx g r=false by unfold dx;split<;>simp[kf,aa]];exact afT ⟨k,rfl,fX,rfl,ad⟩
 | true=>
 rw[aa]at fX;cases aB:gi g r.op with
 | none=>
  rw[show dx g r=false by unfold dx;rw[aB]];exact afU ⟨k,rfl,fX,rfl,xH g r.op false (by rw[aB];rfl) ax,rfl,ad⟩
 | some x=>
  obtain⟨m1,m2,m3⟩:=alW aB;have IJ:=xH g r.op true (by rw[aB];rfl) ax;rw[show dx g r=kf g r x by unfold dx;rw[aB]];cases aJ:(x.kind==7) with
  | false=>
   rw[show kf g r x=false by simp[kf,aJ]];exact afX ⟨k,rfl,fX,rfl,IJ,rfl,m1,m2,m3,IM,aJ,ad⟩
  | true=>
  by_cases a6:0<x.outs.length
  ·rw[show kf g r x=!(e5 r.bw).2 by simp[kf,U,aa,aJ,a6]];exact afV ⟨k,rfl,fX,rfl,IJ,rfl,m1,m2,m3,IM,aJ,dm (by rw[cr];omega),ad⟩
  rw[show kf g r x=false by simp[kf,a6]];exact afW ⟨k,rfl,fX,rfl,IJ,rfl,m1,m2,m3,IM,aJ,dX (by rw[cr];omega),ad⟩
end Go.Proofs.YthfnndblgbjniaaGreatDoor
namespace Go.Proofs.YthfnndblgbjniaaGreatDoor
open Go.Sx Go.RowKit Go.Proofs.Tryz
section
variable {xs : List aD} {r : aD} {t : List aD}
theorem uK(h:xs=r::t):((xs.map aD.e).drop 1).take ((xs.map aD.e).length-1)=t.map aD.e:=by grind
theorem lF(h:xs=r::t):(0:Int)<(↑(xs.map aD.e).length:Int):=by grind
theorem l3(h:xs=r::t):(xs.map aD.e)[0]?=some r.e:=by subst h;rfl
theorem kP(h:xs=r::t):((↑(xs.map aD.e).length:Int)==0)=false:=by
 grind
theorem qc(h:xs=[]):((↑(xs.map aD.e).length:Int)==0)=true:=by subst h;rfl
theorem sG(h:xs=r::t):decide ((↑(xs.map aD.e).length:Int)>0)=true:=dm (lF h)
theorem iQ(h:xs=[]):decide ((↑(xs.map aD.e).length:Int)>0)=false:=by subst h;rfl
theorem mm:(0:Int)<=(some (1:Int)).getD 0:=by decide
theorem mn(h:xs=r::t):(some (1:Int)).getD 0<=(none:Option Int).getD (↑(xs.map aD.e).length:Int):=by
 grind
theorem mo{l:List (List D)}:(none:Option Int).getD (↑l.length:Int)<=(↑l.length:Int):=by simp
theorem rE(h:xs=r::t)(ar:xs.length<=8388608):(([]:List (List D)).length+(((xs.map aD.e).drop 1).take ((xs.map aD.e).length-1)).length)*40<=140737488355328:=by
 grind
theorem rF(h:xs=r::t)(ar:xs.length<=8388608):([]:List (List D)).length+(((xs.map aD.e).drop 1).take ((xs.map aD.e).length-1)).length<=9223372036854775807:=by
 grind
theorem rG(h:xs=r::t):Flat (((xs.map aD.e).drop 1).take ((xs.map aD.e).length-1)):=by grind[uK,dE,aD.flat]
theorem sO(h:xs=r::t):([]:List (List D))++((xs.map aD.e).drop 1).take ((xs.map aD.e).length-1)=t.map aD.e:=uK h
end
theorem tR{xs:List aD}{a:List D}(h:xs.length<=8388608):((xs.map aD.e).length+[a].length)*40<=140737488355328:=by simp;omega
theorem tS{xs:List aD}{a:List D}(h:xs.length<=8388608):(xs.map aD.e).length+[a].length<=9223372036854775807:=by simp;omega
theorem UX(a:Int)(q:List aD)(r:aD)(b c d e:Int):br.e ⟨a,q++[r],b,c,d,e⟩=[I a,.J 5 (q.map aD.e++[r.e]),I b,I c,I d,I e]:=by
 grind[br.e]
theorem xy{l:br}(h:ik l=true):(0<=l.eH/\l.eH<=4)/\(0<=l.back/\l.back<=4)/\(0<=l.e7/\l.e7<=1000000000)/\(0<=l.de/\l.de<=1000000000)/\l.queue.length<=4:=by
 obtain⟨c7,bQ,fW,qa,j',od,kt,pf⟩:=uF.1 h;simp only[av,c3]at c7 bQ fW j';omega
theorem UY(l:br)(r:aD)(ar:l.sz<=8388608):al 160 [.agg l.e,.agg r.e] [.agg (et l r).1.e,.one (B (et l r).2)]:=by
 have cx:=EG l ar;have k:=Ev l ar;have fX:=s5 r;have aL:l.queue.length<=8388608:=ar;cases U:ik l with
 | false=>
  rw[U]at k;rw[show et l r=(l,false) by grind[et]];exact akC ⟨cx,k,rfl,ad⟩
 | true=>
 rw[U]at k;cases aa:fb r with
 | false=>
  rw[aa]at fX;rw[show et l r=(l,false) by grind[et]];exact akD ⟨cx,k,rfl,fX,rfl,ad⟩
 | true=>
 rw[aa]at fX;by_cases aB:l.eH=0
 ·rw[show et l r=(l,false) by grind[et]];exact al6 ⟨cx,k,rfl,fX,rfl,by grind,ad⟩
 have y0:(l.eH==0)=false:=by grind
 obtain⟨hI,ih,kd,iN,kx⟩:=xy U;by_cases aJ:l.e7<1000000000
 ·rw[show et l r=(⟨l.cap,l.queue++[r],l.eH-1,l.back,l.e7+1,l.de⟩,true) by grind[et]];dsimp only;rw[UX];exact al8 ⟨cx,k,rfl,fX,rfl,y0,dX (by omega),tR aL,tS aL,fA (aD.flat r),⟨by omega,by omega⟩,⟨by omega,by omega⟩,ad⟩
 rw[show et l r=(l,false) by grind[et]];dsimp only;exact al7 ⟨cx,k,rfl,fX,rfl,y0,dm (by omega),ad⟩
theorem UZ(l:br)(ar:l.sz<=8388608):al 162 [.agg l.e] [.agg (d' l).1.e,.agg (d' l).2.1.e,.one (B (d' l).2.2)]:=by
 have cx:=EG l ar;have k:=Ev l ar;have aL:l.queue.length<=8388608:=ar;cases U:ik l with
 | false=>
  rw[U]at k;rw[show d' l=(l,yp,false) by grind[d']];exact ama ⟨cx,k,rfl,ad⟩
 | true=>
 rw[U]at k;cases aa:l.queue with
 | nil=>
  rw[show d' l=(l,yp,false) by simp_all[d',bL]];exact amb ⟨cx,k,rfl,qc aa,ad⟩
 | cons r q=>
  obtain⟨hI,ih,kd,iN,kx⟩:=xy U;rw[show d' l=(⟨l.cap,q,l.eH,l.back+1,l.e7,l.de+1⟩,r,true) by simp_all[d',bL]];have e:br.e ⟨l.cap,q,l.eH,l.back+1,l.e7,l.de+1⟩=[I l.cap,.J 5 (((l.queue.map aD.e).drop 1).take ((l.queue.map aD.e).length-1)),I l.eH,I (l.back+1),I l.e7,I (l.de+1)]:=by rw[uK aa];rfl
  dsimp only;rw[e];exact amc ⟨cx,k,rfl,kP aa,by omega,lF aa,l3 aa,mm,mn aa,mo,rE aa aL,rF aa aL,rG aa,⟨by omega,by omega⟩,⟨by omega,by omega⟩,ad⟩
theorem T'(l:br)(ar:l.sz<=8388608):al 163 [.agg l.e] [.agg (fB l).1.e,.one (B (fB l).2)]:=by
 have cx:=EG l ar;have k:=Ev l ar;cases U:ik l with
 | false=>
  rw[U]at k;rw[show fB l=(l,false) by grind[fB]];exact ak1 ⟨cx,k,rfl,ad⟩
 | true=>
 rw[U]at k;by_cases aB:l.back=0
 ·rw[show fB l=(l,false) by grind[fB]];exact ak2 ⟨cx,k,rfl,by grind,ad⟩
 obtain⟨hI,ih,kd,iN,kx⟩:=xy U;rw[show fB l=(⟨l.cap,l.queue,l.eH+1,l.back-1,l.e7,l.de⟩,true) by grind[fB]];exact ak3 ⟨cx,k,rfl,by grind,⟨by omega,by omega⟩,⟨by omega,by omega⟩,ad⟩
theorem alY(l:br)(r:aD)(ar:l.sz<=8388608)(ax:l.de<=9223372036854775807):al 103 [.agg l.e,.agg r.e] [.agg (et l r).1.e,.one (B (et l r).2)]:=by
 have cx:=EF l ar;have k:=Eu l ar ax;have fX:=tV r;have aL:l.queue.length<=8388608:=ar;cases U:ik l with
 | false=>
  rw[U]at k;rw[show et l r=(l,false) by grind[et]];exact alj ⟨cx,k,rfl,ad⟩
 | true=>
 rw[U]at k;cases aa:fb r with
 | false=>
  rw[aa]at fX;rw[show et l r=(l,false) by grind[et]];exact alk ⟨cx,k,rfl,fX,rfl,ad⟩
 | true=>
 rw[aa]at fX;by_cases aB:l.eH=0
 ·rw[show et l r=(l,false) by grind[et]];exact alm ⟨cx,k,rfl,fX,rfl,by grind,ad⟩
 have y0:(l.eH==0)=false:=by grind
 obtain⟨hI,ih,kd,iN,kx⟩:=xy U;by_cases aJ:l.e7<1000000000
 ·rw[show et l r=(⟨l.cap,l.queue++[r],l.eH-1,l.back,l.e7+1,l.de⟩,true) by grind[et]];dsimp only;rw[UX];exact alo ⟨cx,k,rfl,fX,rfl,y0,by grind,tR aL,tS aL,fA (aD.flat r),⟨by omega,by omega⟩,⟨by omega,by omega⟩,ad⟩
 rw[show et l r=(l,false) by grind[et]];dsimp only;exact aln ⟨cx,k,rfl,fX,rfl,y0,by grind,ad⟩
theorem alZ(l:br)(ar:l.sz<=8388608)(ax:l.de<=9223372036854775807):al 106 [.agg l.e] [.agg (d' l).1.e,.agg (d' l).2.1.e,.one (B (d' l).2.2)]:=by
 have cx:=EF l ar;have k:=Eu l ar ax;have aL:l.queue.length<=8388608:=ar;cases U:ik l with
 | false=>
  rw[U]at k;rw[show d' l=(l,yp,false) by grind[d']];exact akH ⟨cx,k,rfl,ad⟩
 | true=>
 rw[U]at k;cases aa:l.queue with
 | nil=>
  rw[show d' l=(l,yp,false) by simp_all[d',bL]];exact akI ⟨cx,k,rfl,qc aa,ad⟩
 | cons r q=>
  obtain⟨hI,ih,kd,iN,kx⟩:=xy U;rw[show d' l=(⟨l.cap,q,l.eH,l.back+1,l.e7,l.de+1⟩,r,true) by simp_all[d',bL]];have e:br.e ⟨l.cap,q,l.eH,l.back+1,l.e7,l.de+1⟩=[I l.cap,.J 5 (((l.queue.map aD.e).drop 1).take ((l.queue.map aD.e).length-1)),I l.eH,I (l.back+1),I l.e7,I (l.de+1)]:=by rw[uK aa];rfl
  dsimp only;rw[e];exact akJ ⟨cx,k,rfl,kP aa,mm,mn aa,mo,⟨by omega,by omega⟩,⟨by omega,by omega⟩,by omega,lF aa,l3 aa,ad⟩
theorem al0(l:br)(ar:l.sz<=8388608)(ax:l.de<=9223372036854775807):al 108 [.agg l.e] [.agg (fB l).1.e,.one (B (fB l).2)]:=by
 have cx:=EF l ar;have k:=Eu l ar ax;cases U:ik l with
 | false=>
  rw[U]at k;rw[show fB l=(l,false) by grind[fB]];exact ajz ⟨cx,k,rfl,ad⟩
 | true=>
 rw[U]at k;by_cases aB:l.back=0
 ·rw[show fB l=(l,false) by grind[fB]];exact ajA ⟨cx,k,rfl,by grind,ad⟩
 obtain⟨hI,ih,kd,iN,kx⟩:=xy U;rw[show fB l=(⟨l.cap,l.queue,l.eH+1,l.back-1,l.e7,l.de⟩,true) by grind[fB]];exact ajB ⟨cx,k,rfl,by grind,⟨by omega,by omega⟩,⟨by omega,by omega⟩,ad⟩
theorem Ua{n a b:Int}(a':1<=n/\n<=4)(aj:av a 0 (n-1)=true)(ay:av b 0 (n-1)=true):aK .i64 (a*n)/\aK .i64 (a*n+b):=by
 simp only[av,c3]at aj ay;have C0:n=1\/n=2\/n=3\/n=4:=by omega
 rcases C0 with rfl | rfl | rfl | rfl<;>exact⟨⟨by omega,by omega⟩,⟨by omega,by omega⟩⟩
theorem Ub{n:Int}(h:aK .i64 n):IntKind.i64.wrap n=n:=by
 obtain⟨U,aa⟩:=h;grind[IntKind.wrap_i64]
theorem Uc(g:b5)(a b:Int):∃v,al 159 [.agg g.e,.one (I a),.one (I b)] [.one (I v)]:=by
 cases aj:av a 0 (IntKind.i64.wrap (g.az-1)) with
 | false=>exact⟨_,UO ⟨fM _ _ _ _ aj,rfl,ad⟩⟩
 | true=>
 cases ay:av b 0 (IntKind.i64.wrap (g.az-1)) with
 | false=>exact⟨_,UP ⟨fM _ _ _ _ aj,rfl,fM _ _ _ _ ay,rfl,ad⟩⟩
 | true=>
 by_cases a':g.az<1
 ·exact⟨_,aky ⟨fM _ _ _ _ aj,rfl,fM _ _ _ _ ay,rfl,dm a',ad⟩⟩
 exact⟨_,UQ ⟨fM _ _ _ _ aj,rfl,fM _ _ _ _ ay,rfl,dX a',ad⟩⟩
theorem Ma(g:b5)(a b:Int)(a':1<=g.az/\g.az<=4):al 159 [.agg g.e,.one (I a),.one (I b)] [.one (I (fg g a b))]:=by
 have i1:IntKind.i64.wrap (g.az-1)=g.az-1:=Ub ⟨by omega,by omega⟩;have zK:∀(x:Int) (r:Bool),av x 0 (g.az-1)=r->al 65 [.one (I x),.one (I 0),.one (I (IntKind.i64.wrap (g.az-1)))] [.one (B r)]:=fun x r h=>by
  grind[fM]
 cases aj:av a 0 (g.az-1) with
 | false=>
  rw[uG (by rw[aj];rfl)];exact UO ⟨zK _ _ aj,rfl,ad⟩
 | true=>
 cases ay:av b 0 (g.az-1) with
 | false=>
  rw[uG (by grind)];exact UP ⟨zK _ _ aj,rfl,zK _ _ ay,rfl,ad⟩
 | true=>
  obtain⟨tN,sv⟩:=Ua a' aj ay;have key:al 159 [.agg g.e,.one (I a),.one (I b)] [.one (I (IntKind.i64.wrap (IntKind.i64.wrap (a*g.az)+b)))]:=UQ ⟨zK a true aj,rfl,zK b true ay,rfl,dX (by omega),ad⟩;grind[Ub,EI]
theorem Ud(g:b5)(a b:Int)(a':1<=g.az/\g.az<=4):al 102 [.agg g.e,.one (I a),.one (I b)] [.one (I (fg g a b))]:=by
 cases bD:(av a 0 (g.az-1)&&av b 0 (g.az-1)) with
 | true=>
  rw[cH]at bD;obtain⟨tN,sv⟩:=Ua a' bD.1 bD.2;rw[(EI a' bD.1 bD.2).1];obtain⟨aj,ay⟩:=bD;simp only[av,c3]at aj ay;exact ak5 ⟨dX (by grind),dX (by grind),tN,sv,ad⟩
 | false=>
  rw[uG bD];have q4:¬((0<=a/\a<=g.az-1)/\(0<=b/\b<=g.az-1)):=by
   simp_all[av,true,cH,c3]
  by_cases hm:(if b<a then b else a)<0
  ·exact ajD ⟨dm hm,ad⟩
  exact ak4 ⟨dX hm,dm (by grind),ad⟩
theorem Ab(w:aR)(r:aD):(kept w r).e=[.J 5 (w.queue.map aD.e++[r.e]),.J 5 (w.ck.map aD.e),.J 5 (w.cb.map aD.e),.J 4 (w.cells.map Cell.e),.J 1 (w.bJ.map bb),.J 1 (w.bV.map cp),.J 1 (w.bt.map cp),.J 2 (w.bX.map cz.e)]:=by
 grind[kept,aR.e]
theorem Ue(w:aR)(r:aD):(im w r).e=[.J 5 (w.queue.map aD.e++[r.e]),.J 5 (w.ck.map aD.e),.J 5 (w.cb.map aD.e),.J 4 (w.cells.map Cell.e),.J 1 ((w.bJ.map bb).set r.bw.bh.toNat [I (w.bJ.getD r.bw.bh.toNat 0-1)]),.J 1 ((w.bV.map cp).set r.bw.bh.toNat [B true]),.J 1 (w.bt.map cp),.J 2 (w.bX.map cz.e)]:=by
 simp only[im,mx,aR.e,gx,ib];rfl
theorem Uf(w:aR)(e:Int):(mG w e).e=[.J 5 (w.queue.map aD.e),.J 5 (w.ck.map aD.e),.J 5 (w.cb.map aD.e),.J 4 (w.cells.map Cell.e),.J 1 ((w.bJ.map bb).set e.toNat [I (w.bJ.getD e.toNat 0+1)]),.J 1 (w.bV.map cp),.J 1 (w.bt.map cp),.J 2 (w.bX.map cz.e)]:=by
 simp only[mG,mx,aR.e,ib];rfl
theorem Ug(w:aR)(r:aD)(hw:w.sz<=8388608):al 101 [.agg w.e,.agg r.e] [.agg (kept w r).e]:=by
 have aL:w.queue.length<=8388608:=by grind[aR.sz]
 rw[Ab];exact ajC ⟨xU w hw,tR aL,tS aL,fA (aD.flat r),ad⟩
theorem al1(w:aR)(r:aD)(hw:w.sz<=8388608)(aJ:w.bJ.length=4)(ay:w.bV.length=4)(he:0<=r.bw.bh/\r.bw.bh<=3)(ak:-1000000<=w.bJ.getD r.bw.bh.toNat 0/\w.bJ.getD r.bw.bh.toNat 0<=1000000):
  al 107 [.agg w.e,.agg r.e] [.agg (im w r).e]:=by
 have k:=Ug w r hw;rw[Ab]at k;rw[Ue];obtain⟨s1,s2⟩:=xt aJ he;obtain⟨e0,fQ⟩:=qU ay he;have zm:(if (↑(w.bV.map cp).length:Int)<(↑(w.bJ.map bb).length:Int) then (↑(w.bV.map cp).length:Int) else (↑(w.bJ.map bb).length:Int))-1=3:=by
  grind
 exact alf ⟨k,⟨by grind,by grind⟩,hl true (by simp_all[av,c3]),rfl,he.1,s1,s2,⟨by omega,by omega⟩,he.1,s1,s2,he.1,e0,fQ,ad⟩
theorem al2(w:aR)(e:Int)(hw:w.sz<=8388608)(aJ:w.bJ.length=4)(he:0<=e/\e<=3)(ak:-1000000<=w.bJ.getD e.toNat 0/\w.bJ.getD e.toNat 0<=1000000):
  al 104 [.agg w.e,.one (I e)] [.agg (mG w e).e]:=by
 rw[Uf];obtain⟨s1,s2⟩:=xt aJ he;have zm:(↑(w.bJ.map bb).length:Int)-1=3:=by grind
 exact alp ⟨xU w hw,⟨by grind,by grind⟩,hl true (by simp_all[av,c3]),rfl,he.1,s1,s2,⟨by omega,by omega⟩,he.1,s1,s2,ad⟩
theorem al3(w:aR)(r:aD)(t:List aD)(hw:w.sz<=8388608)(h:w.ck=r::t):al 99 [.agg w.e] [.agg (il w t).e,.agg r.e,.one (B true)]:=by
 have e:(il w t).e=[.J 5 (w.queue.map aD.e),.J 5 (((w.ck.map aD.e).drop 1).take ((w.ck.map aD.e).length-1)),.J 5 (w.cb.map aD.e),.J 4 (w.cells.map Cell.e),.J 1 (w.bJ.map bb),.J 1 (w.bV.map cp),.J 1 (w.bt.map cp),.J 2 (w.bX.map cz.e)]:=by rw[uK h];rfl
 rw[e];exact akQ ⟨xU w hw,kP h,mm,mn h,mo,by omega,lF h,l3 h,ad⟩
theorem al4(g:b5)(w:aR)(ax:g.sz<=8388608)(hw:w.sz<=8388608):al 97 [.agg g.e,.agg w.e] [.agg (eI g w).1.e,.one (B (eI g w).2)]:=by
 have cx:=xU w hw;have k:=xK g ax;have kw:=Ez g w ax hw;have pW:w.cells.length<=8388608:=by grind[aR.sz]
 cases U:ev g with
 | false=>
  rw[U]at k;rw[show eI g w=(w,false) by grind[eI]];exact akR ⟨cx,k,rfl,ad⟩
 | true=>
 rw[U]at k;cases aa:eT g w with
 | false=>
  rw[aa]at kw;rw[show eI g w=(w,false) by grind[eI]];exact akS ⟨cx,k,rfl,kw,rfl,ad⟩
 | true=>
 rw[aa]at kw;have hu:eI g w=match w.ck,w.queue with
  | [],r::q=>(⟨q,(dO g w.cells r).2.1,w.cb,(dO g w.cells r).1,w.bJ,w.bV,(if dx g r then w.bt.set r.bw.bh.toNat true else w.bt),w.bX⟩,true)
  | _,_=>(w,false):=by grind[eI]
 cases aB:w.ck with
 | cons r q=>
  rw[show eI g w=(w,false) by rw[hu,aB]];exact akT ⟨cx,k,rfl,kw,rfl,sG aB,ad⟩
 | nil=>
 cases aJ:w.queue with
 | nil=>
  rw[show eI g w=(w,false) by grind];exact akU ⟨cx,k,rfl,kw,rfl,iQ aB,qc aJ,ad⟩
 | cons r q=>
  have st:=afv g w.cells r ax pW;have mV:=alX g r ax;obtain⟨c7,_,_,_,_,_,kt,_⟩:=jy.1 aa;rw[aJ,sL]at c7;have he:=qB c7.1;obtain⟨bK,ct⟩:=qU kt he;cases a6:dx g r with
  | true=>
   rw[a6]at mV;rw[show eI g w=(⟨q,(dO g w.cells r).2.1,w.cb,(dO g w.cells r).1,w.bJ,w.bV,w.bt.set r.bw.bh.toNat true,w.bX⟩,true) by grind];have e:aR.e ⟨q,(dO g w.cells r).2.1,w.cb,(dO g w.cells r).1,w.bJ,w.bV,w.bt.set r.bw.bh.toNat true,w.bX⟩=[.J 5 (((w.queue.map aD.e).drop 1).take ((w.queue.map aD.e).length-1)),.J 5 ((dO g w.cells r).2.1.map aD.e),.J 5 (w.cb.map aD.e),.J 4 ((dO g w.cells r).1.map Cell.e),.J 1 (w.bJ.map bb),.J 1 (w.bV.map cp),.J 1 ((w.bt.map cp).set r.bw.bh.toNat [B true]),.J 2 (w.bX.map cz.e)]:=by
    rw[uK aJ];simp only[aR.e,ib];rfl
   dsimp only;rw[e];exact akV ⟨cx,k,rfl,kw,rfl,iQ aB,kP aJ,by omega,lF aJ,l3 aJ,mm,mn aJ,mo,st,mV,rfl,he.1,bK,ct,ad⟩
  | false=>
   rw[a6]at mV;rw[show eI g w=(⟨q,(dO g w.cells r).2.1,w.cb,(dO g w.cells r).1,w.bJ,w.bV,w.bt,w.bX⟩,true) by grind];have e:aR.e ⟨q,(dO g w.cells r).2.1,w.cb,(dO g w.cells r).1,w.bJ,w.bV,w.bt,w.bX⟩=[.J 5 (((w.queue.map aD.e).drop 1).take ((w.queue.map aD.e).length-1)),.J 5 ((dO g w.cells r).2.1.map aD.e),.J 5 (w.cb.map aD.e),.J 4 ((dO g w.cells r).1.map Cell.e),.J 1 (w.bJ.map bb),.J 1 (w.bV.map cp),.J 1 (w.bt.map cp),.J 2 (w.bX.map cz.e)]:=by
    rw[uK aJ];rfl
   dsimp only;rw[e];exact akW ⟨cx,k,rfl,kw,rfl,iQ aB,kP aJ,by omega,lF aJ,l3 aJ,mm,mn aJ,mo,st,mV,rfl,ad⟩
theorem al5(g:b5)(w:aR)(ax:g.sz<=8388608)(hw:w.sz<=8388608):al 98 [.agg g.e,.agg w.e] [.agg (eJ g w).1.e,.one (B (eJ g w).2)]:=by
 have cx:=xU w hw;have k:=xK g ax;have kw:=Ez g w ax hw;have aL:w.queue.length<=8388608:=by grind[aR.sz]
 cases U:ev g with
 | false=>
  rw[U]at k;rw[show eJ g w=(w,false) by grind[eJ]];exact akK ⟨cx,k,rfl,ad⟩
 | true=>
 rw[U]at k;cases aa:eT g w with
 | false=>
  rw[aa]at kw;rw[show eJ g w=(w,false) by grind[eJ]];exact akL ⟨cx,k,rfl,kw,rfl,ad⟩
 | true=>
 rw[aa]at kw;have hu:eJ g w=match w.ck,w.queue,w.cb with
  | [],[],r::t=>(⟨[r],[],t,w.cells,w.bJ,w.bV,w.bt,w.bX⟩,true)
  | _,_,_=>(w,false):=by grind[eJ]
 cases aB:w.ck with
 | cons r q=>
  rw[show eJ g w=(w,false) by rw[hu,aB]];exact akM ⟨cx,k,rfl,kw,rfl,sG aB,ad⟩
 | nil=>
 cases aJ:w.queue with
 | cons r q=>
  rw[show eJ g w=(w,false) by grind];exact akN ⟨cx,k,rfl,kw,rfl,iQ aB,sG aJ,ad⟩
 | nil=>
 cases a6:w.cb with
 | nil=>
  rw[show eJ g w=(w,false) by grind];exact akO ⟨cx,k,rfl,kw,rfl,iQ aB,iQ aJ,qc a6,ad⟩
 | cons r t=>
  rw[show eJ g w=(⟨[r],[],t,w.cells,w.bJ,w.bV,w.bt,w.bX⟩,true) by grind];have e:aR.e ⟨[r],[],t,w.cells,w.bJ,w.bV,w.bt,w.bX⟩=[.J 5 (w.queue.map aD.e++[r.e]),.J 5 (w.ck.map aD.e),.J 5 (((w.cb.map aD.e).drop 1).take ((w.cb.map aD.e).length-1)),.J 4 (w.cells.map Cell.e),.J 1 (w.bJ.map bb),.J 1 (w.bV.map cp),.J 1 (w.bt.map cp),.J 2 (w.bX.map cz.e)]:=by
   rw[uK a6,aJ,aB];rfl
  dsimp only;rw[e];exact akP ⟨cx,k,rfl,kw,rfl,iQ aB,iQ aJ,kP a6,by omega,lF a6,l3 a6,tR aL,tS aL,fA (aD.flat r),mm,mn a6,mo,ad⟩
end Go.Proofs.YthfnndblgbjniaaGreatDoor
namespace Go.Proofs.YthfnndblgbjniaaGreatDoor
open Go.Sx Go.RowKit Go.Proofs.Tryz
variable{c:bi}{w:Int}
theorem Uh(h:dh c w=none):av w 0 ((↑(c.az.map aR.e).length:Int)-1)=false:=by
 grind[dh,av,cr,nR]
variable{x:aR}
theorem Ee(h:dh c w=some x):av w 0 ((↑(c.az.map aR.e).length:Int)-1)=true:=by
 obtain⟨U,aa,_⟩:=kR h;simp only[av,cr,c3];omega
variable{i:Int}
theorem xz{x:br}(h:hd c i=some x):0<=i/\i<(↑(c.bU.map br.e).length:Int)/\(c.bU.map br.e)[i.toNat]?=some x.e:=by
 obtain⟨U,aa,aB⟩:=qA h;grind
theorem xA{x:br}(h:hd c i=some x)(ao:c.sz<=8388608):x.sz<=8388608:=bi.IE ao (eQ (qA h).2.2)
theorem Mb{x:br}(h:hd c i=some x)(hw:fs c):x.de<=9223372036854775807:=hw _ (eQ (qA h).2.2)
theorem Fw(ao:c.sz<=8388608):aK .i64 ((↑(c.az.map aR.e).length:Int)-1):=by
 have:=bi.Bu ao;exact⟨by grind,by grind⟩
theorem Mc(c:bi)(w:Int)(y:aR):(setW c w y).e=[.J 4 (c.aA.nodes.map Node.e),I c.aA.az,I c.aA.cap,.J 8 ((c.az.map aR.e).set w.toNat y.e),.J 6 (c.bU.map br.e),.J 5 (c.tokens.map bW.e),.J 3 (c.news.map bR.e)]:=by grind[setW,bi.e,ib]
theorem alw(c:bi)(i:Int)(y:br):(ea c i y).e=[.J 4 (c.aA.nodes.map Node.e),I c.aA.az,I c.aA.cap,.J 8 (c.az.map aR.e),.J 6 ((c.bU.map br.e).set i.toNat y.e),.J 5 (c.tokens.map bW.e),.J 3 (c.news.map bR.e)]:=by grind[ea,bi.e,ib]
theorem Ui(c:bi)(w i:Int)(y:aR)(z:br):(setW (ea c i z) w y).e=[.J 4 (c.aA.nodes.map Node.e),I c.aA.az,I c.aA.cap,.J 8 ((c.az.map aR.e).set w.toNat y.e),.J 6 ((c.bU.map br.e).set i.toNat z.e),.J 5 (c.tokens.map bW.e),.J 3 (c.news.map bR.e)]:=by grind[setW,ea,bi.e,ib]
theorem Ac(c:bi)(w:Int)(y:aR)(b:Bool):me (setW c w y) b=[.J 4 (c.aA.nodes.map Node.e),I c.aA.az,I c.aA.cap,.J 8 ((c.az.map aR.e).set w.toNat y.e),.J 6 (c.bU.map br.e),.J 5 (c.tokens.map bW.e),.J 3 (c.news.map bR.e),B b]:=by grind[setW,me,ib]
theorem Uj(c:bi)(i:Int)(y:br)(b:Bool):me (ea c i y) b=[.J 4 (c.aA.nodes.map Node.e),I c.aA.az,I c.aA.cap,.J 8 (c.az.map aR.e),.J 6 ((c.bU.map br.e).set i.toNat y.e),.J 5 (c.tokens.map bW.e),.J 3 (c.news.map bR.e),B b]:=by grind[ea,me,ib]
theorem Md(c:bi)(w i:Int)(y:aR)(z:br)(b:Bool):me (setW (ea c i z) w y) b=[.J 4 (c.aA.nodes.map Node.e),I c.aA.az,I c.aA.cap,.J 8 ((c.az.map aR.e).set w.toNat y.e),.J 6 ((c.bU.map br.e).set i.toNat z.e),.J 5 (c.tokens.map bW.e),.J 3 (c.news.map bR.e),B b]:=by grind[setW,ea,me,ib]
theorem Me(c:bi)(w:Int)(ao:c.sz<=8388608)(hw:fs c):al 96 [.agg c.e,.one (I w)] [.one (B (cP c&&(dh c w).isSome))]:=by
 have k:=EA c ao hw;cases ok:cP c with
 | false=>rw[ok]at k;exact akX ⟨k,rfl,ad⟩
 | true=>
  rw[ok]at k;cases aq:dh c w with
  | none=>exact UM ⟨k,rfl,Fw ao,hl _ (Uh aq),ad⟩
  | some x=>exact UM ⟨k,rfl,Fw ao,hl _ (Ee aq),ad⟩
theorem Uk(c:bi)(a b:Int)(ao:c.sz<=8388608)(hw:fs c):al 105 [.agg c.e,.one (I a),.one (I b)] [.one (I (if cP c&&a != b then fg c.aA a b else -1))]:=by
 have k:=EA c ao hw;cases ok:cP c with
 | false=>rw[ok]at k;exact akY ⟨k,rfl,ad⟩
 | true=>
  rw[ok]at k;by_cases fD:a=b
  ·rw[show (true&&a != b)=false by simp[fD]];exact akZ ⟨k,rfl,by simp[fD],ad⟩
  rw[show (true&&a != b)=true by simp[fD],bL rfl];exact ak0 ⟨k,rfl,by simp[fD],Ud c.aA a b (mc (hL.1 ok).1),ad⟩
theorem alx(c:bi)(w:Int)(ao:c.sz<=8388608)(hw:fs c):al 57 [.agg c.e,.one (I w)] [.agg (iS c w).1.e,.one (B (iS c w).2)]:=by
 have cx:=sM c ao;have k:=Me c w ao hw;cases ok:cP c with
 | false=>
  rw[ok]at k;rw[show iS c w=(c,false) by grind[iS]];exact UK ⟨cx,k,rfl,ad⟩
 | true=>
 cases aq:dh c w with
 | none=>
  rw[ok,aq]at k;rw[show iS c w=(c,false) by grind[iS]];exact UK ⟨cx,k,rfl,ad⟩
 | some x=>
  rw[ok,aq]at k;obtain⟨cV,c4,cj⟩:=lE aq;rw[show iS c w=(setW c w (eI c.aA x).1,(eI c.aA x).2) by grind[iS]];dsimp only;rw[Mc];exact ale ⟨cx,k,rfl,cV,c4,cj,al4 c.aA x (bi.mX ao) (l2 aq ao),cV,c4,cj,ad⟩
theorem aly(c:bi)(w:Int)(ao:c.sz<=8388608)(hw:fs c):al 58 [.agg c.e,.one (I w)] [.agg (iT c w).1.e,.one (B (iT c w).2)]:=by
 have cx:=sM c ao;have k:=Me c w ao hw;cases ok:cP c with
 | false=>
  rw[ok]at k;rw[show iT c w=(c,false) by grind[iT]];exact UH ⟨cx,k,rfl,ad⟩
 | true=>
 cases aq:dh c w with
 | none=>
  rw[ok,aq]at k;rw[show iT c w=(c,false) by grind[iT]];exact UH ⟨cx,k,rfl,ad⟩
 | some x=>
  rw[ok,aq]at k;obtain⟨cV,c4,cj⟩:=lE aq;rw[show iT c w=(setW c w (eJ c.aA x).1,(eJ c.aA x).2) by grind[iT]];dsimp only;rw[Mc];exact ak7 ⟨cx,k,rfl,cV,c4,cj,al5 c.aA x (bi.mX ao) (l2 aq ao),cV,c4,cj,ad⟩
theorem Ef(ok:cP c=true)(aq:dh c w=some x):x.bJ.length=4/\x.bV.length=4/\x.bt.length=4/\(∀e:Int,0<=e/\e<=3->-1000000<=x.bJ.getD e.toNat 0/\x.bJ.getD e.toNat 0<=1000000):=by
 obtain⟨_,_,_,_,j',od,kt,_,sw,_⟩:=jy.1 (l1 ok aq);refine⟨j',od,kt,fun e he=>?_⟩;have ar:e.toNat<x.bJ.length:=by omega
 rw[hW]at sw;have:=sw _ (oP ar);rw[kY,iB ar,kZ];simpa only[nD,i',lf,av,c3,uV,Bool.not_not,Bool.not_eq_eq_eq_not,ja,nR,Classical.not_not]using this
variable{r:aD}{t:List aD}
theorem Ul(ok:cP c=true)(aq:dh c w=some x)(ak:x.ck=r::t):iU c w=uC c w x r t (jx r.key c.aA.az):=by
 simp_all[iU,bL]
theorem Um{o:Int}(h:o=w):uC c w x r t o=(setW c w (kept (il x t) r),true):=bL h
variable{l:br}
theorem Un{o:Int}(h:o≠w)(ar:hd c (fg c.aA w o)=some l):uC c w x r t o=if (et l r).2 then (setW (ea c (fg c.aA w o) (et l r).1) w (mG (il x t) r.bw.bh),true) else (c,false):=by
 simp_all[uC,bH]
theorem alz(c:bi)(w:Int)(ao:c.sz<=8388608)(hw:fs c):al 59 [.agg c.e,.one (I w)] [.agg (iU c w).1.e,.one (B (iU c w).2)]:=by
 have cx:=sM c ao;have k:=Me c w ao hw;cases ok:cP c with
 | false=>
  rw[ok]at k;rw[show iU c w=(c,false) by grind[iU]];exact UI ⟨cx,k,rfl,ad⟩
 | true=>
 cases aq:dh c w with
 | none=>
  rw[ok,aq]at k;rw[show iU c w=(c,false) by grind[iU]];exact UI ⟨cx,k,rfl,ad⟩
 | some x=>
 rw[ok,aq]at k;obtain⟨cV,c4,cj⟩:=lE aq;have a':=mc (hL.1 ok).1;cases ak:x.ck with
 | nil=>
  rw[show iU c w=(c,false) by simp_all[iU,bL]];exact ak8 ⟨cx,k,rfl,cV,c4,cj,qc ak,ad⟩
 | cons r t=>
  have dI:=l2 aq ao;have gg:(il x t).sz<=8388608:=by grind[Lb]
  have un:=al3 x r t dI ak;have po:=afu r.key c.aA.az (by omega);have aH:=(ED (l1 ok aq) ak).2;have he:=qB aH;obtain⟨f4,_,_,eG⟩:=Ef ok aq;rw[Ul ok aq ak];have xx:=Td r.key a'.1;generalize jx r.key c.aA.az=o at po xx;by_cases how:o=w
  ·rw[Um how];dsimp only;rw[Mc];exact ak9 ⟨cx,k,rfl,cV,c4,cj,kP ak,cV,c4,cj,un,po,by grind,Ug (il x t) r gg,cV,c4,cj,ad⟩
  have q0:(o==w)=false:=by grind
  have win:av w 0 (c.aA.az-1)=true:=by
   have:=Ee aq;rwa[cr,(hL.1 ok).2.1]at this
  obtain⟨l,ar⟩:=xX ok win xx;obtain⟨ka,kb,kc⟩:=xz ar;have aT:=Ud c.aA w o a';have kj:=alY l r (xA ar ao) (Mb ar hw);rw[Un how ar];cases bF:(et l r).2 with
  | false=>
   rw[bF]at kj;exact ala ⟨cx,k,rfl,cV,c4,cj,kP ak,cV,c4,cj,un,po,q0,aT,ka,kb,kc,kj,rfl,ad⟩
  | true=>
   rw[bF]at kj;rw[bL rfl];dsimp only;rw[Ui];exact alb ⟨cx,k,rfl,cV,c4,cj,kP ak,cV,c4,cj,un,po,q0,aT,ka,kb,kc,kj,rfl,ka,kb,kc,al2 (il x t) r.bw.bh gg f4 he (eG _ he),cV,c4,cj,ad⟩
variable{a b:Int}
theorem Eg(h:(av a 0 (c.aA.az-1)&&av b 0 (c.aA.az-1))=false):hd c (fg c.aA a b)=none:=by
 rw[uG h];rfl
theorem Uo(ok:cP c=true)(fD:a≠b)(ar:hd c (fg c.aA a b)=some l)(aq:dh c b=some x):jU c a b=if (d' l).2.2 then (setW (ea c (fg c.aA a b) (d' l).1) b (im x (d' l).2.1),true) else (c,false):=by
 simp_all[jU,bL]
theorem Up(ok:cP c=true)(fD:a≠b)(ar:hd c (fg c.aA a b)=some l):iV c a b=(ea c (fg c.aA a b) (fB l).1,(fB l).2):=by
 simp_all[iV,bL]
theorem alA(c:bi)(a b:Int)(ao:c.sz<=8388608)(hw:fs c):al 60 [.agg c.e,.one (I a),.one (I b)] [.agg (jU c a b).1.e,.one (B (jU c a b).2)]:=by
 have cx:=sM c ao;have k:=Uk c a b ao hw;cases U:(cP c&&a != b) with
 | false=>
  rw[U,bH (by decide)]at k;rw[show jU c a b=(c,false) by grind[jU]];exact UJ ⟨cx,k,dm (by decide),ad⟩
 | true=>
 rw[U,bL rfl]at k;rw[cH]at U;obtain⟨ok,fD⟩:=U;have fD:a≠b:=by grind
 have a':=mc (hL.1 ok).1;cases bD:(av a 0 (c.aA.az-1)&&av b 0 (c.aA.az-1)) with
 | false=>
  rw[uG bD]at k;rw[show jU c a b=(c,false) by grind[jU,Eg]];exact UJ ⟨cx,k,dm (by decide),ad⟩
 | true=>
 rw[cH]at bD;obtain⟨l,ar⟩:=xX ok bD.1 bD.2;obtain⟨x,aq⟩:∃x,dh c b=some x:=by
  have ay:=bD.2;have:=(hL.1 ok).2.1;simp only[av,c3]at ay;grind[AE]
 obtain⟨ka,kb,kc⟩:=xz ar;obtain⟨cV,c4,cj⟩:=lE aq;have rM:=alZ l (xA ar ao) (Mb ar hw);rw[Uo ok fD ar aq];cases bF:(d' l).2.2 with
 | false=>
  rw[bF]at rM;exact alc ⟨cx,k,dX (by omega),ka,kb,kc,rM,rfl,ad⟩
 | true=>
  rw[bF]at rM;have he:=qB (EH (xP ok ar) bF).2;obtain⟨f4,GM,_,eG⟩:=Ef ok aq;rw[bL rfl];dsimp only;rw[Ui];exact ald ⟨cx,k,dX (by omega),ka,kb,kc,rM,rfl,ka,kb,kc,cV,c4,cj,al1 x _ (l2 aq ao) f4 GM he (eG _ he),cV,c4,cj,ad⟩
theorem alB(c:bi)(a b:Int)(ao:c.sz<=8388608)(hw:fs c):al 61 [.agg c.e,.one (I a),.one (I b)] [.agg (iV c a b).1.e,.one (B (iV c a b).2)]:=by
 have cx:=sM c ao;have k:=Uk c a b ao hw;cases U:(cP c&&a != b) with
 | false=>
  rw[U,bH (by decide)]at k;rw[show iV c a b=(c,false) by grind[iV]];exact UG ⟨cx,k,dm (by decide),ad⟩
 | true=>
 rw[U,bL rfl]at k;rw[cH]at U;obtain⟨ok,fD⟩:=U;have fD:a≠b:=by grind
 cases bD:(av a 0 (c.aA.az-1)&&av b 0 (c.aA.az-1)) with
 | false=>
  rw[uG bD]at k;rw[show iV c a b=(c,false) by grind[iV,Eg]];exact UG ⟨cx,k,dm (by decide),ad⟩
 | true=>
 rw[cH]at bD;obtain⟨l,ar⟩:=xX ok bD.1 bD.2;obtain⟨ka,kb,kc⟩:=xz ar;rw[Up ok fD ar];dsimp only;rw[alw];exact ak6 ⟨cx,k,dX (by omega),ka,kb,kc,al0 l (xA ar ao) (Mb ar hw),ka,kb,kc,ad⟩
theorem Mf(c:bi)(w:Int)(ao:c.sz<=8388608):b3 prog 155 [.ref (fC c) (fC c),.ro (.one (I w))] (.vals [.one (B (cP c&&(dh c w).isSome))]):=by
 unfold fC;cases ok:cP c with
 | false=>exact aml ⟨rfl,ad⟩
 | true=>
  cases aq:dh c w with
  | none=>exact US ⟨rfl,Fw ao,fM _ _ _ _ (Uh aq),ad⟩
  | some x=>exact US ⟨rfl,Fw ao,fM _ _ _ _ (Ee aq),ad⟩
def Fs(x:aR)(e d:Int):aR:=⟨x.queue,x.ck,x.cb,x.cells,mx x.bJ e d,x.bV,x.bt,x.bX⟩
theorem Uq(w:aR)(e d:Int):(Fs w e d).e=[.J 5 (w.queue.map aD.e),.J 5 (w.ck.map aD.e),.J 5 (w.cb.map aD.e),.J 4 (w.cells.map Cell.e),.J 1 ((w.bJ.map bb).set e.toNat [I (w.bJ.getD e.toNat 0+d)]),.J 1 (w.bV.map cp),.J 1 (w.bt.map cp),.J 2 (w.bX.map cz.e)]:=by
 simp only[Fs,mx,aR.e,ib];rfl
theorem Ur(c:bi)(w e d:Int)(x:aR)(aq:dh c w=some x)(aJ:x.bJ.length=4)(he:0<=e/\e<=3)(aI:-1<=d/\d<=1)(ak:-1000000<=x.bJ.getD e.toNat 0/\x.bJ.getD e.toNat 0<=1000000):
  b3 prog 161 [.ref (me c true) (me (setW c w (Fs x e d)) (av (x.bJ.getD e.toNat 0+d) (-1000000) 1000000)),.ro (.one (I w)),.ro (.one (I e)),.ro (.one (I d))] (.vals []):=by
 obtain⟨cV,c4,cj⟩:=lE aq;obtain⟨s1,s2⟩:=xt aJ he;rw[Ac,Uq];exact amq ⟨cV,c4,cj,cV,c4,cj,he.1,s1,s2,⟨by omega,by omega⟩,he.1,s1,s2,cj,rfl,rfl,rfl,rfl,rfl,cV,by grind,hv cV c4,he.1,by grind,hv he.1 s1,h3 _ _ _,ad⟩
theorem alC(c:bi)(w:Int)(ao:c.sz<=8388608):b3 prog 110 [.ref (fC c) (fC (iS c w).1),.ro (.one (I w))] (.vals [.one (B (iS c w).2)]):=by
 have post:=fun h=>ajg (c:=c) (w:=w) h
 have is:=Mf c w ao;cases ok:cP c with
 | false=>
  rw[ok]at is;rw[show iS c w=(c,false) by grind[iS]];exact UU ⟨is,rfl,ad⟩
 | true=>
 replace post:=post ok;cases aq:dh c w with
 | none=>
  rw[ok,aq]at is;rw[show iS c w=(c,false) by grind[iS]];exact UU ⟨is,rfl,ad⟩
 | some x=>
 rw[ok,aq]at is;obtain⟨cV,c4,cj⟩:=lE aq;have dI:=l2 aq ao;have X4:=(hL.1 ok).1;have VT:=l1 ok aq;have hu:eI c.aA x=match x.ck,x.queue with
  | [],r::q=>(⟨q,(dO c.aA x.cells r).2.1,x.cb,(dO c.aA x.cells r).1,x.bJ,x.bV,(if dx c.aA r then x.bt.set r.bw.bh.toNat true else x.bt),x.bX⟩,true)
  | _,_=>(x,false):=by grind[eI]
 have sF:iS c w=(setW c w (eI c.aA x).1,(eI c.aA x).2):=by grind[iS]
 cases aB:x.ck with
 | cons r q=>
  rw[sF,show eI c.aA x=(x,false) by rw[hu,aB]];dsimp only;rw[sK aq];exact alG ⟨is,rfl,cV,c4,cj,sG aB,ad⟩
 | nil=>
 cases aJ:x.queue with
 | nil=>
  rw[sF,show eI c.aA x=(x,false) by grind];dsimp only;rw[sK aq];exact alH ⟨is,rfl,cV,c4,cj,iQ aB,qc aJ,ad⟩
 | cons r q=>
  have pW:x.cells.length<=8388608:=by grind[aR.sz]
  have lY:x.queue.length<=8388608:=by grind[aR.sz]
  have ax:=bi.mX ao;have st:=R7 c.aA x.cells r ax pW;have mV:=R8 c.aA r ax;obtain⟨c7,_,_,_,_,_,kt,_⟩:=jy.1 VT;rw[aJ,sL]at c7;have he:=qB c7.1;obtain⟨bK,ct⟩:=qU kt he;unfold fC at is ⊢;rw[post];rw[ok]at is ⊢;cases a6:dx c.aA r with
  | true=>
   rw[a6]at mV;rw[sF,show eI c.aA x=(⟨q,(dO c.aA x.cells r).2.1,x.cb,(dO c.aA x.cells r).1,x.bJ,x.bV,x.bt.set r.bw.bh.toNat true,x.bX⟩,true) by grind];have e:aR.e ⟨q,(dO c.aA x.cells r).2.1,x.cb,(dO c.aA x.cells r).1,x.bJ,x.bV,x.bt.set r.bw.bh.toNat true,x.bX⟩=[.J 5 ([]++((x.queue.map aD.e).drop 1).take ((x.queue.map aD.e).length-1)),.J 5 ((dO c.aA x.cells r).2.1.map aD.e),.J 5 (x.cb.map aD.e),.J 4 ((dO c.aA x.cells r).1.map Cell.e),.J 1 (x.bJ.map bb),.J 1 (x.bV.map cp),.J 1 ((x.bt.map cp).set r.bw.bh.toNat [B true]),.J 2 (x.bX.map cz.e)]:=by
    rw[sO aJ];simp only[aR.e,ib];rfl
   dsimp only;rw[Ac,e];have key:=alI ⟨is,rfl,cV,c4,cj,iQ aB,kP aJ,by omega,lF aJ,l3 aJ,st,mm,mn aJ,mo,rE aJ lY,rF aJ lY,rG aJ,mV,rfl,he.1,bK,ct,cj,rfl,rfl,rfl,rfl,cV,by grind,hv cV c4,rfl,rfl,rfl,rfl,rfl,ad⟩;simp only[pB]at key;exact key
  | false=>
   rw[a6]at mV;rw[sF,show eI c.aA x=(⟨q,(dO c.aA x.cells r).2.1,x.cb,(dO c.aA x.cells r).1,x.bJ,x.bV,x.bt,x.bX⟩,true) by grind];have e:aR.e ⟨q,(dO c.aA x.cells r).2.1,x.cb,(dO c.aA x.cells r).1,x.bJ,x.bV,x.bt,x.bX⟩=[.J 5 ([]++((x.queue.map aD.e).drop 1).take ((x.queue.map aD.e).length-1)),.J 5 ((dO c.aA x.cells r).2.1.map aD.e),.J 5 (x.cb.map aD.e),.J 4 ((dO c.aA x.cells r).1.map Cell.e),.J 1 (x.bJ.map bb),.J 1 (x.bV.map cp),.J 1 (x.bt.map cp),.J 2 (x.bX.map cz.e)]:=by
    rw[sO aJ];rfl
   dsimp only;rw[Ac,e];exact alJ ⟨is,rfl,cV,c4,cj,iQ aB,kP aJ,by omega,lF aJ,l3 aJ,st,mm,mn aJ,mo,rE aJ lY,rF aJ lY,rG aJ,mV,rfl,cV,c4,cj,rfl,rfl,rfl,rfl,rfl,ad⟩
theorem alD(c:bi)(w:Int)(ao:c.sz<=8388608):b3 prog 111 [.ref (fC c) (fC (iT c w).1),.ro (.one (I w))] (.vals [.one (B (iT c w).2)]):=by
 have post:=fun h=>ajh (c:=c) (w:=w) h
 have is:=Mf c w ao;cases ok:cP c with
 | false=>
  rw[ok]at is;rw[show iT c w=(c,false) by grind[iT]];exact UR ⟨is,rfl,ad⟩
 | true=>
 replace post:=post ok;cases aq:dh c w with
 | none=>
  rw[ok,aq]at is;rw[show iT c w=(c,false) by grind[iT]];exact UR ⟨is,rfl,ad⟩
 | some x=>
 rw[ok,aq]at is;obtain⟨cV,c4,cj⟩:=lE aq;have dI:=l2 aq ao;have X4:=(hL.1 ok).1;have VT:=l1 ok aq;have jL:x.cb.length<=8388608:=by grind[aR.sz]
 have hu:eJ c.aA x=match x.ck,x.queue,x.cb with
  | [],[],r::t=>(⟨[r],[],t,x.cells,x.bJ,x.bV,x.bt,x.bX⟩,true)
  | _,_,_=>(x,false):=by grind[eJ]
 have sF:iT c w=(setW c w (eJ c.aA x).1,(eJ c.aA x).2):=by grind[iT]
 cases aB:x.ck with
 | cons r q=>
  rw[sF,show eJ c.aA x=(x,false) by rw[hu,aB]];dsimp only;rw[sK aq];exact amh ⟨is,rfl,cV,c4,cj,sG aB,ad⟩
 | nil=>
 cases aJ:x.queue with
 | cons r q=>
  rw[sF,show eJ c.aA x=(x,false) by grind];dsimp only;rw[sK aq];exact ami ⟨is,rfl,cV,c4,cj,iQ aB,sG aJ,ad⟩
 | nil=>
 cases a6:x.cb with
 | nil=>
  rw[sF,show eJ c.aA x=(x,false) by grind];dsimp only;rw[sK aq];exact amj ⟨is,rfl,cV,c4,cj,iQ aB,iQ aJ,qc a6,ad⟩
 | cons r t=>
  unfold fC at is ⊢;rw[post];rw[ok]at is ⊢;rw[sF,show eJ c.aA x=(⟨[r],[],t,x.cells,x.bJ,x.bV,x.bt,x.bX⟩,true) by grind];have e:aR.e ⟨[r],[],t,x.cells,x.bJ,x.bV,x.bt,x.bX⟩=[.J 5 ([r.e]),.J 5 (x.ck.map aD.e),.J 5 ([]++((x.cb.map aD.e).drop 1).take ((x.cb.map aD.e).length-1)),.J 4 (x.cells.map Cell.e),.J 1 (x.bJ.map bb),.J 1 (x.bV.map cp),.J 1 (x.bt.map cp),.J 2 (x.bX.map cz.e)]:=by
   rw[sO a6,aB];rfl
  dsimp only;rw[Ac,e];exact amk ⟨is,rfl,cV,c4,cj,iQ aB,iQ aJ,kP a6,by omega,lF a6,l3 a6,mm,mn a6,mo,rE a6 jL,rF a6 jL,rG a6,cV,c4,cj,rfl,rfl,rfl,rfl,rfl,rfl,ad⟩
theorem alE(c:bi)(w:Int)(ao:c.sz<=8388608):b3 prog 112 [.ref (fC c) (fC (iU c w).1),.ro (.one (I w))] (.vals [.one (B (iU c w).2)]):=by
 have is:=Mf c w ao;cases ok:cP c with
 | false=>
  rw[ok]at is;rw[show iU c w=(c,false) by grind[iU]];exact UT ⟨is,rfl,ad⟩
 | true=>
 cases aq:dh c w with
 | none=>
  rw[ok,aq]at is;rw[show iU c w=(c,false) by grind[iU]];exact UT ⟨is,rfl,ad⟩
 | some x=>
 rw[ok,aq]at is;obtain⟨cV,c4,cj⟩:=lE aq;have dI:=l2 aq ao;have a':=mc (hL.1 ok).1;cases ak:x.ck with
 | nil=>
  rw[show iU c w=(c,false) by simp_all[iU,bL]];exact amm ⟨is,rfl,cV,c4,cj,qc ak,ad⟩
 | cons r t=>
  have po:=R6 r.key c.aA.az (by omega);have aH:=(ED (l1 ok aq) ak).2;have he:=qB aH;have lY:x.queue.length<=8388608:=by grind[aR.sz]
  have pa:x.ck.length<=8388608:=by grind[aR.sz]
  obtain⟨f4,_,_,eG⟩:=Ef ok aq;rw[Ul ok aq ak];have xx:=Td r.key a'.1;generalize jx r.key c.aA.az=o at po xx;by_cases how:o=w
  ·have q0:(o != w)=false:=by simp[how]
   rw[Um how];unfold fC at is ⊢;dsimp only;rw[aje ok aq ak];rw[ok]at is ⊢;have e:(kept (il x t) r).e=[.J 5 (x.queue.map aD.e++[r.e]),.J 5 ([]++((x.ck.map aD.e).drop 1).take ((x.ck.map aD.e).length-1)),.J 5 (x.cb.map aD.e),.J 4 (x.cells.map Cell.e),.J 1 (x.bJ.map bb),.J 1 (x.bV.map cp),.J 1 (x.bt.map cp),.J 2 (x.bX.map cz.e)]:=by
    rw[sO ak,Ab];rfl
   rw[Ac,e];have key:=amp ⟨is,rfl,cV,c4,cj,kP ak,cV,c4,cj,by omega,lF ak,l3 ak,po,q0,cV,c4,cj,tR lY,tS lY,cj,rfl,fA (aD.flat r),rfl,rfl,rfl,rfl,rfl,rfl,rfl,rfl,rfl,rfl,rfl,rfl,rfl,cV,c4,cj,rfl,cV,by grind,hv cV c4,mm,mn ak,mo,rE ak pa,rF ak pa,rG ak,cV,by grind,hv cV c4,ad⟩;simp only[pB]at key;exact key
  have q0:(o != w)=true:=by simp[how]
  have win:av w 0 (c.aA.az-1)=true:=by
   have:=Ee aq;rwa[cr,(hL.1 ok).2.1]at this
  obtain⟨l,ar⟩:=xX ok win xx;obtain⟨ka,kb,kc⟩:=xz ar;have aT:=Ma c.aA w o a';have kj:=UY l r (xA ar ao);have aad:=fun h=>ajd ok aq ak xx how ar h
  rw[Un how ar];cases bF:(et l r).2 with
  | false=>
   rw[bF]at kj;exact amn ⟨is,rfl,cV,c4,cj,kP ak,cV,c4,cj,by omega,lF ak,l3 ak,po,q0,aT,ka,kb,kc,kj,rfl,ad⟩
  | true=>
   rw[bF]at kj;rw[bL rfl];unfold fC at is ⊢;dsimp only;rw[aad bF];rw[ok]at is ⊢;have wE:=Ur (ea c (fg c.aA w o) (et l r).1) w r.bw.bh 1 x (AF.trans aq) f4 he (by omega) (eG _ he);rw[Uj,Md,Uq]at wE;have e:(mG (il x t) r.bw.bh).e=[.J 5 (x.queue.map aD.e),.J 5 ([]++((x.ck.map aD.e).drop 1).take ((x.ck.map aD.e).length-1)),.J 5 (x.cb.map aD.e),.J 4 (x.cells.map Cell.e),.J 1 ((x.bJ.map bb).set r.bw.bh.toNat [I (x.bJ.getD r.bw.bh.toNat 0+1)]),.J 1 (x.bV.map cp),.J 1 (x.bt.map cp),.J 2 (x.bX.map cz.e)]:=by
    rw[sO ak,Uf];rfl
   rw[Md,e];have key:=amo ⟨is,rfl,cV,c4,cj,kP ak,cV,c4,cj,by omega,lF ak,l3 ak,po,q0,aT,ka,kb,kc,kj,rfl,ka,kb,kc,wE,cV,by grind,hv cV c4,mm,mn ak,mo,rE ak pa,rF ak pa,rG ak,cV,by grind,hv cV c4,ad⟩;simp only[pB]at key;exact key
theorem alF(c:bi)(a b:Int)(ao:c.sz<=8388608):b3 prog 113 [.ref (fC c) (fC (jU c a b).1),.ro (.one (I a)),.ro (.one (I b))] (.vals [.one (B (jU c a b).2)]):=by
 cases ok:cP c with
 | false=>
  rw[show jU c a b=(c,false) by grind[jU]];obtain⟨v,aT⟩:=Uc c.aA a b;unfold fC;rw[ok];exact amr ⟨aT,rfl,ad⟩
 | true=>
 have a':=mc (hL.1 ok).1;have aT:=Ma c.aA a b a';cases bD:(av a 0 (c.aA.az-1)&&av b 0 (c.aA.az-1)) with
 | false=>
  rw[uG bD]at aT;rw[show jU c a b=(c,false) by grind[jU,Eg]];unfold fC;rw[ok];exact ams ⟨aT,rfl,dm (by decide),ad⟩
 | true=>
 rw[cH]at bD;obtain⟨l,ar⟩:=xX ok bD.1 bD.2;obtain⟨ka,kb,kc⟩:=xz ar;by_cases fD:a=b
 ·rw[show jU c a b=(c,false) by grind[jU]];unfold fC;rw[ok];exact amt ⟨aT,rfl,dX (by omega),by simp[fD],ad⟩
 have q0:(a==b)=false:=by simp[fD]
 obtain⟨x,aq⟩:∃x,dh c b=some x:=by
  have ay:=bD.2;have:=(hL.1 ok).2.1;simp only[av,c3]at ay;grind[AE]
 obtain⟨cV,c4,cj⟩:=lE aq;have dI:=l2 aq ao;have rM:=UZ l (xA ar ao);have aag:=fun h=>ajf ok ar aq h
 rw[Uo ok fD ar aq];unfold fC;cases bF:(d' l).2.2 with
 | false=>
  rw[bF]at rM;rw[bH (by decide)];dsimp only;rw[ok];exact amu ⟨aT,rfl,dX (by omega),q0,ka,kb,kc,rM,rfl,ad⟩
 | true=>
  rw[bF]at rM;rw[bL rfl];dsimp only;rw[aag bF,ok];have aH:=(EH (xP ok ar) bF).2;have he:=qB aH;generalize (d' l).2.1=r at rM aH he ⊢;obtain⟨f4,GM,_,eG⟩:=Ef ok aq;have lY:x.queue.length<=8388608:=by grind[aR.sz]
  obtain⟨e0,fQ⟩:=qU GM he;have jO:dh (setW (ea c (fg c.aA a b) (d' l).1) b ⟨x.queue++[r],x.ck,x.cb,x.cells,x.bJ,x.bV.set r.bw.bh.toNat true,x.bt,x.bX⟩) b=some ⟨x.queue++[r],x.ck,x.cb,x.cells,x.bJ,x.bV.set r.bw.bh.toNat true,x.bt,x.bX⟩:=by
   obtain⟨q1,iR,_⟩:=kR aq;simp_all[dh,setW,ea,bL]
  have wE:=Ur _ b r.bw.bh (-1) _ jO f4 he (by omega) (eG _ he);rw[Md]at wE;have e2:aR.e ⟨x.queue++[r],x.ck,x.cb,x.cells,x.bJ,x.bV.set r.bw.bh.toNat true,x.bt,x.bX⟩=[.J 5 (x.queue.map aD.e++[r.e]),.J 5 (x.ck.map aD.e),.J 5 (x.cb.map aD.e),.J 4 (x.cells.map Cell.e),.J 1 (x.bJ.map bb),.J 1 ((x.bV.map cp).set r.bw.bh.toNat [B true]),.J 1 (x.bt.map cp),.J 2 (x.bX.map cz.e)]:=by
   simp only[aR.e,gx,ib];rfl
  rw[e2,<-pB]at wE;rw[show setW (setW (ea c (fg c.aA a b) (d' l).1) b ⟨x.queue++[r],x.ck,x.cb,x.cells,x.bJ,x.bV.set r.bw.bh.toNat true,x.bt,x.bX⟩) b (Fs ⟨x.queue++[r],x.ck,x.cb,x.cells,x.bJ,x.bV.set r.bw.bh.toNat true,x.bt,x.bX⟩ r.bw.bh (-1))=setW (ea c (fg c.aA a b) (d' l).1) b (im x r) by unfold setW ea;simp only[pB];rfl]at wE;exact amv ⟨aT,rfl,dX (by omega),q0,ka,kb,kc,rM,rfl,ka,kb,kc,cV,c4,cj,tR lY,tS lY,cj,rfl,fA (aD.flat r),rfl,rfl,rfl,rfl,rfl,rfl,rfl,cV,c4,cj,rfl,cV,by grind,hv cV c4,he.1,e0,fQ,hv cV c4,rfl,rfl,wE,ad⟩
theorem am6(c:bi)(a b:Int)(ao:c.sz<=8388608):b3 prog 114 [.ref (fC c) (fC (iV c a b).1),.ro (.one (I a)),.ro (.one (I b))] (.vals [.one (B (iV c a b).2)]):=by
 have post:=fun h=>aji (c:=c) (a:=a) (b:=b) h
 cases ok:cP c with
 | false=>
  rw[show iV c a b=(c,false) by grind[iV]];obtain⟨v,aT⟩:=Uc c.aA a b;unfold fC;rw[ok];exact amd ⟨aT,rfl,ad⟩
 | true=>
 replace post:=post ok;have a':=mc (hL.1 ok).1;have aT:=Ma c.aA a b a';unfold fC;rw[post,ok];cases bD:(av a 0 (c.aA.az-1)&&av b 0 (c.aA.az-1)) with
 | false=>
  rw[uG bD]at aT;rw[show iV c a b=(c,false) by grind[iV,Eg]];exact ame ⟨aT,rfl,dm (by decide),ad⟩
 | true=>
 rw[cH]at bD;obtain⟨l,ar⟩:=xX ok bD.1 bD.2;obtain⟨ka,kb,kc⟩:=xz ar;by_cases fD:a=b
 ·rw[show iV c a b=(c,false) by grind[iV]];exact amf ⟨aT,rfl,dX (by omega),by simp[fD],ad⟩
 rw[Up ok fD ar];dsimp only;rw[Uj];exact amg ⟨aT,rfl,dX (by omega),by simp[fD],ka,kb,kc,T' l (xA ar ao),ka,kb,kc,ad⟩
theorem Mg(c:bi)(p:cf)(ao:c.sz<=8388608):b3 prog 63 [.ref (fC c) (fC (dC c p).1),.ro (.agg p.e)] (.vals [.one (B (dC c p).2)]):=by
 by_cases U:p.kind=1
 ·rw[show dC c p=iS c p.a by grind[dC]];exact alK ⟨by grind,alC c p.a ao,ad⟩
 have hI:(p.kind==1)=false:=by grind
 by_cases aa:p.kind=2
 ·rw[show dC c p=iT c p.a by grind[dC]];exact alL ⟨hI,by grind,alD c p.a ao,ad⟩
 have ih:(p.kind==2)=false:=by grind
 by_cases aB:p.kind=3
 ·rw[show dC c p=iU c p.a by grind[dC]];exact alM ⟨hI,ih,by grind,alE c p.a ao,ad⟩
 have kd:(p.kind==3)=false:=by grind
 by_cases aJ:p.kind=4
 ·rw[show dC c p=jU c p.a p.b by grind[dC]];exact alN ⟨hI,ih,kd,by grind,alF c p.a p.b ao,ad⟩
 have iN:(p.kind==4)=false:=by grind
 by_cases a6:p.kind=5
 ·rw[show dC c p=iV c p.a p.b by grind[dC]];exact alO ⟨hI,ih,kd,iN,by grind,am6 c p.a p.b ao,ad⟩
 have kx:(p.kind==5)=false:=by grind
 by_cases bF:p.kind=6
 ·rw[show dC c p=h9 c p.a by grind[dC]];exact alP ⟨hI,ih,kd,iN,kx,by grind,aiP c p.a ao,ad⟩
 have n6:(p.kind==6)=false:=by grind
 by_cases bY:p.kind=7
 ·rw[show dC c p=jV c p.a by grind[dC]];exact alQ ⟨hI,ih,kd,iN,kx,n6,by grind,aiF c p.a ao,ad⟩
 have sB:(p.kind==7)=false:=by grind
 rw[show dC c p=(c,false) by grind[dC]];exact alR ⟨hI,ih,kd,iN,kx,n6,sB,ad⟩
theorem Us(c:bi)(p:cf)(ao:c.sz<=8388608)(hw:fs c):al 23 [.agg c.e,.agg p.e] [.agg (dC c p).1.e,.one (B (dC c p).2)]:=by
 by_cases U:p.kind=1
 ·rw[show dC c p=iS c p.a by grind[dC]];exact alq ⟨by grind,alx c p.a ao hw,ad⟩
 have hI:(p.kind==1)=false:=by grind
 by_cases aa:p.kind=2
 ·rw[show dC c p=iT c p.a by grind[dC]];exact alr ⟨hI,by grind,aly c p.a ao hw,ad⟩
 have ih:(p.kind==2)=false:=by grind
 by_cases aB:p.kind=3
 ·rw[show dC c p=iU c p.a by grind[dC]];exact als ⟨hI,ih,by grind,alz c p.a ao hw,ad⟩
 have kd:(p.kind==3)=false:=by grind
 by_cases aJ:p.kind=4
 ·rw[show dC c p=jU c p.a p.b by grind[dC]];exact alu ⟨hI,ih,kd,by grind,alA c p.a p.b ao hw,ad⟩
 have iN:(p.kind==4)=false:=by grind
 by_cases a6:p.kind=5
 ·rw[show dC c p=iV c p.a p.b by grind[dC]];exact alv ⟨hI,ih,kd,iN,by grind,alB c p.a p.b ao hw,ad⟩
 have kx:(p.kind==5)=false:=by grind
 by_cases bF:p.kind=6
 ·rw[show dC c p=h9 c p.a by grind[dC]];exact akE ⟨hI,ih,kd,iN,kx,by grind,aiS c p.a ao hw,ad⟩
 have n6:(p.kind==6)=false:=by grind
 by_cases bY:p.kind=7
 ·rw[show dC c p=jV c p.a by grind[dC]];exact akF ⟨hI,ih,kd,iN,kx,n6,by grind,aiG c p.a ao hw,ad⟩
 have sB:(p.kind==7)=false:=by grind
 rw[show dC c p=(c,false) by grind[dC]];exact akG ⟨hI,ih,kd,iN,kx,n6,sB,sM c ao,ad⟩
theorem Ut(c:bi)(p:cf)(ao:c.sz<=8388608)(hw:fs c):al 24 [.agg c.e,.agg p.e] [.agg (dC c p).1.e,.one (B (dC c p).2)]:=
 al9 ⟨EL c ao hw,Mg c p ao,ad⟩
end Go.Proofs.YthfnndblgbjniaaGreatDoor
namespace Go.Proofs.YthfnndblgbjniaaGreatDoor
open Go.Sx Go.RowKit Go.Proofs.Tryz
theorem Uu(l:br)(r:aD)(h:l.de<=9223372036854775807):(et l r).1.de<=9223372036854775807:=by
 unfold et;split<;>exact h
theorem Uv(l:br)(h:l.de<=9223372036854775807):(fB l).1.de<=9223372036854775807:=by
 unfold fB;split<;>exact h
theorem Uw(l:br)(h:l.de<=9223372036854775807):(d' l).1.de<=9223372036854775807:=by
 unfold d';split
 ·rename_i ba;obtain⟨_,_,_,_,j',_,kt,_⟩:=uF.1 ba;simp only[av,c3]at j';split
  ·exact h
  dsimp only;omega
 exact h
variable{c:bi}
theorem fs.ea{i:Int}{l:br}(h:fs c)(ar:l.de<=9223372036854775807):fs (ea c i l):=by
 intro x aq;rcases qP aq with U | rfl
 ·exact h x U
 exact ar
theorem fs.at{i:Int}{x:br}(h:hd c i=some x)(hw:fs c):x.de<=9223372036854775807:=hw _ (eQ (qA h).2.2)
structure nS (c d:bi):Prop where
 aA:d.aA=c.aA
 de:fs c->fs d
 wG:d.az.length=c.az.length
theorem nS.rfl:nS c c:=⟨Eq.refl _,id,Eq.refl _⟩
theorem nS.bU{d:bi}(U:d.aA=c.aA)(aa:d.bU=c.bU)(aB:d.az.length=c.az.length:=by simp[setW,iu,dV,ea,told,gr]):nS c d:=⟨U,fun h x aq=>h x (aa▸aq),aB⟩
theorem am7(c:bi)(e:Int)(t:bW)(x:aR):nS c (eA c e t x).1:=by
 unfold eA;split
 ·split
  ·exact .bU rfl rfl
  split
  ·split
   ·exact .bU rfl rfl
   exact .rfl
  split
  ·exact .bU rfl rfl
  exact .bU rfl rfl
 exact .rfl
theorem am8(c:bi)(p:cf):nS c (dC c p).1:=by
 unfold dC;split
 ·unfold iS;split
  ·split
   ·exact .bU rfl rfl
   exact .rfl
  exact .rfl
 split
 ·unfold iT;split
  ·split
   ·exact .bU rfl rfl
   exact .rfl
  exact .rfl
 split
 ·unfold iU;split
  ·split
   ·split
    ·unfold uC;split
     ·exact .bU rfl rfl
     split
     ·rename_i l ar;split
      ·exact⟨rfl,fun h=>fs.ea h (Uu l _ (fs.at ar h)),by simp[setW,ea]⟩
      exact .rfl
     exact .rfl
    exact .rfl
   exact .rfl
  exact .rfl
 split
 ·unfold jU;split
  ·split
   ·rename_i l x ar aq;split
    ·exact⟨rfl,fun h=>fs.ea h (Uw l (fs.at ar h)),by simp[setW,ea]⟩
    exact .rfl
   exact .rfl
  exact .rfl
 split
 ·unfold iV;split
  ·split
   ·rename_i l ar;exact⟨rfl,fun h=>fs.ea h (Uv l (fs.at ar h)),by simp[setW,ea]⟩
   exact .rfl
  exact .rfl
 split
 ·unfold h9;split
  ·split
   ·split
    ·exact .rfl
    split
    ·exact am7 c _ _ _
    exact .rfl
   exact .rfl
  exact .rfl
 split
 ·unfold jV;split
  ·split
   ·split
    ·exact .bU rfl rfl
    exact .rfl
   exact .rfl
  exact .rfl
 exact .rfl
theorem Eh{α:Type}{f:α->List D}{xs:List α}{a:α}:(xs++[a]).map f=xs.map f++[f a]:=by simp
def cY:bi->List cf->bi×List Bool
 | c,[]=>(c,[])
 | c,p::l=>((cY (dC c p).1 l).1,(dC c p).2::(cY (dC c p).1 l).2)
theorem Ux(p:cf):∀(l:List cf) (c:bi),cY c (l++[p])=((dC (cY c l).1 p).1,(cY c l).2++[(dC (cY c l).1 p).2])
 | [],c=>rfl
 | q::l,c=>by
  have eO:=Ux p l (dC c q).1;simp only[List.cons_append,cY,eO]
theorem Ei{l:List cf}{i:Nat}{p:cf}(c:bi)(h:l[i]?=some p):cY c (l.take (i+1))=((dC (cY c (l.take i)).1 p).1,(cY c (l.take i)).2++[(dC (cY c (l.take i)).1 p).2]):=by
 rw[wL,h,Gj,Ux]
theorem Ad:∀(l:List cf) (c:bi),(cY c l).2.length=l.length
 | [],_=>rfl
 | q::l,c=>by simp only[cY,ic,Ad l]
theorem Ae:∀(l:List cf) (c:bi),(cY c l).1.sz<=c.sz+4*l.length
 | [],c=>gw _
 | q::l,c=>by
  have:=Ae l (dC c q).1;have:=Tq c q;simp only[cY,ic];omega
theorem nS.trans{d e:bi}(h:nS c d)(k:nS d e):nS c e:=⟨k.aA.trans h.aA,fun x=>k.de (h.de x),k.wG.trans h.wG⟩
theorem Af:∀(l:List cf) (c:bi),nS c (cY c l).1
 | [],_=>.rfl
 | q::l,c=>(am8 c q).trans (Af l _)
theorem Mh{α:Type}(i:Nat)(l:List α):(l.take i).length<=l.length:=by rw[uT];omega
theorem Ej(c:bi)(l:List cf)(i:Nat):(cY c (l.take i)).1.sz<=c.sz+4*l.length:=by
 have:=Ae (l.take i) c;have:=Mh i l;omega
def tu(l:List Bool):Nat:=(l.filter id).length
theorem am9(l:List Bool):tu l<=l.length:=pC _ _
theorem ana(l:List Bool)(b:Bool):tu (l++[b])=tu l+(if b then 1 else 0):=by
 cases b<;>simp[tu]
end Go.Proofs.YthfnndblgbjniaaGreatDoor
namespace Go.Proofs.YthfnndblgbjniaaGreatDoor
open Go.Sx Go.RowKit Go.Proofs.Tryz
def lc(w:Nat):List cf:=[⟨1,w,0⟩,⟨3,w,0⟩,⟨2,w,0⟩,⟨7,w,0⟩]
def nI(a b:Nat):List cf:=if a=b then [] else [⟨4,a,b⟩,⟨5,a,b⟩]
def nE(n:Nat):List cf:=(List.range n).flatMap lc
def qE(a n:Nat):List cf:=(List.range n).flatMap (nI a)
def oD(m n:Nat):List cf:=(List.range n).flatMap fun a=>qE a m
def oneOf(e:Nat):List cf:=[⟨6,e,0⟩]
def sP(n:Nat):List cf:=(List.range n).flatMap oneOf
def l4(c:bi):List cf:=nE (hJ c.aA.az 0 4).toNat++oD (hJ c.aA.az 0 4).toNat (hJ c.aA.az 0 4).toNat++sP 4
theorem Uy(n:Nat):nE (n+1)=nE n++lc n:=by simp[nE,List.range_succ]
theorem T0(a n:Nat):qE a (n+1)=qE a n++nI a n:=by simp[qE,List.range_succ]
theorem T1(m n:Nat):oD m (n+1)=oD m n++qE n m:=by simp[oD,List.range_succ]
theorem T2(n:Nat):sP (n+1)=sP n++[⟨6,n,0⟩]:=by simp[sP,List.range_succ,oneOf]
theorem A6(n:Nat):(nE n).length<=n*4:=by
 have h:=xG lc 4 (fun _=>by simp[lc]) (List.range n);rwa[yI]at h
theorem Mi(a n:Nat):(qE a n).length<=n*2:=by
 have h:=xG (nI a) 2 (fun b=>by unfold nI;split<;>simp) (List.range n);rwa[yI]at h
theorem A7(m n:Nat):(oD m n).length<=n*(m*2):=by
 have h:=xG (fun a=>qE a m) (m*2) (fun a=>Mi a m) (List.range n);rwa[yI]at h
theorem Mj(n:Nat):(sP n).length<=n*1:=by
 have h:=xG oneOf 1 (fun _=>by simp[oneOf]) (List.range n);rwa[yI]at h
theorem Mk(n:Int):∃k:Nat,hJ n 0 4=k/\k<=4:=by
 refine⟨(hJ n 0 4).toNat,?_,?_⟩<;>(unfold hJ;simp only[show ¬(4:Int)<0 by omega,lN];split<;>(try split)<;>omega)
theorem zQ(a b:Nat)(aj:a<=4)(ay:b<=4):a*(b*2)<=32:=by
 have:=Nat.mul_le_mul aj (hN 2 ay);omega
theorem Ml(c:bi):(l4 c).length<=100:=by
 obtain⟨k,ba,aJ⟩:=Mk c.aA.az;unfold l4;rw[ba];have a:=A6 k;have b:=A7 k k;have e:=Mj 4;have m:=zQ k k aJ aJ;simp only[lL,pA];omega
theorem Mm(c:bi):al 31 [.agg c.e] [.one (.J 3 ((l4 c).map cf.e))]:=by
 have b:=E0 c.aA.az 0 4;obtain⟨k,ba,aJ⟩:=Mk c.aA.az;unfold l4;rw[ba]at b ⊢;have Z2:=A6 k;have Z3:=A7 k k;have m:=zQ k k aJ aJ;have eW:=er (P:=prog) (c:=(ap f31 0)) (cy 0) k (fun i:Nat=>A5 k i ((nE i).map cf.e)) (fun i hi=>by
  have U:=A6 i;rw[Uy,gx];exact arF ⟨dm (by omega),by simp;omega,by simp;omega,dE cf.e cf.flat (lc i),⟨by omega,by omega⟩,ad⟩) (arG ⟨dX (by omega),ad⟩)
 have rh:=fun (a:Nat) (aj:a<k)=>er (P:=prog) (c:=(ap f31 2)) (cy 4) k (fun i:Nat=>vL k a i ((nE k++oD k a++qE a i).map cf.e)) (fun i hi=>by
  have U:=Mi a i;have aa:=A7 k a;have aB:=zQ a k (by omega) aJ;rw[T0,<-mN,gx (l₂:=nI a i)];by_cases fD:a=i
  ·have e:(nI a i).map cf.e=[]:=by simp[nI,fD]
   rw[e,iz];exact arI ⟨dm (by omega),by simp[fD],⟨by omega,by omega⟩,ad⟩
  have e:(nI a i).map cf.e=[[I 4,I a,I i],[I 5,I a,I i]]:=by simp[nI,fD,cf.e]
  rw[e];have b8:Flat [[I 4,I a,I i],[I 5,I a,I i]]:=by rw[<-e];exact dE cf.e cf.flat _
  exact arH ⟨dm (by omega),by simp;omega,by simp;omega,by simp;omega,b8,⟨by omega,by omega⟩,ad⟩) (arJ ⟨dX (by omega),ad⟩)
 have ku:=er (P:=prog) (c:=(ap f31 1)) (cy 2) k (fun i:Nat=>Ag k i ((nE k++oD k i).map cf.e)) (fun i hi=>by
  have h:=rh i hi;rw[T1,<-mN];simp only[qE,yH,yG,iz]at h;exact arK ⟨dm (by omega),h,⟨by omega,by omega⟩,ad⟩) (arL ⟨dX (by omega),ad⟩)
 have Dh:=er (P:=prog) (c:=(ap f31 3)) (cy 6) 4 (fun i:Nat=>Ah i ((nE k++oD k k++sP i).map cf.e)) (fun i hi=>by
  have U:=Mj i;rw[T2,<-mN,gx (l₂:=[_])];exact arM ⟨dm (by omega),by simp;omega,by simp;omega,dE cf.e cf.flat [⟨6,i,0⟩],⟨by omega,by omega⟩,ad⟩) (arN ⟨dX (by omega),ad⟩)
 simp only[oD,yH,yG,iz]at ku;simp only[sP,yH,yG,iz]at Dh;rw[pA];exact arO ⟨b,eW,ku,Dh,ad⟩
theorem anb(c:bi):al 29 [.agg c.e] [.one (.J 3 ((l4 c).map cf.e))]:=by
 have b:=au4 c.aA.az 0 4;obtain⟨k,ba,aJ⟩:=Mk c.aA.az;unfold l4;rw[ba]at b ⊢;have Z2:=A6 k;have Z3:=A7 k k;have m:=zQ k k aJ aJ;have ku:=fun (w:Nat) (hw:w<k)=>er (P:=prog) (c:=(ap f29 1)) (cy 2) 4 (fun i:Nat=>s4 k w i ((nE w).map cf.e++((lc w).take i).map cf.e)) (fun i hi=>by
  have U:=A6 w
  match i,hi with
  | 0,_=>exact wF (s4 k w (((0:Nat):Int)+1)) (EZ ⟨rfl,by omega,by decide,rfl,by simp[lc];omega,by simp[lc];omega,dE cf.e cf.flat [⟨1,w,0⟩],⟨by omega,by omega⟩,ad⟩) (by simp[lc,cf.e])
  | 1,_=>exact wF (s4 k w (((1:Nat):Int)+1)) (EZ ⟨rfl,by omega,by decide,rfl,by simp[lc];omega,by simp[lc];omega,dE cf.e cf.flat [⟨3,w,0⟩],⟨by omega,by omega⟩,ad⟩) (by simp[lc,cf.e])
  | 2,_=>exact wF (s4 k w (((2:Nat):Int)+1)) (EZ ⟨rfl,by omega,by decide,rfl,by simp[lc];omega,by simp[lc];omega,dE cf.e cf.flat [⟨2,w,0⟩],⟨by omega,by omega⟩,ad⟩) (by simp[lc,cf.e])
  | 3,_=>exact wF (s4 k w (((3:Nat):Int)+1)) (EZ ⟨rfl,by omega,by decide,rfl,by simp[lc];omega,by simp[lc];omega,dE cf.e cf.flat [⟨7,w,0⟩],⟨by omega,by omega⟩,ad⟩) (by simp[lc,cf.e])) (arP ⟨rfl,ad⟩)
 have eW:=er (P:=prog) (c:=(ap f29 0)) (cy 0) k (fun i:Nat=>Ai k i ((nE i).map cf.e)) (fun i hi=>by
  have h:=ku i hi;rw[Uy,gx];simp only[List.take_zero,List.map_nil,iz]at h;exact arQ ⟨dm (by omega),h,⟨by omega,by omega⟩,ad⟩) (arR ⟨dX (by omega),ad⟩)
 have Dh:=fun (a:Nat) (aj:a<k)=>er (P:=prog) (c:=(ap f29 3)) (cy 6) k (fun i:Nat=>vM k a i ((nE k++oD k a++qE a i).map cf.e)) (fun i hi=>by
  have U:=Mi a i;have aa:=A7 k a;have aB:=zQ a k (by omega) aJ;rw[T0,<-mN,gx (l₂:=nI a i)];by_cases fD:a=i
  ·have e:(nI a i).map cf.e=[]:=by simp[nI,fD]
   rw[e,iz];exact arT ⟨dm (by omega),by simp[fD],⟨by omega,by omega⟩,ad⟩
  have e:(nI a i).map cf.e=[[I 4,I a,I i],[I 5,I a,I i]]:=by simp[nI,fD,cf.e]
  rw[e];have b8:Flat [[I 4,I a,I i],[I 5,I a,I i]]:=by rw[<-e];exact dE cf.e cf.flat _
  exact arS ⟨dm (by omega),by simp;omega,by simp;omega,by simp;omega,b8,⟨by omega,by omega⟩,ad⟩) (arU ⟨dX (by omega),ad⟩)
 have rh:=er (P:=prog) (c:=(ap f29 2)) (cy 4) k (fun i:Nat=>Aj k i ((nE k++oD k i).map cf.e)) (fun i hi=>by
  have h:=Dh i hi;rw[T1,<-mN];simp only[qE,yH,yG,iz]at h;exact arV ⟨dm (by omega),h,⟨by omega,by omega⟩,ad⟩) (arl ⟨dX (by omega),ad⟩)
 have Pd:=er (P:=prog) (c:=(ap f29 4)) (cy 8) 4 (fun i:Nat=>Ak i ((nE k++oD k k++sP i).map cf.e)) (fun i hi=>by
  have U:=Mj i;rw[T2,<-mN,gx (l₂:=[_])];exact arm ⟨dm (by omega),by simp;omega,by simp;omega,dE cf.e cf.flat [⟨6,i,0⟩],⟨by omega,by omega⟩,ad⟩) (arn ⟨dX (by omega),ad⟩)
 simp only[oD,yH,yG,iz]at rh;simp only[sP,yH,yG,iz]at Pd;rw[pA];exact aro ⟨b,eW,rh,Pd,ad⟩
