import Derived.Test.YtdchjefneblpgaaGreatP119
import Derived.Test.YtdchjefneblpgaaGreatP112
import Derived.Test.YtdchjefneblpgaaGreatGO
set_option linter.unusedVariables false
set_option linter.unusedSimpArgs false
namespace Go.Proofs.YtdchjefneblpgaaGreat
open Go.Sx Go.RowKit Go.Proofs.Tryz
def FD(g:bS)(a b:Int):Int:=if (0<=a/\a<=g.ap-1)/\0<=b/\b<=g.ap-1 then a*g.ap+b else -1
theorem XE{n a b:Int}(aR:n<=5)(ae:0<=a/\a<=n-1)(aj:0<=b/\b<=n-1):aG .i64 (a*n)/\aG .i64 (a*n+b):=by
 have Qf:n=1\/n=2\/n=3\/n=4\/n=5:=by omega
 rcases Qf with rfl | rfl | rfl | rfl | rfl<;>exact⟨⟨by omega,by omega⟩,⟨by omega,by omega⟩⟩
theorem aq1(g:bS)(a b:Int)(aR:-1<=g.ap/\g.ap<=5):aw 61 [.agg g.e,.one (I a),.one (I b)] [.one (I (FD g a b))]:=by
 have i1:IntKind.i64.wrap (g.ap-1)=g.ap-1:=zw ⟨by omega,by omega⟩;have ql:∀(x:Int) (r:Bool),ar x 0 (g.ap-1)=r->aw 168 [.one (I x),.one (I 0),.one (I (IntKind.i64.wrap (g.ap-1)))] [.one (B r)]:=fun x r h=>by
  rw[i1];exact fD _ h
 unfold FD;by_cases ae:0<=a/\a<=g.ap-1
 ·by_cases aj:0<=b/\b<=g.ap-1
  ·obtain⟨lA,lB⟩:=XE aR.2 ae aj;have key:aw 61 [.agg g.e,.one (I a),.one (I b)] [.one (I (IntKind.i64.wrap (IntKind.i64.wrap (a*g.ap)+b)))]:=ND ⟨ql a true (bU ae),rfl,ql b true (bU aj),rfl,bY (by omega),ad⟩;rw[zw lA,zw lB]at key;rw[bi ⟨ae,aj⟩];exact key
  rw[ba fun h=>aj h.2];exact NC ⟨ql a true (bU ae),rfl,ql b false (bY aj),rfl,ad⟩
 rw[ba fun h=>ae h.1];exact NB ⟨ql a false (bY ae),rfl,ad⟩
theorem aq2(g:bS)(a b:Int)(aR:-1<=g.ap/\g.ap<=5):aw 60 [.agg g.e,.one (I a),.one (I b)] [.one (I (FD g a b))]:=by
 unfold FD;by_cases bQ:(0<=a/\a<=g.ap-1)/\0<=b/\b<=g.ap-1
 ·obtain⟨lA,lB⟩:=XE aR.2 bQ.1 bQ.2;rw[bi bQ];exact ao8 ⟨bY (by split<;>omega),bY (by split<;>omega),lA,lB,ad⟩
 rw[ba bQ];by_cases hm:(if b<a then b else a)<0
 ·exact apX ⟨bU hm,ad⟩
 ·exact ao7 ⟨bY hm,bU (by split at hm<;>split<;>omega),ad⟩
def ZB:aB:=⟨0,⟨0,0⟩,0,0⟩
theorem Ni(b:List Int):∀(n:Nat) (xs:List aB) (c:dH),22<=xs.length+n->xs.length<=21->c.ok b->
  ∃(ys:List aB) (d:dH),d.ok b/\ys.length<=21/\c' prog (aq f49 0) (uR (xs.map aB.e) (b.map gm) c.i c.h 0 0) (.exit 0) (zu (ys.map aB.e) (b.map gm) d.i d.h 0 0)
 | 0,xs,c,h1,U,_=>by omega
 | n+1,xs,c,h1,U,ak=>by
  obtain⟨d,v,aE,bF,r⟩:=dW b c 2 ak (by omega);by_cases ag:((xs.map aB.e).length:Int)<20+v
  ·have kJ:(xs.length:Int)<20+v:=by simpa using ag
   obtain⟨ys,dE,cv,ca,k⟩:=Ni b n (xs++[ZB]) d (by simp;omega) (by simp;omega) aE;refine⟨ys,dE,cv,ca,.more ?_ k⟩;rw[gW];exact apH ⟨r,⟨by omega,by omega⟩,bU ag,by simp;omega,by simp;omega,tO ZB,ad⟩
  exact⟨xs,d,aE,U,.last (cC 0) (apI ⟨r,⟨by omega,by omega⟩,bY ag,ad⟩)⟩
theorem FE(b:List Int)(c:dH)(ak:c.ok b):∃(d:dH) (g:bS),d.ok b/\g.sz<=120/\bZ prog 137 [.cur (c.e b) (d.e b)] (.vals [.agg g.e]):=by
 obtain⟨d,g,h1,U,ax⟩:=Ng b c ak;exact⟨d,g,h1,U.1,ax⟩
theorem FF(b:List Int)(c:dH)(ak:c.ok b):∃(d:dH) (g:bS),d.ok b/\g.sz<=120/\bZ prog 118 [.cur (c.e b) (d.e b)] (.vals [.agg g.e]):=by
 obtain⟨d,g,h1,U,ax⟩:=Mw b c ak;exact⟨d,g,h1,nc U.size (by omega),ax⟩
theorem aq3(b:List Int)(aj:Bytes b):∃(g:bS) (xs:List aB),g.sz<=120/\xs.length<=21/\aw 49 [.one (.J 1 (b.map gm))] [.agg g.e,.one (.J 5 (xs.map aB.e))]:=by
 obtain⟨c,ak,gL⟩:=BM b aj;obtain⟨d1,xs,cv,aa,_,bI⟩:=Mv b c ak;obtain⟨d2,f,ca,b2⟩:=pI b d1 6 cv (by omega);cases f with
 | true=>
  obtain⟨d3,r,cD,_,cj⟩:=Nd b d2 ca;obtain⟨d4,f,ff,dS⟩:=pI b d3 20 cD (by omega);have e:(xs++[r]).map aB.e=xs.map aB.e++[r.e]:=by simp
  cases f with
  | true=>
   obtain⟨ys,d5,oC,bu,l⟩:=Ni b 22 (xs++[r]) d4 (by omega) (by simp;omega) ff;rw[e]at l;obtain⟨d6,f,oD,iO⟩:=pI b d5 6 oC (by omega);cases f with
   | true=>
    obtain⟨d7,g,sZ,av,io⟩:=FE b d6 oD;exact⟨g,ys,av,bu,apJ ⟨gL,bI,b2,rfl,cj,by simp;omega,by simp;omega,tO r,dS,rfl,l,iO,rfl,io,ad⟩⟩
   | false=>
    obtain⟨d7,g,sZ,av,io⟩:=FF b d6 oD;exact⟨g,ys,av,bu,apK ⟨gL,bI,b2,rfl,cj,by simp;omega,by simp;omega,tO r,dS,rfl,l,iO,rfl,io,ad⟩⟩
  | false=>
   obtain⟨d6,f,oD,iO⟩:=pI b d4 6 ff (by omega);cases f with
   | true=>
    obtain⟨d7,g,sZ,av,io⟩:=FE b d6 oD;exact⟨g,xs++[r],av,by simp;omega,e▸apL ⟨gL,bI,b2,rfl,cj,by simp;omega,by simp;omega,tO r,dS,rfl,iO,rfl,io,ad⟩⟩
   | false=>
    obtain⟨d7,g,sZ,av,io⟩:=FF b d6 oD;exact⟨g,xs++[r],av,by simp;omega,e▸apM ⟨gL,bI,b2,rfl,cj,by simp;omega,by simp;omega,tO r,dS,rfl,iO,rfl,io,ad⟩⟩
 | false=>
  obtain⟨d4,f,ff,dS⟩:=pI b d2 20 ca (by omega);cases f with
  | true=>
   obtain⟨ys,d5,oC,bu,l⟩:=Ni b 22 xs d4 (by omega) (by omega) ff;obtain⟨d6,f,oD,iO⟩:=pI b d5 6 oC (by omega);cases f with
   | true=>
    obtain⟨d7,g,sZ,av,io⟩:=FE b d6 oD;exact⟨g,ys,av,bu,apN ⟨gL,bI,b2,rfl,dS,rfl,l,iO,rfl,io,ad⟩⟩
   | false=>
    obtain⟨d7,g,sZ,av,io⟩:=FF b d6 oD;exact⟨g,ys,av,bu,apO ⟨gL,bI,b2,rfl,dS,rfl,l,iO,rfl,io,ad⟩⟩
  | false=>
   obtain⟨d6,f,oD,iO⟩:=pI b d4 6 ff (by omega);cases f with
   | true=>
    obtain⟨d7,g,sZ,av,io⟩:=FE b d6 oD;exact⟨g,xs,av,by omega,apP ⟨gL,bI,b2,rfl,dS,rfl,iO,rfl,io,ad⟩⟩
   | false=>
    obtain⟨d7,g,sZ,av,io⟩:=FF b d6 oD;exact⟨g,xs,av,by omega,apQ ⟨gL,bI,b2,rfl,dS,rfl,iO,rfl,io,ad⟩⟩
theorem aq4(b:List Int)(aj:Bytes b):∃x y:a8,x.sz<=8400/\aw 52 [.one (.J 1 (b.map gm))] [.agg x.e,.agg y.e]:=by
 obtain⟨c,ak,gL⟩:=BM b aj;obtain⟨d1,x,cv,⟨_,eE⟩,bI⟩:=Fw b c ak;obtain⟨d2,f,ca,b2⟩:=pI b d1 2 cv (by omega);cases f with
 | true=>exact⟨x,x,eE,apS ⟨gL,bI,b2,rfl,Vk x (by omega),ad⟩⟩
 | false=>
  obtain⟨d3,y,cD,_,cj⟩:=Fw b d2 ca;exact⟨x,y,eE,apU ⟨gL,bI,b2,rfl,apT ⟨cj,ad⟩,ad⟩⟩
theorem aq5(b:List Int)(aj:Bytes b):∃x:a8,(xZ x/\x.sz<=8400)/\aw 51 [.one (.J 1 (b.map gm))] [.agg x.e]:=by
 obtain⟨c,ak,gL⟩:=BM b aj;obtain⟨d,x,_,aa,bI⟩:=Fw b c ak;exact⟨x,aa,apR ⟨gL,bI,ad⟩⟩
theorem aq6(b:List Int)(aj:Bytes b):∃(g:bS) (u v:Int),(-1<=g.ap/\g.ap<=5)/\aw 54 [.one (.J 1 (b.map gm))] [.agg g.e,.one (I u),.one (I v)]:=by
 obtain⟨c,ak,gL⟩:=BM b aj;obtain⟨d1,g,cv,av,bI⟩:=Ng b c ak;obtain⟨d2,u,ca,hu,b2⟩:=dW b d1 6 cv (by omega);obtain⟨d3,v,cD,bF,cj⟩:=dW b d2 6 ca (by omega);exact⟨g,_,_,av.2,apW ⟨gL,bI,b2,⟨by omega,by omega⟩,cj,⟨by omega,by omega⟩,ad⟩⟩
theorem XF(c:a8)(e:Int):(qx c e).length<=c.sz:=by
 have:=LV (fun w:aQ=>gH e w.bK) aQ.sz (fun w=>nc (LW e w.bK) (by simp only[aQ.sz];omega)) c.ap;unfold qx;simp only[a8.sz,eZ];omega
def l5:bS:=⟨[⟨1,0,0,[]⟩],2,1⟩
def l6:aB:=⟨0,⟨0,0⟩,1,0⟩
theorem aq7:iE l5 [l6]=true:=by decide +kernel
theorem XG:(dh l5 [l6]).ap.length=2:=by decide +kernel
theorem ar0:((dh l5 [l6]).ap[1]?).map (fun w=>w.bK.length)=some 1:=by decide +kernel
theorem ar1:n2 [.agg [.J 4 [[I 1,I 0,I 0,.v (.slice none 0 0)]],I 2,I 1],.one (.J 5 [[I 0,I 0,I 0,I 1,I 0]])] [.agg l5.e,.one (.J 5 ([l6].map aB.e))]:=
 .cons (.agg (.cons (.J 4 (.cons (.cons (.refl _) (.cons (.refl _) (.cons (.refl _) (.cons (.nil 1) .nil)))) .nil)) (ki.refl _))) (.cons (.one (.refl _)) .nil)
theorem ar2(b:List Int)(aj:∀a∈b,(fun n=>0<=n/\n<=255) a):aw 7 [.one (.J 1 (b.map gm))] [.one (B true)]:=by
 by_cases PO:(b.length:Int)>1048576
 ·have:=SF (b.map gm) trivial;rw[iV (by simpa using PO)]at this;exact arz ⟨this,rfl,ad⟩
 have big:=SF (b.map gm) trivial;rw[lN (by simpa using PO)]at big;have sA:Bytes b:=⟨by omega,aj⟩
 obtain⟨g,xs,fi,eE,Px⟩:=aq3 b sA;obtain⟨x,⟨k7,azX⟩,Py⟩:=aq5 b sA;obtain⟨p,q,sp,nn⟩:=aq4 b sA;obtain⟨y,e,azY,Pz⟩:=ap4 b sA;obtain⟨h,u,v,hw,Pv⟩:=aq6 b sA;have iD:=UM g xs (by omega);have js:=UL g xs (by omega);have cG:=agX x (by omega) k7.dv;have cg:=Ls x (by omega) k7.dv;have s1:=amg p q (by omega);have s2:=amf p q (by omega);have i1:=Su y e (by omega);have i2:=au8 y e (by omega);have i3:=BY (qx y e) (nc (XF y e) (by omega));have kr:=aq2 h u v hw;have ui:=aq1 h u v hw;have one:=(UM l5 [l6] (by decide)).args ar1;rw[Ci aq7]at one;have D2:((((dh l5 [l6]).ap.map aQ.e).length:Int)==2)=true:=by rw[bA,XG];rfl
 obtain⟨w1,aci,t'⟩:=b8.1 ar0;have Pm:((dh l5 [l6]).ap.map aQ.e)[(1:Int).toNat]?=some w1.e:=by
  change ((dh l5 [l6]).ap.map aQ.e)[1]?=_;rw[du,aci];rfl
 have QP:(1:Int)<(((dh l5 [l6]).ap.map aQ.e).length:Int):=by rw[bA,XG];decide
 have fin:((w1.bK.map aB.e).length:Int)=1:=by rw[bA,t'];rfl
 cases aR:iE g xs with
 | false=>
  rw[xw aR]at iD js;have aO:=XC MH (by decide);have t:aw 7 [.one (.J 1 (b.map gm))] [.one (B (((w1.bK.map aB.e).length:Int)==1))]:=arA ⟨big,rfl,Px,iD,js,rfl,aO,rfl,Py,nn,Pz,Pv,cG,cg,by simp,s1,s2,by simp,i1,i2,i3,rfl,kr,ui,by simp,one,rfl,rfl,D2,by decide,QP,Pm,ad⟩;rw[fin]at t;exact t
 | true=>
  rw[Ci aR]at iD js;have b8:=UR aR;have aO:=XC (dh g xs) (by omega);have ok:=anu (dh g xs) true (UX aR) (by omega) (US g xs);have le:∀i:Nat,(qx (dh g xs) i).length<=100000:=fun i=>nc (XF _ _) (by omega)
  have QL:∀n:Nat,rY (dh g xs) n<=n*100000:=fun n=>by
   induction n with
   | zero=>exact ei _
   | succ n dI=>
    have:=le n;simp only[rY];omega
  have aW:=e6 (P:=prog) (c:=(aq f7 0)) (cC 0) 4 (fun i:Nat=>BZ (xs.map aB.e) ((dh g xs).aC.nodes.map Node.e) (dh g xs).aC.ap (dh g xs).aC.cap ((dh g xs).ap.map aQ.e) ((dh g xs).bR.map bD.e) ((dh g xs).tokens.map bT.e) ((dh g xs).news.map cb.e) ((dh l5 [l6]).aC.nodes.map Node.e) (dh l5 [l6]).aC.ap (dh l5 [l6]).aC.cap ((dh l5 [l6]).ap.map aQ.e) ((dh l5 [l6]).bR.map bD.e) ((dh l5 [l6]).tokens.map bT.e) ((dh l5 [l6]).news.map cb.e) true i (rY (dh g xs) i:Nat)) (fun i hi=>by
   have h1:=le i;have U:=QL i;have acv:=Su (dh g xs) i (by omega);have e1:((rY (dh g xs) (i+1):Nat):Int)=(rY (dh g xs) i:Nat)+(((qx (dh g xs) i).map aB.e).length:Int):=by
    simp only[rY,bA];omega
   rw[e1];exact aqY ⟨bU (by omega),acv,⟨by omega,by simp only[bA];omega⟩,⟨by omega,by omega⟩,ad⟩)
   (aqZ ⟨by decide,ad⟩)
  have ax5:((rY (dh g xs) 4:Nat):Int)=((xs.map aB.e).length:Int):=by rw[akL aR,bA]
  have t:aw 7 [.one (.J 1 (b.map gm))] [.one (B (((w1.bK.map aB.e).length:Int)==1))]:=aq0 ⟨big,rfl,Px,iD,js,rfl,aO,rfl,Py,nn,Pz,Pv,cG,cg,by simp,s1,s2,by simp,i1,i2,i3,rfl,kr,ui,by simp,one,rfl,aW,ok,rfl,by rw[ax5];simp,rfl,D2,by decide,QP,Pm,ad⟩;rw[fin]at t;exact t
