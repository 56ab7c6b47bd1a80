import Derived.Test.YtdchjefneblpgaaGreatP94
import Derived.Test.YtdchjefneblpgaaGreatP97
import Derived.Test.YtdchjefneblpgaaGreatGK
set_option linter.unusedVariables false
set_option linter.unusedSimpArgs false
namespace Go.Proofs.YtdchjefneblpgaaGreat
open Go.Sx Go.RowKit Go.Proofs.Tryz
theorem O8{v:Int}:Flat [[I v]]:=BI [v]
theorem Dx(b:List Int)(k a e:Int):∀(n i:Nat) (xs:List Int) (c:gq),i+n=2->c.ok b->xs.length<=i->
  ∃(ys:List Int) (d:gq),d.ok b/\ys.length<=2/\cN prog (ap f319 0) (wc (b.map iE) i k a e (xs.map bd) 0 0 0 c.i c.h) (.exit 1) (z1 (b.map iE) k a e (ys.map bd) 0 0 0 d.i d.h)
 | n,i,xs,c,iu,al,aj=>by
  obtain⟨d1,m,dt,aq,b4⟩:=hY b c 3 al (by omega);by_cases h:(i:Int)<m
  ·match n with
   | 0=>omega
   | n+1=>
    obtain⟨d2,v,dm,bD,cQ⟩:=hY b d1 2 dt (by omega);obtain⟨ys,d,o,gD,l⟩:=Dx b k a e n (i+1) (xs++[1+(i:Int)*2+v]) d2 (by omega) dm (by simp;omega);refine⟨ys,d,o,gD,.more (arY ⟨b4,o4 h,arX ⟨⟨by omega,by omega⟩,⟨by omega,by omega⟩,cQ,⟨by omega,by omega⟩,by simp;omega,by simp;omega,O8,ad⟩,⟨by omega,by omega⟩,ad⟩) ?_⟩;rw[gF]at l;exact l
  exact⟨xs,d1,dt,by omega,.last (ci 1) (arZ ⟨b4,p7 h,ad⟩)⟩
theorem as5(b:List Int)(c:gq)(al:c.ok b):∃(d:gq) (x:Node),d.ok b/\x.outs.length<=2/\cH prog 319 [.cur (c.e b) (d.e b)] (.vals [.agg x.e]):=by
 obtain⟨d1,n,dt,aP,b4⟩:=hY b c 8 al (by omega);have i1:aJ .i64 (1+n):=⟨by omega,by omega⟩
 by_cases e1:n=1
 ·obtain⟨d2,v,dm,bD,cQ⟩:=uK b d1 [0,1,3,10,999] dt (by simp);obtain⟨ys,d,o,gD,l⟩:=Dx b (1+n) v 0 2 0 [] d2 rfl dm (by simp);exact⟨d,⟨1+n,v,0,ys⟩,o,gD,ar0 ⟨b4,i1,by simp[e1],cQ,by simp[e1],l,ad⟩⟩
 by_cases e2:n=2
 ·obtain⟨d2,v,dm,bD,cQ⟩:=hY b d1 4 dt (by omega);obtain⟨d3,u,eY,hu,dz⟩:=hY b d2 (1+v) dm (by omega);obtain⟨ys,d,o,gD,l⟩:=Dx b (1+n) (1+v) u 2 0 [] d3 rfl eY (by simp);exact⟨d,⟨1+n,1+v,u,ys⟩,o,gD,ar1 ⟨b4,i1,by simp[e2],by simp[e2],cQ,⟨by omega,by omega⟩,dz,by simp[e2],l,ad⟩⟩
 by_cases cx:n=3
 ·obtain⟨d2,v,dm,bD,cQ⟩:=uK b d1 [0,1,2,3,50,99] dt (by simp);obtain⟨ys,d,o,gD,l⟩:=Dx b (1+n) v 0 2 0 [] d2 rfl dm (by simp);exact⟨d,⟨1+n,v,0,ys⟩,o,gD,ar2 ⟨b4,i1,by simp[cx],by simp[cx],by simp[cx],cQ,by simp[cx],l,ad⟩⟩
 have f1:(1+n==2)=false:=by simp;omega
 have f2:(1+n==3)=false:=by simp;omega
 have f3:(1+n==4)=false:=by simp;omega
 by_cases tS:n=7
 ·exact⟨d1,⟨1+n,0,0,[]⟩,dt,by simp,ar4 ⟨b4,i1,f1,f2,f3,by simp[tS],ad⟩⟩
 obtain⟨ys,d,o,gD,l⟩:=Dx b (1+n) 0 0 2 0 [] d1 rfl dt (by simp);exact⟨d,⟨1+n,0,0,ys⟩,o,gD,ar3 ⟨b4,i1,f1,f2,f3,by simp;omega,l,ad⟩⟩
theorem as6(b:List Int)(c:gq)(al:c.ok b):∃(d:gq) (x:Node),d.ok b/\x.outs.length<=3/\cH prog 252 [.cur (c.e b) (d.e b)] (.vals [.agg x.e]):=by
 obtain⟨d1,x,dt,aa,b4⟩:=as5 b c al;obtain⟨d2,k,dm,hk,cQ⟩:=hY b d1 12 dt (by omega);by_cases cd:k=0
 ·obtain⟨d3,v,eY,bD,dz⟩:=hY b d2 11 dm (by omega);exact⟨d3,⟨v-1,x.a,x.b,x.outs⟩,eY,by dsimp only;omega,ar5 ⟨b4,cQ,by simp[cd],dz,⟨by omega,by omega⟩,ad⟩⟩
 by_cases e1:k=1
 ·obtain⟨d3,v,eY,bD,dz⟩:=uK b d2 [-1,0,1000,100,11] dm (by simp);exact⟨d3,⟨x.kind,v,x.b,x.outs⟩,eY,by dsimp only;omega,ar6 ⟨b4,cQ,by simp[cd],by simp[e1],dz,ad⟩⟩
 by_cases e2:k=2
 ·obtain⟨d3,v,eY,bD,dz⟩:=uK b d2 [-1,1,3] dm (by simp);exact⟨d3,⟨x.kind,x.a,v,x.outs⟩,eY,by dsimp only;omega,ar7 ⟨b4,cQ,by simp[cd],by simp[e1],by simp[e2],dz,ad⟩⟩
 by_cases cx:k=3
 ·obtain⟨d3,v,eY,bD,dz⟩:=uK b d2 [1,7,8,-1] dm (by simp);have:=ar9 ⟨b4,cQ,by simp[cd],by simp[e1],by simp[e2],by simp[cx],ar8 ⟨dz,by simp;omega,by simp;omega,O8,ad⟩,ad⟩;refine⟨d3,⟨x.kind,x.a,x.b,x.outs++[v]⟩,eY,by simp;omega,?_⟩;unfold Node.e;dsimp only;rw[gF];exact this
 exact⟨d2,x,dm,by omega,asa ⟨b4,cQ,by simp[cd],by simp[e1],by simp[e2],by simp[cx],ad⟩⟩
theorem as7{α:Type}{sz:α->Nat}(xs ys:List α):fZ sz (xs++ys)=fZ sz xs+fZ sz ys:=by
 unfold fZ;simp;omega
theorem YC{α:Type}{sz:α->Nat}:∀(xs:List α) (n:Nat),fZ sz (xs.take n)<=fZ sz xs
 | [],n=>by simp
 | x::xs,0=>by simp[fZ]
 | x::xs,n+1=>by
  have:=YC (sz:=sz) xs n;unfold fZ at*;simp only[List.take_succ_cons,fO,iM,sj];omega
def YD:List D:=[I 8,I 0,I 0,.v (.slice none 0 0)]
def Dy:Node:=⟨8,0,0,[]⟩
theorem as8:kM YD Dy.e:=.cons (.refl _) (.cons (.refl _) (.cons (.refl _) (.cons (.nil 1) .nil)))
theorem YE:∀(xs:List Node),nN (xs.map Node.e) (xs.map Node.e)
 | []=>.nil
 | x::xs=>.cons (kM.refl _) (YE xs)
theorem YF:∀{es cy:List (List D)} {e e':List D},nN es cy->kM e e'->nN (es++[e]) (cy++[e'])
 | _,_,_,_,.nil,h=>.cons h .nil
 | _,_,_,_,.cons k t,h=>.cons k (YF t h)
theorem XR:∀{es cy:List (List D)},nN es cy->es.length=cy.length
 | _,_,.nil=>rfl
 | _,_,.cons _ t=>by simp[XR t]
theorem XS(b:List Int)(w p:Int):∀(n:Nat) (xs:List Node) (es:List (List D)) (c:gq),nN es (xs.map Node.e)->xs.length+n=9->fZ Node.sz xs<=120-n->n<=9->c.ok b->
  ∃(ys:List Node) (eI:List (List D)) (d:gq),nN eI (ys.map Node.e)/\fZ Node.sz ys<=120/\d.ok b/\cN prog (ap f137 0) (Da (b.map iE) es w p 0 0 c.i c.h) (.exit 1) (Od (b.map iE) eI w p 0 0 d.i d.h)
 | n,xs,es,c,br,aP,ai,eu,al=>by
  obtain⟨d1,m,dt,aq,b4⟩:=hY b c 2 al (by omega);have aj:=XR br;rw[cp]at aj;by_cases h:(es.length:Int)<8+m
  ·match n with
   | 0=>omega
   | n+1=>
    obtain⟨ys,eI,d,gD,hN,o,l⟩:=XS b w p n (xs++[Dy]) (es++[YD]) d1 (by
     rw[gF];exact YF br as8) (by simp;omega) (by
     rw[as7];have:fZ Node.sz [Dy]=1:=rfl;omega) (by omega) dt
    exact⟨ys,eI,d,gD,hN,o,.more (ayT ⟨UY ⟨b4,⟨by omega,by omega⟩,ad⟩,o4 h,by simp;omega,by simp;omega,ad⟩) l⟩
  exact⟨xs,es,d1,br,by omega,dt,.last (ci 1) (ayU ⟨UY ⟨b4,⟨by omega,by omega⟩,ad⟩,p7 h,ad⟩)⟩
theorem kL.len{g:bF}(h:kL g):1<=g.nodes.length/\g.nodes.length<=8:=by
 have:=h.ok;simp only[dg,aw,b9,cc]at this;omega
theorem as9(b:List Int)(c:gq)(al:c.ok b):∃(d:gq) (g:bF),d.ok b/\(g.sz<=120/\-1<=g.ao/\g.ao<=5)/\cH prog 137 [.cur (c.e b) (d.e b)] (.vals [.agg g.e]):=by
 obtain⟨d1,g,dt,ar,b4⟩:=Iv b c al;have ai:=ar.size;have aj:=ar.len;have aC2:=ar.ao;have adL:((g.nodes.map Node.e).length:Int)=g.nodes.length:=by simp
 obtain⟨d2,k,dm,hk,cQ⟩:=hY b d1 (g.nodes.length:Int) dt (by omega);rw[<-adL]at cQ;obtain⟨d3,m,eY,hm,dz⟩:=hY b d2 12 dm (by omega);obtain⟨y,bk⟩:=cV (xs:=g.nodes) (i:=k.toNat) (by omega);have Gd:(g.nodes.map Node.e)[k.toNat]?=some y.e:=by rw[eg,bk];rfl
 have zx:k<((g.nodes.map Node.e).length:Int):=by omega
 have gA:∀x:Node,x.sz<=y.sz+3->(⟨g.nodes.set k.toNat x,g.ao,g.cap⟩:bF).sz<=120:=fun x aa=>by
  have:=Am (sz:=Node.sz) x bk;unfold bF.sz at ai ⊢;dsimp only;omega
 by_cases cd:m=0
 ·obtain⟨d4,x,kj,aa,gz⟩:=as6 b d3 eY;have:=ayO ⟨b4,cQ,dz,by simp[cd],axn ⟨gz,hk.1,zx,Gd,ad⟩,ad⟩;refine⟨d4,⟨g.nodes.set k.toNat x,g.ao,g.cap⟩,kj,⟨gA x (by unfold Node.sz;omega),by dsimp only;omega,by dsimp only;omega⟩,?_⟩;unfold bF.e;dsimp only;rw[ks];exact this
 by_cases e1:m=1
 ·obtain⟨d4,v,kj,bD,gz⟩:=uK b d3 [0,4,5,-1] eY (by simp);simp only[dQ,qW,or_false]at bD;exact⟨d4,⟨g.nodes,v,g.cap⟩,kj,⟨by unfold bF.sz at ai ⊢;dsimp only;omega,by dsimp only;omega,by dsimp only;omega⟩,ayP ⟨b4,cQ,dz,by simp[cd],by simp[e1],gz,ad⟩⟩
 by_cases e2:m=2
 ·obtain⟨d4,v,kj,bD,gz⟩:=uK b d3 [0,4,5,-1] eY (by simp);exact⟨d4,⟨g.nodes,g.ao,v⟩,kj,⟨by unfold bF.sz at ai ⊢;dsimp only;omega,by dsimp only;omega,by dsimp only;omega⟩,ayQ ⟨b4,cQ,dz,by simp[cd],by simp[e1],by simp[e2],gz,ad⟩⟩
 by_cases cx:m=3
 ·obtain⟨d4,v,kj,bD,gz⟩:=hY b d3 9 eY (by omega);have SO:y.outs.length<=100:=by
   have:=Am (sz:=Node.sz) Dy bk;have aL:Node.sz Dy=0:=rfl;have:y.sz<=100:=by unfold bF.sz at ai;omega
   exact this
  have:=ayS ⟨b4,cQ,dz,by simp[cd],by simp[e1],by simp[e2],by simp[cx],ayR ⟨hk.1,zx,Gd,gz,⟨by omega,by omega⟩,by simp;omega,by simp;omega,Gd,rfl,rfl,O8,hk.1,zx,Gd,rfl,ad⟩,ad⟩;refine⟨d4,⟨g.nodes.set k.toNat ⟨y.kind,y.a,y.b,y.outs++[v-1]⟩,g.ao,g.cap⟩,kj,⟨gA _ (by unfold Node.sz;simp),by dsimp only;omega,by dsimp only;omega⟩,?_⟩;unfold bF.e;dsimp only;rw[ks];unfold Node.e;dsimp only;rw[gF];exact this
 by_cases eD:m=4
 ·obtain⟨ys,eI,d,gD,hN,o,l⟩:=XS b g.ao g.cap (9-g.nodes.length) g.nodes (g.nodes.map Node.e) d3 (YE _) (by omega) (by unfold bF.sz at ai;omega) (by omega) eY;have:=ayV ⟨b4,cQ,dz,by simp[cd],by simp[e1],by simp[e2],by simp[cx],by simp[eD],l,ad⟩;exact⟨d,⟨ys,g.ao,g.cap⟩,o,⟨hN,by dsimp only;omega,by dsimp only;omega⟩,this.fit (.cons (.agg (.cons (.J 4 gD) (kM.refl _))) .nil)⟩
 by_cases iS:m=5
 ·have:=ayW ⟨b4,cQ,dz,by simp[cd],by simp[e1],by simp[e2],by simp[cx],by simp[eD],by simp[iS],by decide,hk.1,by change k<=_;omega,ad⟩;refine⟨d3,⟨g.nodes.take k.toNat,g.ao,g.cap⟩,eY,⟨?_,by dsimp only;omega,by dsimp only;omega⟩,?_⟩
  ·have:=YC (sz:=Node.sz) g.nodes k.toNat;unfold bF.sz at ai ⊢;dsimp only;omega
  unfold bF.e;dsimp only;rw[tE];exact this
 exact⟨d3,g,eY,⟨by omega,by omega,by omega⟩,ayX ⟨b4,cQ,dz,by simp[cd],by simp[e1],by simp[e2],by simp[cx],by simp[eD],by simp[iS],ad⟩⟩
end Go.Proofs.YtdchjefneblpgaaGreat
namespace Go.Proofs.YtdchjefneblpgaaGreat
open Go.Sx Go.RowKit Go.Proofs.Tryz
theorem ata{g:bF}{xs:List ay}(ar:kL g)(aa:∀r∈xs,Input r)(aj:xs.length<=5)(ca:List b6)(hp:ca.length<=81):
  ∃(d:aV) (j:Nat),jX (cE (dn g xs) ca).1 3000=(d,j)/\d.ax=g/\d.ao.length=g.ao.toNat/\d.sz<=1300000/\cr d=true/\
   ∀e:Int,0<=e/\e<=3->∃f:cz,(∀w∈d.ao,kI w e=(f,true))/\(f.b7=false->n4 d e=tj g e xs):=by
 obtain⟨d,j,e1,_,e2,cx,eD,h⟩:=awn ar aa aj ca (by omega);have aP:=zZ ar (by omega) aa;have ai:=ar.size;have aL:=zY aP;have nV:=DY ca (dn g xs);have Ge:=PX (hG 3000 0 3000).toNat (cE (dn g xs) ca).1 0;change (jX (cE (dn g xs) ca).1 3000).1.sz<=_ at Ge;have xh:(hG 3000 0 3000).toNat=3000:=by decide
 rw[xh,e1]at Ge;dsimp only at Ge;exact⟨d,j,e1,e2,cx,by omega,eD,h⟩
end Go.Proofs.YtdchjefneblpgaaGreat
namespace Go.Proofs.YtdchjefneblpgaaGreat
open Go.Sx Go.RowKit Go.Proofs.Tryz
theorem XT(c:aV)(jQ:Int):oo c (jX c jQ).1:=PY _ _ _
theorem Iz(c:aV)(jQ:Int):(jX c jQ).1.sz<=c.sz+1200000:=by
 obtain⟨m,hm,aq⟩:=PZ jQ;unfold jX;rw[hm,mU];have:=PX m c 0;omega
def n'(g:bF)(xs:List ay)(e:Int):List Cell×Bool:=
 if iY g xs then match (jX (dn g xs) 3000).1.ao[0]? with
  | some w=>(n4 (jX (dn g xs) 3000).1 e,(kI w e).2&&!(kI w e).1.b7)
  | none=>([],false)
 else ([],false)
theorem atb(g:bF)(xs:List ay)(e:Int)(ar:g.sz+1300000<=8388608):av 24 [.agg g.e,.one (.J 5 (xs.map ay.e)),.one (I e)] [.one (.J 4 ((n' g xs e).1.map Cell.e)),.one (B (n' g xs e).2)]:=by
 have nw:=OR g xs (by omega);cases h:iY g xs with
 | false=>
  rw[wb h]at nw;rw[show n' g xs e=([],false) by unfold n';rw[h];rfl];exact aqJ ⟨nw,rfl,ad⟩
 | true=>
  rw[zX h]at nw;have ai:=zY h;have cM:=P0 (dn g xs) 3000 (by omega) (Ix g xs);have aL:=Iz (dn g xs) 3000;have aj:=(XT (dn g xs) 3000).wS;have hp:=Yr h;have JZ:n' g xs e=match (jX (dn g xs) 3000).1.ao[0]? with
    | some w=>(n4 (jX (dn g xs) 3000).1 e,(kI w e).2&&!(kI w e).1.b7)
    | none=>([],false):=by unfold n';rw[h];rfl
  rw[JZ];generalize jX (dn g xs) 3000=o at*;obtain⟨w,hw⟩:=cV (xs:=o.1.ao) (i:=0) (by omega);rw[hw];have c0:=ZJ w e (aV.Ek (c:=o.1) (by omega) (cB hw));have vK:=NS o.1 e (by omega);have bE:(o.1.ao.map aN.e)[0]?=some w.e:=by simp[hw]
  dsimp only;cases a':(kI w e).2 with
  | true=>
   rw[a']at c0;rw[lb];exact aqK ⟨nw,rfl,cM,by omega,by rw[cp];omega,bE,c0,vK,rfl,ad⟩
  | false=>
   rw[a']at c0;rw[Bool.false_and];exact aqL ⟨nw,rfl,cM,by omega,by rw[cp];omega,bE,c0,vK,rfl,ad⟩
theorem XU(g:bF)(xs:List ay)(e:Int)(ar:g.sz+1300000<=8388608):av 23 [.agg g.e,.one (.J 5 (xs.map ay.e)),.one (I e)] [.one (.J 4 ((n' g xs e).1.map Cell.e)),.one (B (n' g xs e).2)]:=by
 have nw:=arT g xs (by omega);cases h:iY g xs with
 | false=>
  rw[wb h]at nw;rw[show n' g xs e=([],false) by unfold n';rw[h];rfl];exact aqM ⟨nw,rfl,ad⟩
 | true=>
  rw[zX h]at nw;have ai:=zY h;have cM:=at8 (dn g xs) 3000 (by omega) (Ix g xs);have aL:=Iz (dn g xs) 3000;have aj:=(XT (dn g xs) 3000).wS;have hp:=Yr h;have JZ:n' g xs e=match (jX (dn g xs) 3000).1.ao[0]? with
    | some w=>(n4 (jX (dn g xs) 3000).1 e,(kI w e).2&&!(kI w e).1.b7)
    | none=>([],false):=by unfold n';rw[h];rfl
  rw[JZ];generalize jX (dn g xs) 3000=o at*;obtain⟨w,hw⟩:=cV (xs:=o.1.ao) (i:=0) (by omega);rw[hw];have c0:=avo w e (aV.Ek (c:=o.1) (by omega) (cB hw));have vK:=VT o.1 e (by omega);have bE:(o.1.ao.map aN.e)[0]?=some w.e:=by simp[hw]
  dsimp only;cases a':(kI w e).2 with
  | true=>
   rw[a']at c0;rw[lb];exact aqd ⟨nw,rfl,cM,by omega,by rw[cp];omega,bE,c0,vK,rfl,ad⟩
  | false=>
   rw[a']at c0;rw[Bool.false_and];exact aqe ⟨nw,rfl,cM,by omega,by rw[cp];omega,bE,c0,vK,rfl,ad⟩
theorem atc(g:bF)(xs:List ay)(e:Int)(ar:g.sz+1300000<=8388608):(n' g xs e).1.length<=8388608:=by
 unfold n';cases h:iY g xs with
 | false=>simp
 | true=>
  have ai:=zY h;have aL:=Iz (dn g xs) 3000;rw[bh rfl];split
  ·exact Hq (by omega)
  simp
end Go.Proofs.YtdchjefneblpgaaGreat
namespace Go.Proofs.YtdchjefneblpgaaGreat
open Go.Sx Go.RowKit Go.Proofs.Tryz
theorem atd(b:List Int)(aq:Bytes b):∃(g:bF) (xs:List ay) (e:Int),g.sz<=120/\xs.length<=5/\av 22 [.one (.J 1 (b.map iE))] [.agg g.e,.one (.J 5 (xs.map ay.e)),.one (I e)]:=by
 obtain⟨c,al,hh⟩:=NJ b aq;obtain⟨d1,g,dt,ar,b4⟩:=Iv b c al;obtain⟨d2,x,dm,cQ⟩:=Wu b d1 12 dt (by omega);cases x with
 | true=>
  obtain⟨d3,ek,eY,KA,dz⟩:=as9 b d2 dm;obtain⟨d4,xs,kj,fM,gO,gz⟩:=Ho b d3 eY;obtain⟨d5,k,LW,hk,mR⟩:=hY b d4 5 kj (by omega);exact⟨ek,xs,k-1,KA.1,fM,asc ⟨hh,b4,cQ,rfl,dz,asb ⟨gz,mR,⟨by omega,by omega⟩,ad⟩,ad⟩⟩
 | false=>
  obtain⟨d4,xs,kj,fM,gO,gz⟩:=Ho b d2 dm;obtain⟨d5,k,LW,hk,mR⟩:=hY b d4 5 kj (by omega);have:=ar.size;exact⟨g,xs,k-1,by omega,fM,ase ⟨hh,b4,cQ,rfl,asd ⟨gz,mR,⟨by omega,by omega⟩,ad⟩,ad⟩⟩
theorem ate(b:List Int)(aq:Bytes b):∃(x:aV) (xs:List ay) (e:Int),x.sz<=1300000/\xs.length<=5/\av 25 [.one (.J 1 (b.map iE))] [.agg x.e,.one (.J 5 (xs.map ay.e)),.one (I e)]:=by
 obtain⟨c,al,hh⟩:=NJ b aq;obtain⟨d1,g,dt,ar,b4⟩:=Iv b c al;obtain⟨d2,xs,dm,fM,gO,cQ⟩:=Ho b d1 dt;have aP:=zZ ar (by omega) gO;have ai:=ar.size;have aL:=zY aP;have nw:=OR g xs (by omega);rw[zX aP]at nw;obtain⟨d3,k,eY,hk,dz⟩:=uK b d2 [300,300,5] dm (by simp);have cM:=P0 (dn g xs) k (by omega) (Ix g xs);have nV:=Iz (dn g xs) k;obtain⟨d4,e,kj,he,gz⟩:=hY b d3 4 eY (by omega);exact⟨_,xs,e,by omega,fM,arq ⟨hh,b4,cQ,nw,asf ⟨dz,cM,ad⟩,arp ⟨gz,ad⟩,ad⟩⟩
theorem atf(b:List Int)(g:bF)(xs:List ay)(d:aV)(ai:d.sz<=1300000)(aj:xs.length<=5)(ar:g.sz<=100)(aF:d.ax=g){w:aN}(bE:d.ao[0]?=some w)
  (h:∀e:Int,0<=e/\e<=3->∃f:cz,kI w e=(f,true)/\(f.b7=false->n4 d e=tj g e xs)):
  cN prog (ap f3 0) (vN (b.map iE) (xs.map ay.e) 0 (d.ax.nodes.map Node.e) d.ax.ao d.ax.cap (d.ao.map aN.e) (d.bQ.map bC.e) (d.tokens.map bO.e) (d.news.map bW.e) (g.nodes.map Node.e) g.ao g.cap) (.exit 0) (PL (b.map iE)):=by
 refine dO (P:=prog) (c:=(ap f3 0)) (ci 0) 4 (fun e:Nat=>vN (b.map iE) (xs.map ay.e) e (d.ax.nodes.map Node.e) d.ax.ao d.ax.cap (d.ao.map aN.e) (d.bQ.map bC.e) (d.tokens.map bO.e) (d.news.map bW.e) (g.nodes.map Node.e) g.ao g.cap) (fun e he=>?_) (awr ⟨dE (by omega),ad⟩);obtain⟨f,f1,f2⟩:=h e (by omega);have c0:=ZJ w e (aV.Ej (by omega) (cB bE));rw[f1]at c0;have og:(0:Int)<((d.ao.map aN.e).length:Nat):=by have:=a6 bE;simp;omega
 cases c1:f.b7 with
 | true=>exact awq ⟨dc (by omega),by decide,og,bw aN.e (i:=0) bE,c0,rfl,by rw[c1];rfl,⟨by omega,by omega⟩,ad⟩
 | false=>
  have vK:=NS d e (by omega);have ro:=X5 g e xs (by omega) (by omega);have iy:=X6 d xs e (by omega) (by omega);have aB:IB d xs e=true:=by
   unfold IB;rw[aF,f2 c1];exact o4 rfl
  rw[aB]at iy;have hle:(tj g e xs).length<=8388608:=by
   rw[<-f2 c1];exact Hq (by omega)
  rw[f2 c1]at vK;exact awp ⟨dc (by omega),by decide,og,bw aN.e (i:=0) bE,c0,rfl,by rw[c1];rfl,iy,rfl,vK,ro,ZS hle,rfl,⟨by omega,by omega⟩,ad⟩
def Z5:bF:=⟨[⟨1,0,0,[1]⟩,⟨8,0,0,[]⟩],1,1⟩
theorem atg:(n' Z5 [⟨0,⟨0,0⟩,5,0⟩] 0).2=true:=by decide +kernel
theorem asr(b:List Int)(aq:∀a∈b,(fun n=>0<=n/\n<=255) a):av 3 [.one (.J 1 (b.map iE))] [.one (B true)]:=by
 by_cases FM:(b.length:Int)>1048576
 ·have:=ZT (b.map iE) trivial;rw[o4 (by simpa using FM)]at this;exact awo ⟨this,rfl,ad⟩
 have big:=ZT (b.map iE) trivial;rw[p7 (by simpa using FM)]at big;obtain⟨g,xs,ca,ar,⟨fM,gO⟩,⟨ux,Gs⟩,draw⟩:=arW b ⟨by omega,aq⟩;have aP:=zZ ar (by omega) gO;have ai:=ar.size;have aL:=zY aP;have nw:=OR g xs (by omega);rw[zX aP]at nw;have eo:=Ix g xs;have jd:=at4 (dn g xs) ca (by omega) eo;have nV:=DY ca (dn g xs);have acC:=(Ao ca (dn g xs)).eo eo;have cM:=P0 (cE (dn g xs) ca).1 3000 (by omega) acC;obtain⟨d,j,e1,e2,cx,eD,iS,h⟩:=ata ar gO fM ca ux;rw[e1]at cM;have hw:=ar.ao;obtain⟨w,bE⟩:=cV (xs:=d.ao) (i:=0) (by omega);have fR:=atf b g xs d eD fM ai e2 bE (fun e he=>by
  obtain⟨f,f1,f2⟩:=h e he;exact⟨f,f1 w (cB bE),f2⟩)
 obtain⟨ek,ys,e,g1,gD,acm⟩:=atd b ⟨by omega,aq⟩;have acs:=XU ek ys e (by omega);have BH:=atb ek ys e (by omega);have acx:=atc ek ys e (by omega);obtain⟨x,zs,k,aa,og,acn⟩:=ate b ⟨by omega,aq⟩;have iy:=X6 x zs k (by omega) (by omega);have aBf:=asH x zs k (by omega) (by omega);have two:av 23 [.agg [.J 4 [[I 1,I 0,I 0,.J 1 [[I 1]]],[I 8,I 0,I 0,.v (.slice none 0 0)]],I 1,I 1],.one (.J 5 [[I 0,I 0,I 0,I 5,I 0]]),.one (I 0)] _:=(XU Z5 [⟨0,⟨0,0⟩,5,0⟩] 0 (by decide)).args
  (.cons (.agg (.cons (.J 4 (.cons (kM.refl _) (.cons (.cons (.refl _) (.cons (.refl _) (.cons (.refl _) (.cons (.nil 1) .nil)))) .nil))) (kM.refl _))) (.cons (.one (.refl _)) (.cons (.one (.refl _)) .nil)))
 rw[atg]at two;exact aws ⟨big,rfl,draw,nw,jd,cM,fR,acm,acs,BH,acn,two,by simp,ZS acx,rfl,iy,aBf,by simp,ad⟩
