import Derived.Test.YthfnndblgbjniaaGreatDoorP61
import Derived.Test.YthfnndblgbjniaaGreatDoorG3
set_option linter.unusedVariables false
set_option linter.unusedSimpArgs false
namespace Go.Proofs.YthfnndblgbjniaaGreatDoor
open Go.Sx Go.RowKit Go.Proofs.Tryz
theorem JP{v:Int}:Flat [[I v]]:=xq [v]
theorem yU(b:List Int)(k a e:Int):∀(n i:Nat) (xs:List Int) (c:dy),i+n=2->c.ok b->xs.length<=i->
  ∃(ys:List Int) (d:dy),d.ok b/\ys.length<=2/\c0 prog (aq f178 0) (sx (b.map gk) i k a e (xs.map ba) 0 0 0 c.i c.h) (.exit 1) (wm (b.map gk) k a e (ys.map ba) 0 0 0 d.i d.h)
 | n,i,xs,c,oz,ap,au=>by
  obtain⟨d1,m,cx,aw,bF⟩:=dC b c 3 ap (by omega);by_cases h:(i:Int)<m
  ·match n with
   | 0=>omega
   | n+1=>
    obtain⟨d2,v,cd,br,bY⟩:=dC b d1 2 cx (by omega);obtain⟨ys,d,o,e0,l⟩:=yU b k a e n (i+1) (xs++[1+(i:Int)*2+v]) d2 (by omega) cd (by simp;omega);refine⟨ys,d,o,e0,.more (ac1 ⟨bF,j7 h,ac0 ⟨⟨by omega,by omega⟩,⟨by omega,by omega⟩,bY,⟨by omega,by omega⟩,by simp;omega,by simp;omega,JP,ad⟩,⟨by omega,by omega⟩,ad⟩) ?_⟩;rw[gy]at l;exact l
  exact⟨xs,d1,cx,by omega,.last (cI 1) (ac2 ⟨bF,ma h,ad⟩)⟩
theorem afb(b:List Int)(c:dy)(ap:c.ok b):∃(d:dy) (x:Node),d.ok b/\x.outs.length<=2/\bP prog 178 [.cur (c.e b) (d.e b)] (.vals [.agg x.e]):=by
 obtain⟨d1,n,cx,a7,bF⟩:=dC b c 8 ap (by omega);have i1:aK .i64 (1+n):=⟨by omega,by omega⟩
 by_cases e1:n=1
 ·obtain⟨d2,v,cd,br,bY⟩:=j1 b d1 [0,1,3,10,999] cx (by simp);obtain⟨ys,d,o,e0,l⟩:=yU b (1+n) v 0 2 0 [] d2 rfl cd (by simp);exact⟨d,⟨1+n,v,0,ys⟩,o,e0,ac3 ⟨bF,i1,by simp[e1],bY,by simp[e1],l,ad⟩⟩
 by_cases e2:n=2
 ·obtain⟨d2,v,cd,br,bY⟩:=dC b d1 4 cx (by omega);obtain⟨d3,u,cD,hu,cg⟩:=dC b d2 (1+v) cd (by omega);obtain⟨ys,d,o,e0,l⟩:=yU b (1+n) (1+v) u 2 0 [] d3 rfl cD (by simp);exact⟨d,⟨1+n,1+v,u,ys⟩,o,e0,ac4 ⟨bF,i1,by simp[e2],by simp[e2],bY,⟨by omega,by omega⟩,cg,by simp[e2],l,ad⟩⟩
 by_cases ch:n=3
 ·obtain⟨d2,v,cd,br,bY⟩:=j1 b d1 [0,1,2,3,50,99] cx (by simp);obtain⟨ys,d,o,e0,l⟩:=yU b (1+n) v 0 2 0 [] d2 rfl cd (by simp);exact⟨d,⟨1+n,v,0,ys⟩,o,e0,ac5 ⟨bF,i1,by simp[ch],by simp[ch],by simp[ch],bY,by simp[ch],l,ad⟩⟩
 have f1:(1+n==2)=false:=by simp;omega
 have f2:(1+n==3)=false:=by simp;omega
 have f3:(1+n==4)=false:=by simp;omega
 by_cases ng:n=7
 ·exact⟨d1,⟨1+n,0,0,[]⟩,cx,by simp,acx ⟨bF,i1,f1,f2,f3,by simp[ng],ad⟩⟩
 obtain⟨ys,d,o,e0,l⟩:=yU b (1+n) 0 0 2 0 [] d1 rfl cx (by simp);exact⟨d,⟨1+n,0,0,ys⟩,o,e0,acw ⟨bF,i1,f1,f2,f3,by simp;omega,l,ad⟩⟩
theorem afc(b:List Int)(c:dy)(ap:c.ok b):∃(d:dy) (x:Node),d.ok b/\x.outs.length<=3/\bP prog 124 [.cur (c.e b) (d.e b)] (.vals [.agg x.e]):=by
 obtain⟨d1,x,cx,ao,bF⟩:=afb b c ap;obtain⟨d2,k,cd,bc,bY⟩:=dC b d1 12 cx (by omega);by_cases bD:k=0
 ·obtain⟨d3,v,cD,br,cg⟩:=dC b d2 11 cd (by omega);exact⟨d3,⟨v-1,x.a,x.b,x.outs⟩,cD,by dsimp only;omega,acy ⟨bF,bY,by simp[bD],cg,⟨by omega,by omega⟩,ad⟩⟩
 by_cases e1:k=1
 ·obtain⟨d3,v,cD,br,cg⟩:=j1 b d2 [-1,0,1000,100,11] cd (by simp);exact⟨d3,⟨x.kind,v,x.b,x.outs⟩,cD,by dsimp only;omega,acz ⟨bF,bY,by simp[bD],by simp[e1],cg,ad⟩⟩
 by_cases e2:k=2
 ·obtain⟨d3,v,cD,br,cg⟩:=j1 b d2 [-1,1,3] cd (by simp);exact⟨d3,⟨x.kind,x.a,v,x.outs⟩,cD,by dsimp only;omega,acA ⟨bF,bY,by simp[bD],by simp[e1],by simp[e2],cg,ad⟩⟩
 by_cases ch:k=3
 ·obtain⟨d3,v,cD,br,cg⟩:=j1 b d2 [1,7,8,-1] cd (by simp);have:=acC ⟨bF,bY,by simp[bD],by simp[e1],by simp[e2],by simp[ch],acB ⟨cg,by simp;omega,by simp;omega,JP,ad⟩,ad⟩;refine⟨d3,⟨x.kind,x.a,x.b,x.outs++[v]⟩,cD,by simp;omega,?_⟩;unfold Node.e;dsimp only;rw[gy];exact this
 exact⟨d2,x,cd,by omega,acD ⟨bF,bY,by simp[bD],by simp[e1],by simp[e2],by simp[ch],ad⟩⟩
theorem afd{α:Type}{sz:α->Nat}(xs ys:List α):eO sz (xs++ys)=eO sz xs+eO sz ys:=by
 unfold eO;simp;omega
theorem QN{α:Type}{sz:α->Nat}:∀(xs:List α) (n:Nat),eO sz (xs.take n)<=eO sz xs
 | [],n=>by simp
 | x::xs,0=>by simp[eO]
 | x::xs,n+1=>by
  have:=QN (sz:=sz) xs n;unfold eO at*;simp only[List.take_succ_cons,gP,lu,Aq];omega
def Sc:List D:=[I 8,I 0,I 0,.v (.slice none 0 0)]
def yV:Node:=⟨8,0,0,[]⟩
theorem afe:iY Sc yV.e:=.cons (.refl _) (.cons (.refl _) (.cons (.refl _) (.cons (.nil 1) .nil)))
theorem Sd:∀(xs:List Node),kZ (xs.map Node.e) (xs.map Node.e)
 | []=>.nil
 | x::xs=>.cons (iY.refl _) (Sd xs)
theorem Se:∀{es cq:List (List D)} {e e':List D},kZ es cq->iY e e'->kZ (es++[e]) (cq++[e'])
 | _,_,_,_,.nil,h=>.cons h .nil
 | _,_,_,_,.cons k t,h=>.cons k (Se t h)
theorem Sf:∀{es cq:List (List D)},kZ es cq->es.length=cq.length
 | _,_,.nil=>rfl
 | _,_,.cons _ t=>by simp[Sf t]
theorem Sg(b:List Int)(w p:Int):∀(n:Nat) (xs:List Node) (es:List (List D)) (c:dy),kZ es (xs.map Node.e)->xs.length+n=9->eO Node.sz xs<=120-n->n<=9->c.ok b->
  ∃(ys:List Node) (ey:List (List D)) (d:dy),kZ ey (ys.map Node.e)/\eO Node.sz ys<=120/\d.ok b/\c0 prog (aq f72 0) (yo (b.map gk) es w p 0 0 c.i c.h) (.exit 1) (HH (b.map gk) ey w p 0 0 d.i d.h)
 | n,xs,es,c,b7,a7,aj,dZ,ap=>by
  obtain⟨d1,m,cx,aw,bF⟩:=dC b c 2 ap (by omega);have au:=Sf b7;rw[cr]at au;by_cases h:(es.length:Int)<8+m
  ·match n with
   | 0=>omega
   | n+1=>
    obtain⟨ys,ey,d,e0,eU,o,l⟩:=Sg b w p n (xs++[yV]) (es++[Sc]) d1 (by
     rw[gy];exact Se b7 afe) (by simp;omega) (by
     rw[afd];have:eO Node.sz [yV]=1:=rfl;omega) (by omega) cx
    exact⟨ys,ey,d,e0,eU,o,.more (ak8 ⟨O6 ⟨bF,⟨by omega,by omega⟩,ad⟩,j7 h,by simp;omega,by simp;omega,ad⟩) l⟩
  exact⟨xs,es,d1,b7,by omega,cx,.last (cI 1) (ak9 ⟨O6 ⟨bF,⟨by omega,by omega⟩,ad⟩,ma h,ad⟩)⟩
theorem kY.len{g:b1}(h:kY g):1<=g.nodes.length/\g.nodes.length<=8:=by
 have:=h.ok;simp only[ei,av,cJ,cW]at this;omega
theorem aff(b:List Int)(c:dy)(ap:c.ok b):∃(d:dy) (g:b1),d.ok b/\(g.sz<=120/\-1<=g.aB/\g.aB<=5)/\bP prog 72 [.cur (c.e b) (d.e b)] (.vals [.agg g.e]):=by
 obtain⟨d1,g,cx,ay,bF⟩:=Jp b c ap;have aj:=ay.size;have au:=ay.len;have V1:=ay.aB;have vL:((g.nodes.map Node.e).length:Int)=g.nodes.length:=by simp
 obtain⟨d2,k,cd,bc,bY⟩:=dC b d1 (g.nodes.length:Int) cx (by omega);rw[<-vL]at bY;obtain⟨d3,m,cD,hm,cg⟩:=dC b d2 12 cd (by omega);obtain⟨y,bO⟩:=cS (xs:=g.nodes) (i:=k.toNat) (by omega);have lP:(g.nodes.map Node.e)[k.toNat]?=some y.e:=by rw[dk,bO];rfl
 have Fu:k<((g.nodes.map Node.e).length:Int):=by omega
 have iA:∀x:Node,x.sz<=y.sz+3->(⟨g.nodes.set k.toNat x,g.aB,g.cap⟩:b1).sz<=120:=fun x ao=>by
  have:=ux (sz:=Node.sz) x bO;unfold b1.sz at aj ⊢;dsimp only;omega
 by_cases bD:m=0
 ·obtain⟨d4,x,eX,ao,dQ⟩:=afc b d3 cD;have:=ak3 ⟨bF,bY,cg,by simp[bD],ak2 ⟨dQ,bc.1,Fu,lP,ad⟩,ad⟩;refine⟨d4,⟨g.nodes.set k.toNat x,g.aB,g.cap⟩,eX,⟨iA x (by unfold Node.sz;omega),by dsimp only;omega,by dsimp only;omega⟩,?_⟩;unfold b1.e;dsimp only;rw[jK];exact this
 by_cases e1:m=1
 ·obtain⟨d4,v,eX,br,dQ⟩:=j1 b d3 [0,4,5,-1] cD (by simp);simp only[ep,l9,or_false]at br;exact⟨d4,⟨g.nodes,v,g.cap⟩,eX,⟨by unfold b1.sz at aj ⊢;dsimp only;omega,by dsimp only;omega,by dsimp only;omega⟩,ak4 ⟨bF,bY,cg,by simp[bD],by simp[e1],dQ,ad⟩⟩
 by_cases e2:m=2
 ·obtain⟨d4,v,eX,br,dQ⟩:=j1 b d3 [0,4,5,-1] cD (by simp);exact⟨d4,⟨g.nodes,g.aB,v⟩,eX,⟨by unfold b1.sz at aj ⊢;dsimp only;omega,by dsimp only;omega,by dsimp only;omega⟩,ak5 ⟨bF,bY,cg,by simp[bD],by simp[e1],by simp[e2],dQ,ad⟩⟩
 by_cases ch:m=3
 ·obtain⟨d4,v,eX,br,dQ⟩:=dC b d3 9 cD (by omega);have M0:y.outs.length<=100:=by
   have:=ux (sz:=Node.sz) yV bO;have bk:Node.sz yV=0:=rfl;have:y.sz<=100:=by unfold b1.sz at aj;omega
   exact this
  have:=ak7 ⟨bF,bY,cg,by simp[bD],by simp[e1],by simp[e2],by simp[ch],ak6 ⟨bc.1,Fu,lP,dQ,⟨by omega,by omega⟩,by simp;omega,by simp;omega,lP,rfl,rfl,JP,bc.1,Fu,lP,rfl,ad⟩,ad⟩;refine⟨d4,⟨g.nodes.set k.toNat ⟨y.kind,y.a,y.b,y.outs++[v-1]⟩,g.aB,g.cap⟩,eX,⟨iA _ (by unfold Node.sz;simp),by dsimp only;omega,by dsimp only;omega⟩,?_⟩;unfold b1.e;dsimp only;rw[jK];unfold Node.e;dsimp only;rw[gy];exact this
 by_cases dP:m=4
 ·obtain⟨ys,ey,d,e0,eU,o,l⟩:=Sg b g.aB g.cap (9-g.nodes.length) g.nodes (g.nodes.map Node.e) d3 (Sd _) (by omega) (by unfold b1.sz at aj;omega) (by omega) cD;have:=ala ⟨bF,bY,cg,by simp[bD],by simp[e1],by simp[e2],by simp[ch],by simp[dP],l,ad⟩;exact⟨d,⟨ys,g.aB,g.cap⟩,o,⟨eU,by dsimp only;omega,by dsimp only;omega⟩,this.fit (.cons (.agg (.cons (.J 4 e0) (iY.refl _))) .nil)⟩
 by_cases gT:m=5
 ·have:=alb ⟨bF,bY,cg,by simp[bD],by simp[e1],by simp[e2],by simp[ch],by simp[dP],by simp[gT],by decide,bc.1,by change k<=_;omega,ad⟩;refine⟨d3,⟨g.nodes.take k.toNat,g.aB,g.cap⟩,cD,⟨?_,by dsimp only;omega,by dsimp only;omega⟩,?_⟩
  ·have:=QN (sz:=Node.sz) g.nodes k.toNat;unfold b1.sz at aj ⊢;dsimp only;omega
  unfold b1.e;dsimp only;rw[tk];exact this
 exact⟨d3,g,cD,⟨by omega,by omega,by omega⟩,akm ⟨bF,bY,cg,by simp[bD],by simp[e1],by simp[e2],by simp[ch],by simp[dP],by simp[gT],ad⟩⟩
