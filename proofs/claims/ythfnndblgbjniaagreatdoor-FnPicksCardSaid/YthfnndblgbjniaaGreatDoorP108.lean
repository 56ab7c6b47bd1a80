import Derived.Test.YthfnndblgbjniaaGreatDoorP61
import Derived.Test.YthfnndblgbjniaaGreatDoorG3
set_option linter.unusedVariables false
set_option linter.unusedSimpArgs false
namespace Go.Proofs.YthfnndblgbjniaaGreatDoor
open Go.Sx Go.RowKit Go.Proofs.Tryz
theorem L6{v:Int}:Flat [[I v]]:=yW [v]
theorem z8(b:List Int)(k a e:Int):∀(n i:Nat) (xs:List Int) (c:dQ),i+n=2->c.ok b->xs.length<=i->
  ∃(ys:List Int) (d:dQ),d.ok b/\ys.length<=2/\c6 prog (ap f178 0) (uI (b.map hF) i k a e (xs.map bb) 0 0 0 c.i c.h) (.exit 1) (xZ (b.map hF) k a e (ys.map bb) 0 0 0 d.i d.h)
 | n,i,xs,c,n8,ao,ar=>by
  obtain⟨d1,m,cC,ay,bE⟩:=dZ b c 3 ao (by omega);by_cases h:(i:Int)<m
  ·match n with
   | 0=>omega
   | n+1=>
    obtain⟨d2,v,cg,bx,b0⟩:=dZ b d1 2 cC (by omega);obtain⟨ys,d,o,eD,l⟩:=z8 b k a e n (i+1) (xs++[1+(i:Int)*2+v]) d2 (by omega) cg (by simp;omega);refine⟨ys,d,o,eD,.more (aiU ⟨bE,kF h,aiT ⟨⟨by omega,by omega⟩,⟨by omega,by omega⟩,b0,⟨by omega,by omega⟩,by simp;omega,by simp;omega,L6,ad⟩,⟨by omega,by omega⟩,ad⟩) ?_⟩;rw[gx]at l;exact l
  exact⟨xs,d1,cC,by omega,.last (cy 1) (aiV ⟨bE,mg h,ad⟩)⟩
theorem aju(b:List Int)(c:dQ)(ao:c.ok b):∃(d:dQ) (x:Node),d.ok b/\x.outs.length<=2/\b3 prog 178 [.cur (c.e b) (d.e b)] (.vals [.agg x.e]):=by
 obtain⟨d1,n,cC,a',bE⟩:=dZ b c 8 ao (by omega);have i1:aK .i64 (1+n):=⟨by omega,by omega⟩
 by_cases e1:n=1
 ·obtain⟨d2,v,cg,bx,b0⟩:=k' b d1 [0,1,3,10,999] cC (by simp);obtain⟨ys,d,o,eD,l⟩:=z8 b (1+n) v 0 2 0 [] d2 rfl cg (by simp);exact⟨d,⟨1+n,v,0,ys⟩,o,eD,aiW ⟨bE,i1,by simp[e1],b0,by simp[e1],l,ad⟩⟩
 by_cases e2:n=2
 ·obtain⟨d2,v,cg,bx,b0⟩:=dZ b d1 4 cC (by omega);obtain⟨d3,u,cE,hu,ch⟩:=dZ b d2 (1+v) cg (by omega);obtain⟨ys,d,o,eD,l⟩:=z8 b (1+n) (1+v) u 2 0 [] d3 rfl cE (by simp);exact⟨d,⟨1+n,1+v,u,ys⟩,o,eD,aiX ⟨bE,i1,by simp[e2],by simp[e2],b0,⟨by omega,by omega⟩,ch,by simp[e2],l,ad⟩⟩
 by_cases cn:n=3
 ·obtain⟨d2,v,cg,bx,b0⟩:=k' b d1 [0,1,2,3,50,99] cC (by simp);obtain⟨ys,d,o,eD,l⟩:=z8 b (1+n) v 0 2 0 [] d2 rfl cg (by simp);exact⟨d,⟨1+n,v,0,ys⟩,o,eD,aiY ⟨bE,i1,by simp[cn],by simp[cn],by simp[cn],b0,by simp[cn],l,ad⟩⟩
 have f1:(1+n==2)=false:=by simp;omega
 have f2:(1+n==3)=false:=by simp;omega
 have f3:(1+n==4)=false:=by simp;omega
 by_cases oV:n=7
 ·exact⟨d1,⟨1+n,0,0,[]⟩,cC,by simp,ai0 ⟨bE,i1,f1,f2,f3,by simp[oV],ad⟩⟩
 obtain⟨ys,d,o,eD,l⟩:=z8 b (1+n) 0 0 2 0 [] d1 rfl cC (by simp);exact⟨d,⟨1+n,0,0,ys⟩,o,eD,aiZ ⟨bE,i1,f1,f2,f3,by simp;omega,l,ad⟩⟩
theorem ajv(b:List Int)(c:dQ)(ao:c.ok b):∃(d:dQ) (x:Node),d.ok b/\x.outs.length<=3/\b3 prog 124 [.cur (c.e b) (d.e b)] (.vals [.agg x.e]):=by
 obtain⟨d1,x,cC,aq,bE⟩:=aju b c ao;obtain⟨d2,k,cg,ba,b0⟩:=dZ b d1 12 cC (by omega);by_cases bz:k=0
 ·obtain⟨d3,v,cE,bx,ch⟩:=dZ b d2 11 cg (by omega);exact⟨d3,⟨v-1,x.a,x.b,x.outs⟩,cE,by dsimp only;omega,ai1 ⟨bE,b0,by simp[bz],ch,⟨by omega,by omega⟩,ad⟩⟩
 by_cases e1:k=1
 ·obtain⟨d3,v,cE,bx,ch⟩:=k' b d2 [-1,0,1000,100,11] cg (by simp);exact⟨d3,⟨x.kind,v,x.b,x.outs⟩,cE,by dsimp only;omega,ai2 ⟨bE,b0,by simp[bz],by simp[e1],ch,ad⟩⟩
 by_cases e2:k=2
 ·obtain⟨d3,v,cE,bx,ch⟩:=k' b d2 [-1,1,3] cg (by simp);exact⟨d3,⟨x.kind,x.a,v,x.outs⟩,cE,by dsimp only;omega,ai3 ⟨bE,b0,by simp[bz],by simp[e1],by simp[e2],ch,ad⟩⟩
 by_cases cn:k=3
 ·obtain⟨d3,v,cE,bx,ch⟩:=k' b d2 [1,7,8,-1] cg (by simp);have:=aiv ⟨bE,b0,by simp[bz],by simp[e1],by simp[e2],by simp[cn],aiu ⟨ch,by simp;omega,by simp;omega,L6,ad⟩,ad⟩;refine⟨d3,⟨x.kind,x.a,x.b,x.outs++[v]⟩,cE,by simp;omega,?_⟩;unfold Node.e;dsimp only;rw[gx];exact this
 exact⟨d2,x,cg,by omega,aiw ⟨bE,b0,by simp[bz],by simp[e1],by simp[e2],by simp[cn],ad⟩⟩
theorem ajw{α:Type}{sz:α->Nat}(xs ys:List α):fr sz (xs++ys)=fr sz xs+fr sz ys:=by
 unfold fr;simp;omega
theorem UA{α:Type}{sz:α->Nat}:∀(xs:List α) (n:Nat),fr sz (xs.take n)<=fr sz xs
 | [],n=>by simp
 | x::xs,0=>by simp[fr]
 | x::xs,n+1=>by
  have:=UA (sz:=sz) xs n;unfold fr at*;simp only[List.take_succ_cons,ic,mM,Gl];omega
def UB:List D:=[I 8,I 0,I 0,.v (.slice none 0 0)]
def z':Node:=⟨8,0,0,[]⟩
theorem ajx:kH UB z'.e:=.cons (.refl _) (.cons (.refl _) (.cons (.refl _) (.cons (.nil 1) .nil)))
theorem UC:∀(xs:List Node),mi (xs.map Node.e) (xs.map Node.e)
 | []=>.nil
 | x::xs=>.cons (kH.refl _) (UC xs)
theorem UD:∀{es cv:List (List D)} {e e':List D},mi es cv->kH e e'->mi (es++[e]) (cv++[e'])
 | _,_,_,_,.nil,h=>.cons h .nil
 | _,_,_,_,.cons k t,h=>.cons k (UD t h)
theorem UE:∀{es cv:List (List D)},mi es cv->es.length=cv.length
 | _,_,.nil=>rfl
 | _,_,.cons _ t=>by simp[UE t]
theorem UF(b:List Int)(w p:Int):∀(n:Nat) (xs:List Node) (es:List (List D)) (c:dQ),mi es (xs.map Node.e)->xs.length+n=9->fr Node.sz xs<=120-n->n<=9->c.ok b->
  ∃(ys:List Node) (eG:List (List D)) (d:dQ),mi eG (ys.map Node.e)/\fr Node.sz ys<=120/\d.ok b/\c6 prog (ap f72 0) (AZ (b.map hF) es w p 0 0 c.i c.h) (.exit 1) (Kb (b.map hF) eG w p 0 0 d.i d.h)
 | n,xs,es,c,b8,a',ak,eg,ao=>by
  obtain⟨d1,m,cC,ay,bE⟩:=dZ b c 2 ao (by omega);have ar:=UE b8;rw[cr]at ar;by_cases h:(es.length:Int)<8+m
  ·match n with
   | 0=>omega
   | n+1=>
    obtain⟨ys,eG,d,eD,eX,o,l⟩:=UF b w p n (xs++[z']) (es++[UB]) d1 (by
     rw[gx];exact UD b8 ajx) (by simp;omega) (by
     rw[ajw];have:fr Node.sz [z']=1:=rfl;omega) (by omega) cC
    exact⟨ys,eG,d,eD,eX,o,.more (aqC ⟨Q' ⟨bE,⟨by omega,by omega⟩,ad⟩,kF h,by simp;omega,by simp;omega,ad⟩) l⟩
  exact⟨xs,es,d1,b8,by omega,cC,.last (cy 1) (aqD ⟨Q' ⟨bE,⟨by omega,by omega⟩,ad⟩,mg h,ad⟩)⟩
theorem mh.len{g:b5}(h:mh g):1<=g.nodes.length/\g.nodes.length<=8:=by
 have:=h.ok;simp only[ev,av,cH,c3]at this;omega
theorem ajy(b:List Int)(c:dQ)(ao:c.ok b):∃(d:dQ) (g:b5),d.ok b/\(g.sz<=120/\-1<=g.az/\g.az<=5)/\b3 prog 72 [.cur (c.e b) (d.e b)] (.vals [.agg g.e]):=by
 obtain⟨d1,g,cC,ax,bE⟩:=Ro b c ao;have ak:=ax.size;have ar:=ax.len;have YM:=ax.az;have xh:((g.nodes.map Node.e).length:Int)=g.nodes.length:=by simp
 obtain⟨d2,k,cg,ba,b0⟩:=dZ b d1 (g.nodes.length:Int) cC (by omega);rw[<-xh]at b0;obtain⟨d3,m,cE,hm,ch⟩:=dZ b d2 12 cg (by omega);obtain⟨y,bM⟩:=c2 (xs:=g.nodes) (i:=k.toNat) (by omega);have nq:(g.nodes.map Node.e)[k.toNat]?=some y.e:=by rw[dP,bM];rfl
 have zp:k<((g.nodes.map Node.e).length:Int):=by omega
 have iu:∀x:Node,x.sz<=y.sz+3->(⟨g.nodes.set k.toNat x,g.az,g.cap⟩:b5).sz<=120:=fun x aq=>by
  have:=vF (sz:=Node.sz) x bM;unfold b5.sz at ak ⊢;dsimp only;omega
 by_cases bz:m=0
 ·obtain⟨d4,x,fG,aq,eB⟩:=ajv b d3 cE;have:=aqx ⟨bE,b0,ch,by simp[bz],aqw ⟨eB,ba.1,zp,nq,ad⟩,ad⟩;refine⟨d4,⟨g.nodes.set k.toNat x,g.az,g.cap⟩,fG,⟨iu x (by unfold Node.sz;omega),by dsimp only;omega,by dsimp only;omega⟩,?_⟩;unfold b5.e;dsimp only;rw[ib];exact this
 by_cases e1:m=1
 ·obtain⟨d4,v,fG,bx,eB⟩:=k' b d3 [0,4,5,-1] cE (by simp);simp only[eK,nP,or_false]at bx;exact⟨d4,⟨g.nodes,v,g.cap⟩,fG,⟨by unfold b5.sz at ak ⊢;dsimp only;omega,by dsimp only;omega,by dsimp only;omega⟩,aqy ⟨bE,b0,ch,by simp[bz],by simp[e1],eB,ad⟩⟩
 by_cases e2:m=2
 ·obtain⟨d4,v,fG,bx,eB⟩:=k' b d3 [0,4,5,-1] cE (by simp);exact⟨d4,⟨g.nodes,g.az,v⟩,fG,⟨by unfold b5.sz at ak ⊢;dsimp only;omega,by dsimp only;omega,by dsimp only;omega⟩,aqz ⟨bE,b0,ch,by simp[bz],by simp[e1],by simp[e2],eB,ad⟩⟩
 by_cases cn:m=3
 ·obtain⟨d4,v,fG,bx,eB⟩:=dZ b d3 9 cE (by omega);have O3:y.outs.length<=100:=by
   have:=vF (sz:=Node.sz) z' bM;have bp:Node.sz z'=0:=rfl;have:y.sz<=100:=by unfold b5.sz at ak;omega
   exact this
  have:=aqB ⟨bE,b0,ch,by simp[bz],by simp[e1],by simp[e2],by simp[cn],aqA ⟨ba.1,zp,nq,eB,⟨by omega,by omega⟩,by simp;omega,by simp;omega,nq,rfl,rfl,L6,ba.1,zp,nq,rfl,ad⟩,ad⟩;refine⟨d4,⟨g.nodes.set k.toNat ⟨y.kind,y.a,y.b,y.outs++[v-1]⟩,g.az,g.cap⟩,fG,⟨iu _ (by unfold Node.sz;simp),by dsimp only;omega,by dsimp only;omega⟩,?_⟩;unfold b5.e;dsimp only;rw[ib];unfold Node.e;dsimp only;rw[gx];exact this
 by_cases ed:m=4
 ·obtain⟨ys,eG,d,eD,eX,o,l⟩:=UF b g.az g.cap (9-g.nodes.length) g.nodes (g.nodes.map Node.e) d3 (UC _) (by omega) (by unfold b5.sz at ak;omega) (by omega) cE;have:=aqE ⟨bE,b0,ch,by simp[bz],by simp[e1],by simp[e2],by simp[cn],by simp[ed],l,ad⟩;exact⟨d,⟨ys,g.az,g.cap⟩,o,⟨eX,by dsimp only;omega,by dsimp only;omega⟩,this.fit (.cons (.agg (.cons (.J 4 eD) (kH.refl _))) .nil)⟩
 by_cases hP:m=5
 ·have:=aqF ⟨bE,b0,ch,by simp[bz],by simp[e1],by simp[e2],by simp[cn],by simp[ed],by simp[hP],by decide,ba.1,by change k<=_;omega,ad⟩;refine⟨d3,⟨g.nodes.take k.toNat,g.az,g.cap⟩,cE,⟨?_,by dsimp only;omega,by dsimp only;omega⟩,?_⟩
  ·have:=UA (sz:=Node.sz) g.nodes k.toNat;unfold b5.sz at ak ⊢;dsimp only;omega
  unfold b5.e;dsimp only;rw[rV];exact this
 exact⟨d3,g,cE,⟨by omega,by omega,by omega⟩,aqG ⟨bE,b0,ch,by simp[bz],by simp[e1],by simp[e2],by simp[cn],by simp[ed],by simp[hP],ad⟩⟩
