import Derived.Test.YtdchjefneblpgaaGreatP61
import Derived.Test.YtdchjefneblpgaaGreatG3
set_option linter.unusedVariables false
set_option linter.unusedSimpArgs false
namespace Go.Proofs.YtdchjefneblpgaaGreat
open Go.Sx Go.RowKit Go.Proofs.Tryz
theorem KA{v:Int}:Flat [[I v]]:=yq [v]
theorem z7(b:List Int)(k a e:Int):∀(n i:Nat) (xs:List Int) (c:dC),i+n=2->c.ok b->xs.length<=i->
  ∃(ys:List Int) (d:dC),d.ok b/\ys.length<=2/\c0 prog (ar f319 0) (tr (b.map hd) i k a e (xs.map a8) 0 0 0 c.i c.h) (.exit 1) (xo (b.map hd) k a e (ys.map a8) 0 0 0 d.i d.h)
 | n,i,xs,c,pC,ah,ak=>by
  obtain⟨d1,m,cn,aq,bI⟩:=dW b c 3 ah (by omega);by_cases h:(i:Int)<m
  ·match n with
   | 0=>omega
   | n+1=>
    obtain⟨d2,v,ca,bA,bZ⟩:=dW b d1 2 cn (by omega);obtain⟨ys,d,o,ff,l⟩:=z7 b k a e n (i+1) (xs++[1+(i:Int)*2+v]) d2 (by omega) ca (by simp;omega);refine⟨ys,d,o,ff,.more (adV ⟨bI,j3 h,adU ⟨⟨by omega,by omega⟩,⟨by omega,by omega⟩,bZ,⟨by omega,by omega⟩,by simp;omega,by simp;omega,KA,aa⟩,⟨by omega,by omega⟩,aa⟩) ?_⟩;rw[ha]at l;exact l
  exact⟨xs,d1,cn,by omega,.last (cM 1) (adW ⟨bI,ly h,aa⟩)⟩
theorem agu(b:List Int)(c:dC)(ah:c.ok b):∃(d:dC) (x:Node),d.ok b/\x.outs.length<=2/\bT prog 319 [.cur (c.e b) (d.e b)] (.vals [.agg x.e]):=by
 obtain⟨d1,n,cn,aT,bI⟩:=dW b c 8 ah (by omega);have i1:az .i64 (1+n):=⟨by omega,by omega⟩
 by_cases e1:n=1
 ·obtain⟨d2,v,ca,bA,bZ⟩:=ke b d1 [0,1,3,10,999] cn (by simp);obtain⟨ys,d,o,ff,l⟩:=z7 b (1+n) v 0 2 0 [] d2 rfl ca (by simp);exact⟨d,⟨1+n,v,0,ys⟩,o,ff,adX ⟨bI,i1,by simp[e1],bZ,by simp[e1],l,aa⟩⟩
 by_cases e2:n=2
 ·obtain⟨d2,v,ca,bA,bZ⟩:=dW b d1 4 cn (by omega);obtain⟨d3,u,cB,hu,ch⟩:=dW b d2 (1+v) ca (by omega);obtain⟨ys,d,o,ff,l⟩:=z7 b (1+n) (1+v) u 2 0 [] d3 rfl cB (by simp);exact⟨d,⟨1+n,1+v,u,ys⟩,o,ff,adY ⟨bI,i1,by simp[e2],by simp[e2],bZ,⟨by omega,by omega⟩,ch,by simp[e2],l,aa⟩⟩
 by_cases cc:n=3
 ·obtain⟨d2,v,ca,bA,bZ⟩:=ke b d1 [0,1,2,3,50,99] cn (by simp);obtain⟨ys,d,o,ff,l⟩:=z7 b (1+n) v 0 2 0 [] d2 rfl ca (by simp);exact⟨d,⟨1+n,v,0,ys⟩,o,ff,adZ ⟨bI,i1,by simp[cc],by simp[cc],by simp[cc],bZ,by simp[cc],l,aa⟩⟩
 have f1:(1+n==2)=false:=by simp;omega
 have f2:(1+n==3)=false:=by simp;omega
 have f3:(1+n==4)=false:=by simp;omega
 by_cases mn:n=7
 ·exact⟨d1,⟨1+n,0,0,[]⟩,cn,by simp,afr ⟨bI,i1,f1,f2,f3,by simp[mn],aa⟩⟩
 obtain⟨ys,d,o,ff,l⟩:=z7 b (1+n) 0 0 2 0 [] d1 rfl cn (by simp);exact⟨d,⟨1+n,0,0,ys⟩,o,ff,afq ⟨bI,i1,f1,f2,f3,by simp;omega,l,aa⟩⟩
theorem agv(b:List Int)(c:dC)(ah:c.ok b):∃(d:dC) (x:Node),d.ok b/\x.outs.length<=3/\bT prog 252 [.cur (c.e b) (d.e b)] (.vals [.agg x.e]):=by
 obtain⟨d1,x,cn,ag,bI⟩:=agu b c ah;obtain⟨d2,k,ca,hk,bZ⟩:=dW b d1 12 cn (by omega);by_cases bz:k=0
 ·obtain⟨d3,v,cB,bA,ch⟩:=dW b d2 11 ca (by omega);exact⟨d3,⟨v-1,x.a,x.b,x.outs⟩,cB,by dsimp only;omega,afs ⟨bI,bZ,by simp[bz],ch,⟨by omega,by omega⟩,aa⟩⟩
 by_cases e1:k=1
 ·obtain⟨d3,v,cB,bA,ch⟩:=ke b d2 [-1,0,1000,100,11] ca (by simp);exact⟨d3,⟨x.kind,v,x.b,x.outs⟩,cB,by dsimp only;omega,aft ⟨bI,bZ,by simp[bz],by simp[e1],ch,aa⟩⟩
 by_cases e2:k=2
 ·obtain⟨d3,v,cB,bA,ch⟩:=ke b d2 [-1,1,3] ca (by simp);exact⟨d3,⟨x.kind,x.a,v,x.outs⟩,cB,by dsimp only;omega,afu ⟨bI,bZ,by simp[bz],by simp[e1],by simp[e2],ch,aa⟩⟩
 by_cases cc:k=3
 ·obtain⟨d3,v,cB,bA,ch⟩:=ke b d2 [1,7,8,-1] ca (by simp);have:=afw ⟨bI,bZ,by simp[bz],by simp[e1],by simp[e2],by simp[cc],afv ⟨ch,by simp;omega,by simp;omega,KA,aa⟩,aa⟩;refine⟨d3,⟨x.kind,x.a,x.b,x.outs++[v]⟩,cB,by simp;omega,?_⟩;unfold Node.e;dsimp only;rw[ha];exact this
 exact⟨d2,x,ca,by omega,afx ⟨bI,bZ,by simp[bz],by simp[e1],by simp[e2],by simp[cc],aa⟩⟩
theorem agw{α:Type}{sz:α->Nat}(xs ys:List α):eZ sz (xs++ys)=eZ sz xs+eZ sz ys:=by
 unfold eZ;simp;omega
theorem Tp{α:Type}{sz:α->Nat}:∀(xs:List α) (n:Nat),eZ sz (xs.take n)<=eZ sz xs
 | [],n=>by simp
 | x::xs,0=>by simp[eZ]
 | x::xs,n+1=>by
  have:=Tp (sz:=sz) xs n;unfold eZ at*;simp only[List.take_succ_cons,dH,l2,uo];omega
def Tq:List D:=[I 8,I 0,I 0,.v (.slice none 0 0)]
def z8:Node:=⟨8,0,0,[]⟩
theorem agx:jN Tq z8.e:=.cons (.refl _) (.cons (.refl _) (.cons (.refl _) (.cons (.nil 1) .nil)))
theorem Tr:∀(xs:List Node),lA (xs.map Node.e) (xs.map Node.e)
 | []=>.nil
 | x::xs=>.cons (jN.refl _) (Tr xs)
theorem Ts:∀{es cv:List (List D)} {e e':List D},lA es cv->jN e e'->lA (es++[e]) (cv++[e'])
 | _,_,_,_,.nil,h=>.cons h .nil
 | _,_,_,_,.cons k t,h=>.cons k (Ts t h)
theorem Tt:∀{es cv:List (List D)},lA es cv->es.length=cv.length
 | _,_,.nil=>rfl
 | _,_,.cons _ t=>by simp[Tt t]
theorem Tu(b:List Int)(w p:Int):∀(n:Nat) (xs:List Node) (es:List (List D)) (c:dC),lA es (xs.map Node.e)->xs.length+n=9->eZ Node.sz xs<=120-n->n<=9->c.ok b->
  ∃(ys:List Node) (ep:List (List D)) (d:dC),lA ep (ys.map Node.e)/\eZ Node.sz ys<=120/\d.ok b/\c0 prog (ar f137 0) (zC (b.map hd) es w p 0 0 c.i c.h) (.exit 1) (J2 (b.map hd) ep w p 0 0 d.i d.h)
 | n,xs,es,c,bY,aT,ai,ed,ah=>by
  obtain⟨d1,m,cn,aq,bI⟩:=dW b c 2 ah (by omega);have ak:=Tt bY;rw[bm]at ak;by_cases h:(es.length:Int)<8+m
  ·match n with
   | 0=>omega
   | n+1=>
    obtain⟨ys,ep,d,ff,fa,o,l⟩:=Tu b w p n (xs++[z8]) (es++[Tq]) d1 (by
     rw[ha];exact Ts bY agx) (by simp;omega) (by
     rw[agw];have:eZ Node.sz [z8]=1:=rfl;omega) (by omega) cn
    exact⟨ys,ep,d,ff,fa,o,.more (alm ⟨P8 ⟨bI,⟨by omega,by omega⟩,aa⟩,j3 h,by simp;omega,by simp;omega,aa⟩) l⟩
  exact⟨xs,es,d1,bY,by omega,cn,.last (cM 1) (aln ⟨P8 ⟨bI,⟨by omega,by omega⟩,aa⟩,ly h,aa⟩)⟩
theorem lz.len{g:b1}(h:lz g):1<=g.nodes.length/\g.nodes.length<=8:=by
 have:=h.ok;simp only[eA,ap,cq,cK]at this;omega
theorem agy(b:List Int)(c:dC)(ah:c.ok b):∃(d:dC) (g:b1),d.ok b/\(g.sz<=120/\-1<=g.ay/\g.ay<=5)/\bT prog 137 [.cur (c.e b) (d.e b)] (.vals [.agg g.e]):=by
 obtain⟨d1,g,cn,au,bI⟩:=Q9 b c ah;have ai:=au.size;have ak:=au.len;have Xg:=au.ay;have wN:((g.nodes.map Node.e).length:Int)=g.nodes.length:=by simp
 obtain⟨d2,k,ca,hk,bZ⟩:=dW b d1 (g.nodes.length:Int) cn (by omega);rw[<-wN]at bZ;obtain⟨d3,m,cB,hm,ch⟩:=dW b d2 12 ca (by omega);obtain⟨y,bn⟩:=cY (xs:=g.nodes) (i:=k.toNat) (by omega);have mD:(g.nodes.map Node.e)[k.toNat]?=some y.e:=by rw[dd,bn];rfl
 have Gr:k<((g.nodes.map Node.e).length:Int):=by omega
 have jF:∀x:Node,x.sz<=y.sz+3->(⟨g.nodes.set k.toNat x,g.ay,g.cap⟩:b1).sz<=120:=fun x ag=>by
  have:=vv (sz:=Node.sz) x bn;unfold b1.sz at ai ⊢;dsimp only;omega
 by_cases bz:m=0
 ·obtain⟨d4,x,e6,ag,ei⟩:=agv b d3 cB;have:=alg ⟨bI,bZ,ch,by simp[bz],alf ⟨ei,hk.1,Gr,mD,aa⟩,aa⟩;refine⟨d4,⟨g.nodes.set k.toNat x,g.ay,g.cap⟩,e6,⟨jF x (by unfold Node.sz;omega),by dsimp only;omega,by dsimp only;omega⟩,?_⟩;unfold b1.e;dsimp only;rw[iB];exact this
 by_cases e1:m=1
 ·obtain⟨d4,v,e6,bA,ei⟩:=ke b d3 [0,4,5,-1] cB (by simp);simp only[et,mX,or_false]at bA;exact⟨d4,⟨g.nodes,v,g.cap⟩,e6,⟨by unfold b1.sz at ai ⊢;dsimp only;omega,by dsimp only;omega,by dsimp only;omega⟩,alh ⟨bI,bZ,ch,by simp[bz],by simp[e1],ei,aa⟩⟩
 by_cases e2:m=2
 ·obtain⟨d4,v,e6,bA,ei⟩:=ke b d3 [0,4,5,-1] cB (by simp);exact⟨d4,⟨g.nodes,g.ay,v⟩,e6,⟨by unfold b1.sz at ai ⊢;dsimp only;omega,by dsimp only;omega,by dsimp only;omega⟩,ali ⟨bI,bZ,ch,by simp[bz],by simp[e1],by simp[e2],ei,aa⟩⟩
 by_cases cc:m=3
 ·obtain⟨d4,v,e6,bA,ei⟩:=dW b d3 9 cB (by omega);have N2:y.outs.length<=100:=by
   have:=vv (sz:=Node.sz) z8 bn;have bd:Node.sz z8=0:=rfl;have:y.sz<=100:=by unfold b1.sz at ai;omega
   exact this
  have:=alk ⟨bI,bZ,ch,by simp[bz],by simp[e1],by simp[e2],by simp[cc],alj ⟨hk.1,Gr,mD,ei,⟨by omega,by omega⟩,by simp;omega,by simp;omega,mD,rfl,rfl,KA,hk.1,Gr,mD,rfl,aa⟩,aa⟩;refine⟨d4,⟨g.nodes.set k.toNat ⟨y.kind,y.a,y.b,y.outs++[v-1]⟩,g.ay,g.cap⟩,e6,⟨jF _ (by unfold Node.sz;simp),by dsimp only;omega,by dsimp only;omega⟩,?_⟩;unfold b1.e;dsimp only;rw[iB];unfold Node.e;dsimp only;rw[ha];exact this
 by_cases ec:m=4
 ·obtain⟨ys,ep,d,ff,fa,o,l⟩:=Tu b g.ay g.cap (9-g.nodes.length) g.nodes (g.nodes.map Node.e) d3 (Tr _) (by omega) (by unfold b1.sz at ai;omega) (by omega) cB;have:=alo ⟨bI,bZ,ch,by simp[bz],by simp[e1],by simp[e2],by simp[cc],by simp[ec],l,aa⟩;exact⟨d,⟨ys,g.ay,g.cap⟩,o,⟨fa,by dsimp only;omega,by dsimp only;omega⟩,this.fit (.cons (.agg (.cons (.J 4 ff) (jN.refl _))) .nil)⟩
 by_cases gQ:m=5
 ·have:=alp ⟨bI,bZ,ch,by simp[bz],by simp[e1],by simp[e2],by simp[cc],by simp[ec],by simp[gQ],by decide,hk.1,by change k<=_;omega,aa⟩;refine⟨d3,⟨g.nodes.take k.toNat,g.ay,g.cap⟩,cB,⟨?_,by dsimp only;omega,by dsimp only;omega⟩,?_⟩
  ·have:=Tp (sz:=Node.sz) g.nodes k.toNat;unfold b1.sz at ai ⊢;dsimp only;omega
  unfold b1.e;dsimp only;rw[uk];exact this
 exact⟨d3,g,cB,⟨by omega,by omega,by omega⟩,alq ⟨bI,bZ,ch,by simp[bz],by simp[e1],by simp[e2],by simp[cc],by simp[ec],by simp[gQ],aa⟩⟩
