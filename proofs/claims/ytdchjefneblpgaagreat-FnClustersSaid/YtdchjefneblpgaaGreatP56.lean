import Derived.Test.YtdchjefneblpgaaGreatP92
import Derived.Test.YtdchjefneblpgaaGreatG3
import Derived.Test.YtdchjefneblpgaaGreatG4
import Derived.Test.YtdchjefneblpgaaGreatG1
import Derived.Test.YtdchjefneblpgaaGreatGT
set_option linter.unusedVariables false
set_option linter.unusedSimpArgs false
namespace Go.Proofs.YtdchjefneblpgaaGreat
open Go.Sx Go.RowKit Go.Proofs.Tryz
end Go.Proofs.YtdchjefneblpgaaGreat
namespace Go.Proofs.YtdchjefneblpgaaGreat
open Go.Sx Go.RowKit Go.Proofs.Tryz
end Go.Proofs.YtdchjefneblpgaaGreat
namespace Go.Proofs.YtdchjefneblpgaaGreat
open Go.Sx Go.RowKit Go.Proofs.Tryz
theorem Grown.run{g:bS}{xs:List aB}{x:a8}(h:Grown g xs x):∃(d:a8) (j:Nat) (P:kC) (T:Int),oK x 3000=(d,j)/\j<3000/\Live P T d/\T<=200000/\d.aC=x.aC/\Hb d/\∀p∈fZ d,(dA d p).2=false:=by
 obtain⟨P,S,Dz,ag,iz,DP⟩:=h.live;obtain⟨d,j,T,e⟩:=arT h.drawn h.input h.few Dz ag iz DP;exact⟨d,j,P,T,e⟩
end Go.Proofs.YtdchjefneblpgaaGreat
namespace Go.Proofs.YtdchjefneblpgaaGreat
open Go.Sx Go.RowKit Go.Proofs.Tryz
def Fair(r:aB):Prop:=(0<=r.op/\r.op<5)/\(0<=r.bq.bh/\r.bq.bh<4)/\(0<=r.bq.di/\r.bq.di<5)/\(0<=r.key/\r.key<12)/\(0<=r.val/\r.val<40)
theorem wl{n:Int}(h1:-9223372036854775808<=n)(U:n<=9223372036854775807):aG .i64 n:=⟨h1,U⟩
theorem Fair.wf{r:aB}(h:Fair r):r.wf:=by
 obtain⟨h1,U,ax,aK,a7⟩:=h;exact⟨wl (by omega) (by omega),⟨wl (by omega) (by omega),wl (by omega) (by omega)⟩,wl (by omega) (by omega),wl (by omega) (by omega)⟩
theorem Wx(b:List Int)(c:dH)(ak:c.ok b):∃(d:dH) (s:hG),d.ok b/\((0<=s.bh/\s.bh<4)/\(0<=s.di/\s.di<5))/\bZ prog 325 [.cur (c.e b) (d.e b)] (.vals [.agg s.e]):=by
 obtain⟨d1,x,cv,h1,bI⟩:=dW b c 4 ak (by omega);obtain⟨d2,y,ca,U,b2⟩:=dW b d1 5 cv (by omega);exact⟨d2,⟨x,y⟩,ca,⟨h1,U⟩,alV ⟨bI,b2,ad⟩⟩
theorem BV{n:Int}{xs:List Int}(h:n∈xs)(aa:(xs.all fun x=>decide (-9223372036854775808<=x)&&decide (x<=9223372036854775807))=true):aG .i64 n:=by
 have:=fK.1 aa n h;simp only[cm,cr]at this;exact this
theorem arU(b:List Int)(c:dH)(ak:c.ok b):∃(d:dH) (s:hG),d.ok b/\s.wf/\bZ prog 272 [.cur (c.e b) (d.e b)] (.vals [.agg s.e]):=by
 obtain⟨d1,s,cv,⟨h1,U⟩,bI⟩:=Wx b c ak;obtain⟨d2,k,ca,ax,b2⟩:=dW b d1 10 cv (by omega);have w1:aG .i64 s.bh:=wl (by omega) (by omega);have lg:aG .i64 s.di:=wl (by omega) (by omega);by_cases bM:k=0
 ·obtain⟨d3,x,cD,aK,cj⟩:=mf b d2 [-1,3,4,9223372036854775807] ca (by simp);exact⟨d3,⟨x,s.di⟩,cD,⟨BV aK (by decide),lg⟩,alW ⟨bI,b2,by simp[bM],cj,ad⟩⟩
 by_cases e1:k=1
 ·obtain⟨d3,x,cD,aK,cj⟩:=mf b d2 [-1,5,6,7,-9223372036854775808] ca (by simp);exact⟨d3,⟨s.bh,x⟩,cD,⟨w1,BV aK (by decide)⟩,alX ⟨bI,b2,by simp[bM],by simp[e1],cj,ad⟩⟩
 exact⟨d2,s,ca,⟨w1,lg⟩,alY ⟨bI,b2,by simp[bM],by simp[e1],ad⟩⟩
theorem FB(b:List Int)(c:dH)(ak:c.ok b):∃(d:dH) (r:aB),d.ok b/\Fair r/\bZ prog 271 [.cur (c.e b) (d.e b)] (.vals [.agg r.e]):=by
 obtain⟨d1,x,cv,h1,bI⟩:=dW b c 5 ak (by omega);obtain⟨d2,s,ca,⟨U,ax⟩,b2⟩:=Wx b d1 cv;obtain⟨d3,k,cD,aK,cj⟩:=dW b d2 12 ca (by omega);obtain⟨d4,v,ff,a7,dS⟩:=dW b d3 40 cD (by omega);exact⟨d4,⟨x,s,k,v⟩,ff,⟨h1,U,ax,aK,a7⟩,alZ ⟨bI,b2,cj,dS,ad⟩⟩
theorem Nd(b:List Int)(c:dH)(ak:c.ok b):∃(d:dH) (r:aB),d.ok b/\r.wf/\bZ prog 178 [.cur (c.e b) (d.e b)] (.vals [.agg r.e]):=by
 obtain⟨d1,r,cv,aA,bI⟩:=FB b c ak;obtain⟨w1,lg,NP,NQ⟩:=aA.wf;obtain⟨d2,k,ca,ax,b2⟩:=dW b d1 12 cv (by omega);by_cases bM:k=0
 ·obtain⟨d3,x,cD,aK,cj⟩:=mf b d2 [-1,7,8] ca (by simp);exact⟨d3,⟨x,r.bq,r.key,r.val⟩,cD,⟨BV aK (by decide),lg,NP,NQ⟩,al0 ⟨bI,b2,by simp[bM],cj,ad⟩⟩
 by_cases e1:k=1
 ·obtain⟨d3,s,cD,aK,cj⟩:=arU b d2 ca;exact⟨d3,⟨r.op,s,r.key,r.val⟩,cD,⟨w1,aK,NP,NQ⟩,al1 ⟨bI,b2,by simp[bM],by simp[e1],cj,ad⟩⟩
 by_cases e2:k=2
 ·obtain⟨d3,x,cD,aK,cj⟩:=mf b d2 [-1,99,100,-9223372036854775808] ca (by simp);exact⟨d3,⟨r.op,r.bq,x,r.val⟩,cD,⟨w1,lg,BV aK (by decide),NQ⟩,al2 ⟨bI,b2,by simp[bM],by simp[e1],by simp[e2],cj,ad⟩⟩
 by_cases ck:k=3
 ·obtain⟨d3,x,cD,aK,cj⟩:=mf b d2 [-1,999,1000,9223372036854775807] ca (by simp);exact⟨d3,⟨r.op,r.bq,r.key,x⟩,cD,⟨w1,lg,NP,BV aK (by decide)⟩,al3 ⟨bI,b2,by simp[bM],by simp[e1],by simp[e2],by simp[ck],cj,ad⟩⟩
 exact⟨d2,r,ca,aA.wf,anw ⟨bI,b2,by simp[bM],by simp[e1],by simp[e2],by simp[ck],ad⟩⟩
theorem tO(r:aB):Flat [r.e]:=dU fun d aE=>by
 simp only[aB.e,ez,n1,or_false]at aE;rcases aE with rfl | rfl | rfl | rfl | rfl<;>exact⟨_,rfl⟩
end Go.Proofs.YtdchjefneblpgaaGreat
namespace Go.Proofs.YtdchjefneblpgaaGreat
open Go.Sx Go.RowKit Go.Proofs.Tryz
theorem Nf{v:Int}:Flat [[I v]]:=Dw [v]
theorem BW(b:List Int)(k a e:Int):∀(n i:Nat) (xs:List Int) (c:dH),i+n=2->c.ok b->xs.length<=i->
  ∃(ys:List Int) (d:dH),d.ok b/\ys.length<=2/\c' prog (aq f319 0) (uQ (b.map gm) i k a e (xs.map bb) 0 0 0 c.i c.h) (.exit 1) (zt (b.map gm) k a e (ys.map bb) 0 0 0 d.i d.h)
 | n,i,xs,c,i',ak,ag=>by
  obtain⟨d1,m,cv,aj,bI⟩:=dW b c 3 ak (by omega);by_cases h:(i:Int)<m
  ·match n with
   | 0=>omega
   | n+1=>
    obtain⟨d2,v,ca,bF,b2⟩:=dW b d1 2 cv (by omega);obtain⟨ys,d,o,fp,l⟩:=BW b k a e n (i+1) (xs++[1+(i:Int)*2+v]) d2 (by omega) ca (by simp;omega);refine⟨ys,d,o,fp,.more (aoC ⟨bI,iV h,aoB ⟨⟨by omega,by omega⟩,⟨by omega,by omega⟩,b2,⟨by omega,by omega⟩,by simp;omega,by simp;omega,Nf,ad⟩,⟨by omega,by omega⟩,ad⟩) ?_⟩;rw[gW]at l;exact l
  exact⟨xs,d1,cv,by omega,.last (cC 1) (aoD ⟨bI,lN h,ad⟩)⟩
theorem arV(b:List Int)(c:dH)(ak:c.ok b):∃(d:dH) (x:Node),d.ok b/\x.outs.length<=2/\bZ prog 319 [.cur (c.e b) (d.e b)] (.vals [.agg x.e]):=by
 obtain⟨d1,n,cv,aR,bI⟩:=dW b c 8 ak (by omega);have i1:aG .i64 (1+n):=⟨by omega,by omega⟩
 by_cases e1:n=1
 ·obtain⟨d2,v,ca,bF,b2⟩:=mf b d1 [0,1,3,10,999] cv (by simp);obtain⟨ys,d,o,fp,l⟩:=BW b (1+n) v 0 2 0 [] d2 rfl ca (by simp);exact⟨d,⟨1+n,v,0,ys⟩,o,fp,aoE ⟨bI,i1,by simp[e1],b2,by simp[e1],l,ad⟩⟩
 by_cases e2:n=2
 ·obtain⟨d2,v,ca,bF,b2⟩:=dW b d1 4 cv (by omega);obtain⟨d3,u,cD,hu,cj⟩:=dW b d2 (1+v) ca (by omega);obtain⟨ys,d,o,fp,l⟩:=BW b (1+n) (1+v) u 2 0 [] d3 rfl cD (by simp);exact⟨d,⟨1+n,1+v,u,ys⟩,o,fp,aoF ⟨bI,i1,by simp[e2],by simp[e2],b2,⟨by omega,by omega⟩,cj,by simp[e2],l,ad⟩⟩
 by_cases ck:n=3
 ·obtain⟨d2,v,ca,bF,b2⟩:=mf b d1 [0,1,2,3,50,99] cv (by simp);obtain⟨ys,d,o,fp,l⟩:=BW b (1+n) v 0 2 0 [] d2 rfl ca (by simp);exact⟨d,⟨1+n,v,0,ys⟩,o,fp,aoG ⟨bI,i1,by simp[ck],by simp[ck],by simp[ck],b2,by simp[ck],l,ad⟩⟩
 have f1:(1+n==2)=false:=by simp;omega
 have f2:(1+n==3)=false:=by simp;omega
 have f3:(1+n==4)=false:=by simp;omega
 by_cases np:n=7
 ·exact⟨d1,⟨1+n,0,0,[]⟩,cv,by simp,aoI ⟨bI,i1,f1,f2,f3,by simp[np],ad⟩⟩
 obtain⟨ys,d,o,fp,l⟩:=BW b (1+n) 0 0 2 0 [] d1 rfl cv (by simp);exact⟨d,⟨1+n,0,0,ys⟩,o,fp,aoH ⟨bI,i1,f1,f2,f3,by simp;omega,l,ad⟩⟩
theorem arW(b:List Int)(c:dH)(ak:c.ok b):∃(d:dH) (x:Node),d.ok b/\x.outs.length<=3/\bZ prog 252 [.cur (c.e b) (d.e b)] (.vals [.agg x.e]):=by
 obtain⟨d1,x,cv,aa,bI⟩:=arV b c ak;obtain⟨d2,k,ca,hk,b2⟩:=dW b d1 12 cv (by omega);by_cases bM:k=0
 ·obtain⟨d3,v,cD,bF,cj⟩:=dW b d2 11 ca (by omega);exact⟨d3,⟨v-1,x.a,x.b,x.outs⟩,cD,by dsimp only;omega,aoJ ⟨bI,b2,by simp[bM],cj,⟨by omega,by omega⟩,ad⟩⟩
 by_cases e1:k=1
 ·obtain⟨d3,v,cD,bF,cj⟩:=mf b d2 [-1,0,1000,100,11] ca (by simp);exact⟨d3,⟨x.kind,v,x.b,x.outs⟩,cD,by dsimp only;omega,aoK ⟨bI,b2,by simp[bM],by simp[e1],cj,ad⟩⟩
 by_cases e2:k=2
 ·obtain⟨d3,v,cD,bF,cj⟩:=mf b d2 [-1,1,3] ca (by simp);exact⟨d3,⟨x.kind,x.a,v,x.outs⟩,cD,by dsimp only;omega,aoL ⟨bI,b2,by simp[bM],by simp[e1],by simp[e2],cj,ad⟩⟩
 by_cases ck:k=3
 ·obtain⟨d3,v,cD,bF,cj⟩:=mf b d2 [1,7,8,-1] ca (by simp);have:=aoN ⟨bI,b2,by simp[bM],by simp[e1],by simp[e2],by simp[ck],aoM ⟨cj,by simp;omega,by simp;omega,Nf,ad⟩,ad⟩;refine⟨d3,⟨x.kind,x.a,x.b,x.outs++[v]⟩,cD,by simp;omega,?_⟩;unfold Node.e;dsimp only;rw[gW];exact this
 exact⟨d2,x,ca,by omega,aoO ⟨bI,b2,by simp[bM],by simp[e1],by simp[e2],by simp[ck],ad⟩⟩
theorem arX{α:Type}{sz:α->Nat}(xs ys:List α):eZ sz (xs++ys)=eZ sz xs+eZ sz ys:=by
 unfold eZ;simp;omega
theorem Wy{α:Type}{sz:α->Nat}:∀(xs:List α) (n:Nat),eZ sz (xs.take n)<=eZ sz xs
 | [],n=>by simp
 | x::xs,0=>by simp[eZ]
 | x::xs,n+1=>by
  have:=Wy (sz:=sz) xs n;unfold eZ at*;simp only[List.take_succ_cons,dK,jW,nf];omega
def Wz:List D:=[I 8,I 0,I 0,.v (.slice none 0 0)]
def BX:Node:=⟨8,0,0,[]⟩
theorem arY:ki Wz BX.e:=.cons (.refl _) (.cons (.refl _) (.cons (.refl _) (.cons (.nil 1) .nil)))
theorem Xr:∀(xs:List Node),mq (xs.map Node.e) (xs.map Node.e)
 | []=>.nil
 | x::xs=>.cons (ki.refl _) (Xr xs)
theorem Xs:∀{es cH:List (List D)} {e e':List D},mq es cH->ki e e'->mq (es++[e]) (cH++[e'])
 | _,_,_,_,.nil,h=>.cons h .nil
 | _,_,_,_,.cons k t,h=>.cons k (Xs t h)
theorem Xt:∀{es cH:List (List D)},mq es cH->es.length=cH.length
 | _,_,.nil=>rfl
 | _,_,.cons _ t=>by simp[Xt t]
theorem Xu(b:List Int)(w p:Int):∀(n:Nat) (xs:List Node) (es:List (List D)) (c:dH),mq es (xs.map Node.e)->xs.length+n=9->eZ Node.sz xs<=120-n->n<=9->c.ok b->
  ∃(ys:List Node) (e3:List (List D)) (d:dH),mq e3 (ys.map Node.e)/\eZ Node.sz ys<=120/\d.ok b/\c' prog (aq f137 0) (BI (b.map gm) es w p 0 0 c.i c.h) (.exit 1) (Mn (b.map gm) e3 w p 0 0 d.i d.h)
 | n,xs,es,c,bw,aR,ai,eF,ak=>by
  obtain⟨d1,m,cv,aj,bI⟩:=dW b c 2 ak (by omega);have ag:=Xt bw;rw[bA]at ag;by_cases h:(es.length:Int)<8+m
  ·match n with
   | 0=>omega
   | n+1=>
    obtain⟨ys,e3,d,fp,fb,o,l⟩:=Xu b w p n (xs++[BX]) (es++[Wz]) d1 (by
     rw[gW];exact Xs bw arY) (by simp;omega) (by
     rw[arX];have:eZ Node.sz [BX]=1:=rfl;omega) (by omega) cv
    exact⟨ys,e3,d,fp,fb,o,.more (anO ⟨Vt ⟨bI,⟨by omega,by omega⟩,ad⟩,iV h,by simp;omega,by simp;omega,ad⟩) l⟩
  exact⟨xs,es,d1,bw,by omega,cv,.last (cC 1) (anP ⟨Vt ⟨bI,⟨by omega,by omega⟩,ad⟩,lN h,ad⟩)⟩
theorem kB.len{g:bS}(h:kB g):1<=g.nodes.length/\g.nodes.length<=8:=by
 have:=h.ok;simp only[et,ar,cm,cr]at this;omega
theorem Ng(b:List Int)(c:dH)(ak:c.ok b):∃(d:dH) (g:bS),d.ok b/\(g.sz<=120/\-1<=g.ap/\g.ap<=5)/\bZ prog 137 [.cur (c.e b) (d.e b)] (.vals [.agg g.e]):=by
 obtain⟨d1,g,cv,av,bI⟩:=Mw b c ak;have ai:=av.size;have ag:=av.len;have aa5:=av.ap;have yo:((g.nodes.map Node.e).length:Int)=g.nodes.length:=by simp
 obtain⟨d2,k,ca,hk,b2⟩:=dW b d1 (g.nodes.length:Int) cv (by omega);rw[<-yo]at b2;obtain⟨d3,m,cD,hm,cj⟩:=dW b d2 12 ca (by omega);obtain⟨y,bu⟩:=db (xs:=g.nodes) (i:=k.toNat) (by omega);have nG:(g.nodes.map Node.e)[k.toNat]?=some y.e:=by rw[du,bu];rfl
 have DH:k<((g.nodes.map Node.e).length:Int):=by omega
 have f':∀x:Node,x.sz<=y.sz+3->(⟨g.nodes.set k.toNat x,g.ap,g.cap⟩:bS).sz<=120:=fun x aa=>by
  have:=xp (sz:=Node.sz) x bu;unfold bS.sz at ai ⊢;dsimp only;omega
 by_cases bM:m=0
 ·obtain⟨d4,x,ff,aa,dS⟩:=arW b d3 cD;have:=anJ ⟨bI,b2,cj,by simp[bM],anI ⟨dS,hk.1,DH,nG,ad⟩,ad⟩;refine⟨d4,⟨g.nodes.set k.toNat x,g.ap,g.cap⟩,ff,⟨f' x (by unfold Node.sz;omega),by dsimp only;omega,by dsimp only;omega⟩,?_⟩;unfold bS.e;dsimp only;rw[jV];exact this
 by_cases e1:m=1
 ·obtain⟨d4,v,ff,bF,dS⟩:=mf b d3 [0,4,5,-1] cD (by simp);simp only[ez,n1,or_false]at bF;exact⟨d4,⟨g.nodes,v,g.cap⟩,ff,⟨by unfold bS.sz at ai ⊢;dsimp only;omega,by dsimp only;omega,by dsimp only;omega⟩,anK ⟨bI,b2,cj,by simp[bM],by simp[e1],dS,ad⟩⟩
 by_cases e2:m=2
 ·obtain⟨d4,v,ff,bF,dS⟩:=mf b d3 [0,4,5,-1] cD (by simp);exact⟨d4,⟨g.nodes,g.ap,v⟩,ff,⟨by unfold bS.sz at ai ⊢;dsimp only;omega,by dsimp only;omega,by dsimp only;omega⟩,anL ⟨bI,b2,cj,by simp[bM],by simp[e1],by simp[e2],dS,ad⟩⟩
 by_cases ck:m=3
 ·obtain⟨d4,v,ff,bF,dS⟩:=dW b d3 9 cD (by omega);have QC:y.outs.length<=100:=by
   have:=xp (sz:=Node.sz) BX bu;have a6:Node.sz BX=0:=rfl;have:y.sz<=100:=by unfold bS.sz at ai;omega
   exact this
  have:=anN ⟨bI,b2,cj,by simp[bM],by simp[e1],by simp[e2],by simp[ck],anM ⟨hk.1,DH,nG,dS,⟨by omega,by omega⟩,by simp;omega,by simp;omega,nG,rfl,rfl,Nf,hk.1,DH,nG,rfl,ad⟩,ad⟩;refine⟨d4,⟨g.nodes.set k.toNat ⟨y.kind,y.a,y.b,y.outs++[v-1]⟩,g.ap,g.cap⟩,ff,⟨f' _ (by unfold Node.sz;simp),by dsimp only;omega,by dsimp only;omega⟩,?_⟩;unfold bS.e;dsimp only;rw[jV];unfold Node.e;dsimp only;rw[gW];exact this
 by_cases dX:m=4
 ·obtain⟨ys,e3,d,fp,fb,o,l⟩:=Xu b g.ap g.cap (9-g.nodes.length) g.nodes (g.nodes.map Node.e) d3 (Xr _) (by omega) (by unfold bS.sz at ai;omega) (by omega) cD;have:=anQ ⟨bI,b2,cj,by simp[bM],by simp[e1],by simp[e2],by simp[ck],by simp[dX],l,ad⟩;exact⟨d,⟨ys,g.ap,g.cap⟩,o,⟨fb,by dsimp only;omega,by dsimp only;omega⟩,this.fit (.cons (.agg (.cons (.J 4 fp) (ki.refl _))) .nil)⟩
 by_cases gB:m=5
 ·have:=anR ⟨bI,b2,cj,by simp[bM],by simp[e1],by simp[e2],by simp[ck],by simp[dX],by simp[gB],by decide,hk.1,by change k<=_;omega,ad⟩;refine⟨d3,⟨g.nodes.take k.toNat,g.ap,g.cap⟩,cD,⟨?_,by dsimp only;omega,by dsimp only;omega⟩,?_⟩
  ·have:=Wy (sz:=Node.sz) g.nodes k.toNat;unfold bS.sz at ai ⊢;dsimp only;omega
  unfold bS.e;dsimp only;rw[qX];exact this
 exact⟨d3,g,cD,⟨by omega,by omega,by omega⟩,anS ⟨bI,b2,cj,by simp[bM],by simp[e1],by simp[e2],by simp[ck],by simp[dX],by simp[gB],ad⟩⟩
end Go.Proofs.YtdchjefneblpgaaGreat
namespace Go.Proofs.YtdchjefneblpgaaGreat
open Go.Sx Go.RowKit Go.Proofs.Tryz
theorem arZ(w:aQ)(r:aB)(hw:w.sz<=8388608):aw 376 [.agg w.e,.agg r.e] [.agg (kept w r).e]:=by
 have az:w.queue.length<=8388608:=by simp only[aQ.sz]at hw;omega
 rw[NH];exact aqq ⟨zk w hw,A3 az,A4 az,dU (aB.flat r),ad⟩
theorem aq8(w:aQ)(r:aB)(hw:w.sz<=8388608)(aK:w.bG.length=4)(aj:w.bN.length=4)(he:0<=r.bq.bh/\r.bq.bh<=3)(ai:-1000000<=w.bG.getD r.bq.bh.toNat 0/\w.bG.getD r.bq.bh.toNat 0<=1000000):
  aw 349 [.agg w.e,.agg r.e] [.agg (hN w r).e]:=by
 have k:=arZ w r hw;rw[NH]at k;rw[aqU];obtain⟨s1,s2⟩:=Jk aK he;obtain⟨eP,eX⟩:=x3 aj he;have Ic:(↑(w.bG.map bb).length:Int)-1=3:=by rw[bA,aK];rfl
 exact aqr ⟨k,⟨by rw[Ic];omega,by rw[Ic];omega⟩,fD true (by rw[Ic];simp only[ar,cr];omega),rfl,bU eP,he.1,s1,s2,⟨by omega,by omega⟩,he.1,s1,s2,he.1,eP,eX,ad⟩
theorem aq9(w:aQ)(r:aB)(t:List aB)(hw:w.sz<=8388608)(h:w.b3=r::t):aw 351 [.agg w.e] [.agg (iM w t).e,.agg r.e,.one (B true)]:=by
 have ag:w.b3.length<=8388608:=by simp only[aQ.sz]at hw;omega
 have e:(iM w t).e=[.J 5 (w.queue.map aB.e),.J 5 ([]++((w.b3.map aB.e).drop 1).take ((w.b3.map aB.e).length-1)),.J 5 (w.bK.map aB.e),.J 4 (w.cells.map Cell.e),.J 1 (w.bG.map bb),.J 1 (w.bN.map cy),.J 1 (w.bB.map cy),.J 2 (w.b'.map cx.e)]:=by rw[tj h];rfl
 rw[e];exact aqp ⟨zk w hw,qo h,by decide,nV h,qO h,q5,q6 h,q7,r1 h ag,rA h ag,rB h,ad⟩
theorem ara(w:aQ)(hw:w.sz<=8388608)(h:w.b3=[]):aw 351 [.agg w.e] [.agg w.e,.agg (⟨0,⟨0,0⟩,0,0⟩:aB).e,.one (B false)]:=
 aqo ⟨zk w hw,wo h,ad⟩
theorem arb(g:bS)(w:aQ)(av:g.sz<=8388608)(hw:w.sz<=8388608):aw 48 [.agg g.e,.agg w.e] [.agg (fX g w).1.e,.one (B (fX g w).2)]:=by
 have hU:=zk w hw;have k:=ze g av;have kw:=Eu g w av hw;have p':w.cells.length<=8388608:=by simp only[aQ.sz]at hw;omega
 have lZ:w.queue.length<=8388608:=by simp only[aQ.sz]at hw;omega
 cases h1:et g with
 | false=>
  rw[h1]at k;rw[show fX g w=(w,false) by unfold fX;simp[h1]];exact apY ⟨hU,k,rfl,ad⟩
 | true=>
 rw[h1]at k;cases U:e7 g w with
 | false=>
  rw[U]at kw;rw[show fX g w=(w,false) by unfold fX;simp[U]];exact apZ ⟨hU,k,rfl,kw,rfl,ad⟩
 | true=>
 rw[U]at kw;have hu:fX g w=match w.b3,w.queue with
  | [],r::q=>(⟨q,(d' g w.cells r).2.1,w.bK,(d' g w.cells r).1,w.bG,w.bN,(if cw g r then w.bB.set r.bq.bh.toNat true else w.bB),w.b'⟩,true)
  | _,_=>(w,false):=by unfold fX;rw[h1,U];rfl
 cases ax:w.b3 with
 | cons r q=>
  rw[show fX g w=(w,false) by rw[hu,ax]];exact ap0 ⟨hU,k,rfl,kw,rfl,yI ax,ad⟩
 | nil=>
 cases aK:w.queue with
 | nil=>
  rw[show fX g w=(w,false) by rw[hu,ax,aK]];exact ap1 ⟨hU,k,rfl,kw,rfl,l7 ax,wo aK,ad⟩
 | cons r q=>
  have st:=Up g w.cells r av p';have sn:=Uq g r av;obtain⟨cG,_,_,_,_,_,kq,_⟩:=hZ.1 U;rw[aK,qA]at cG;have he:=u3 cG.1;obtain⟨c1,c2⟩:=x3 kq he;cases a7:cw g r with
  | true=>
   rw[a7]at sn;rw[show fX g w=(⟨q,(d' g w.cells r).2.1,w.bK,(d' g w.cells r).1,w.bG,w.bN,w.bB.set r.bq.bh.toNat true,w.b'⟩,true) by rw[hu,ax,aK];simp only[a7,fQ]];have e:aQ.e ⟨q,(d' g w.cells r).2.1,w.bK,(d' g w.cells r).1,w.bG,w.bN,w.bB.set r.bq.bh.toNat true,w.b'⟩=[.J 5 ([]++((w.queue.map aB.e).drop 1).take ((w.queue.map aB.e).length-1)),.J 5 ((d' g w.cells r).2.1.map aB.e),.J 5 (w.bK.map aB.e),.J 4 ((d' g w.cells r).1.map Cell.e),.J 1 (w.bG.map bb),.J 1 (w.bN.map cy),.J 1 ((w.bB.map cy).set r.bq.bh.toNat [B true]),.J 2 (w.b'.map cx.e)]:=by
    rw[tj aK];simp only[aQ.e,jV];rfl
   dsimp only;rw[e];exact ap2 ⟨hU,k,rfl,kw,rfl,l7 ax,qo aK,by decide,nV aK,qO aK,st,q5,q6 aK,q7,r1 aK lZ,rA aK lZ,rB aK,sn,rfl,he.1,c1,c2,ad⟩
  | false=>
   rw[a7]at sn;rw[show fX g w=(⟨q,(d' g w.cells r).2.1,w.bK,(d' g w.cells r).1,w.bG,w.bN,w.bB,w.b'⟩,true) by rw[hu,ax,aK];simp only[a7];rfl];have e:aQ.e ⟨q,(d' g w.cells r).2.1,w.bK,(d' g w.cells r).1,w.bG,w.bN,w.bB,w.b'⟩=[.J 5 ([]++((w.queue.map aB.e).drop 1).take ((w.queue.map aB.e).length-1)),.J 5 ((d' g w.cells r).2.1.map aB.e),.J 5 (w.bK.map aB.e),.J 4 ((d' g w.cells r).1.map Cell.e),.J 1 (w.bG.map bb),.J 1 (w.bN.map cy),.J 1 (w.bB.map cy),.J 2 (w.b'.map cx.e)]:=by
    rw[tj aK];rfl
   dsimp only;rw[e];exact ap3 ⟨hU,k,rfl,kw,rfl,l7 ax,qo aK,by decide,nV aK,qO aK,st,q5,q6 aK,q7,r1 aK lZ,rA aK lZ,rB aK,sn,rfl,ad⟩
theorem arc(g:bS)(w:aQ)(av:g.sz<=8388608)(hw:w.sz<=8388608):aw 348 [.agg g.e,.agg w.e] [.agg (fY g w).1.e,.one (B (fY g w).2)]:=by
 have hU:=zk w hw;have k:=ze g av;have kw:=Eu g w av hw;have az:w.queue.length<=8388608:=by simp only[aQ.sz]at hw;omega
 have jC:w.bK.length<=8388608:=by simp only[aQ.sz]at hw;omega
 cases h1:et g with
 | false=>
  rw[h1]at k;rw[show fY g w=(w,false) by unfold fY;simp[h1]];exact aqs ⟨hU,k,rfl,ad⟩
 | true=>
 rw[h1]at k;cases U:e7 g w with
 | false=>
  rw[U]at kw;rw[show fY g w=(w,false) by unfold fY;simp[U]];exact aqt ⟨hU,k,rfl,kw,rfl,ad⟩
 | true=>
 rw[U]at kw;have hu:fY g w=match w.b3,w.queue,w.bK with
  | [],[],r::t=>(⟨[r],[],t,w.cells,w.bG,w.bN,w.bB,w.b'⟩,true)
  | _,_,_=>(w,false):=by unfold fY;rw[h1,U];rfl
 cases ax:w.b3 with
 | cons r q=>
  rw[show fY g w=(w,false) by rw[hu,ax]];exact aqu ⟨hU,k,rfl,kw,rfl,yI ax,ad⟩
 | nil=>
 cases aK:w.queue with
 | cons r q=>
  rw[show fY g w=(w,false) by rw[hu,ax,aK]];exact aqv ⟨hU,k,rfl,kw,rfl,l7 ax,yI aK,ad⟩
 | nil=>
 cases a7:w.bK with
 | nil=>
  rw[show fY g w=(w,false) by rw[hu,ax,aK,a7]];exact aqw ⟨hU,k,rfl,kw,rfl,l7 ax,l7 aK,wo a7,ad⟩
 | cons r t=>
  rw[show fY g w=(⟨[r],[],t,w.cells,w.bG,w.bN,w.bB,w.b'⟩,true) by rw[hu,ax,aK,a7]];have e:aQ.e ⟨[r],[],t,w.cells,w.bG,w.bN,w.bB,w.b'⟩=[.J 5 (w.queue.map aB.e++[r.e]),.J 5 (w.b3.map aB.e),.J 5 ([]++((w.bK.map aB.e).drop 1).take ((w.bK.map aB.e).length-1)),.J 4 (w.cells.map Cell.e),.J 1 (w.bG.map bb),.J 1 (w.bN.map cy),.J 1 (w.bB.map cy),.J 2 (w.b'.map cx.e)]:=by
   rw[tj a7,aK,ax];rfl
  dsimp only;rw[e];exact aqx ⟨hU,k,rfl,kw,rfl,l7 ax,l7 aK,qo a7,by decide,nV a7,qO a7,A3 az,A4 az,dU (aB.flat r),q5,q6 a7,q7,r1 a7 jC,rA a7 jC,rB a7,ad⟩
end Go.Proofs.YtdchjefneblpgaaGreat
namespace Go.Proofs.YtdchjefneblpgaaGreat
open Go.Sx Go.RowKit Go.Proofs.Tryz
theorem Xv(l:bD)(r:aB):(eY l r).1.cap=l.cap:=by unfold eY;split<;>rfl
theorem Xw(l:bD):(dV l).1.cap=l.cap:=by
 unfold dV;split
 ·split<;>rfl
 rfl
theorem Xx(l:bD):(gw l).1.cap=l.cap:=by unfold gw;split<;>rfl
structure iY (c:a8):Prop where
 tok:c.tokens.length=4
 AV:1<=c.bR.length
 cap:∀l∈c.bR,1<=l.cap/\l.cap<=4
theorem iY.dd{c:a8}{i:Int}{l m:bD}(h:iY c)(ag:eB c i=some l)(hm:m.cap=l.cap):iY (dd c i m):=by
 refine⟨h.tok,by change 1<=(c.bR.set i.toNat m).length;rw[e8];exact h.AV,fun x aa=>?_⟩;rcases hb aa with aa | rfl
 ·exact h.cap x aa
 rw[hm];exact h.cap l (cS (ij ag).2.2)
theorem iY.setW{c:a8}{i:Int}{x:aQ}(h:iY c):iY (setW c i x):=⟨h.tok,h.AV,h.cap⟩
variable{c:a8}
theorem iY.f'{n:List cb}(h:iY c):iY (f' c n):=⟨h.tok,h.AV,h.cap⟩
theorem iY.cY{i:Int}{t:bT}(h:iY c):iY (cY c i t):=⟨by change (c.tokens.set i.toNat t).length=4;rw[e8];exact h.tok,h.AV,h.cap⟩
theorem Step.Cq{d:a8}{p:cP}(st:Step c p d)(h:iY c):iY d:=by
 cases st with
 | work x r q hk aa ai az=>exact h.setW
 | input x r t hk aa ai az hi=>exact h.setW
 | eN x r t hk aa ai aU=>exact h.setW
 | send x r t l hk aa ai aU ag hsend=>exact (h.dd ag (Xv l r)).setW
 | take l x hk ek ag aa bH=>exact (h.dd ag (Xw l)).setW
 | o4 l hk ek ag ak=>exact h.dd ag (Xx l)
 | token t x cR hk azl bg aE bH aa pb=>
  rcases oH c p.a t x with⟨_,k⟩ | ⟨_,_,⟨_,k⟩ | ⟨_,_,k⟩ | ⟨_,_,_,k⟩ | ⟨_,_,_,k⟩⟩<;>rw[k]
  ·exact h
  ·exact h.cY.setW
  ·exact h.cY.setW
  ·exact h.cY.setW.f'
  exact h.cY
 | pc k n x hk aR aE aa=>exact h.setW.f'
theorem ard(h:iY c)(p:cP):iY (dA c p).1:=by
 rcases xz c p with⟨_,k⟩ | ⟨_,_,st⟩
 ·rw[k];exact h
 exact st.Cq h
theorem Nh:∀(l:List cP) {c:a8},iY c->iY (dc c l).1
 | [],_,h=>h
 | p::l,_,h=>Nh l (ard h p)
theorem Xy:∀(n:Nat) {c:a8} (k:Nat),iY c->iY (gE n c k).1
 | 0,_,_,h=>h
 | n+1,c,k,h=>by
  have h1:iY (im c).1:=Nh (fZ c) h;unfold gE;split
  ·exact h1
  exact Xy n (k+1) h1
theorem Xz(n:Int):1<=gG n 1 4/\gG n 1 4<=4:=by
 unfold gG;split<;>(try split)<;>(try split)<;>omega
theorem arf{g:bS}{xs:List aB}(h:iE g xs=true):iY (dh g xs):=by
 have aR:=je (vb.1 h).1;refine⟨by simp[dh],?_,fun l ag=>?_⟩
 ·unfold dh;rw[List.length_replicate];exact Nat.mul_pos (by omega) (by omega)
 rw[List.eq_of_mem_replicate ag];exact Xz g.cap
structure ZH (x:a8):Prop where
 aC:kB x.aC
 Cq:iY x
 dv:hS x
 sz:x.sz<=8000
 vr:x.ap.length=x.aC.ap.toNat
theorem arh(b:List Int)(c:dH)(ak:c.ok b):∃(d:dH) (x:a8),d.ok b/\ZH x/\bZ prog 166 [.cur (c.e b) (d.e b)] (.vals [.agg x.e]):=by
 obtain⟨d1,g,cv,av,bI⟩:=Mw b c ak;obtain⟨d2,xs,ca,lK,ho,b2⟩:=Mv b d1 cv;obtain⟨d3,cF,cD,yH,_,cj⟩:=anh b d2 40 (by omega) ca;obtain⟨d4,f,ff,dS⟩:=pI b d3 4 cD (by omega);have aR:=Mx av (by omega) ho;have ai:=av.size;have a6:=UR aR;have nw:=UL g xs (by omega);rw[Ci aR]at nw;have dv:=US g xs;have h0:=aqi (dh g xs) cF (by omega) dv;have yA:=FI cF (dh g xs);have Jp:=K4 cF (dh g xs);have XO:=Nh cF (arf aR);have qk:(dh g xs).ap.length=g.ap.toNat:=xv g xs _;have aaY:(dh g xs).aC=g:=rfl;have cG:=Jp.aC;have cg:=Jp.dv dv;have cE:=Jp.vr;rw[aaY]at cG;rw[qk]at cE;generalize dc (dh g xs) cF=o at*;cases f with
 | false=>exact⟨d4,o.1,ff,⟨by rw[cG];exact av,XO,cg,by omega,by rw[cG];exact cE⟩,an2 ⟨bI,b2,nw,Xg ⟨cj,h0,ad⟩,dS,rfl,ad⟩⟩
 | true=>
  obtain⟨d5,n,oC,Qf,kd⟩:=dW b d4 12 ff (by omega);have c0:=aqn o.1 n (by omega) cg;have aj:(gG n 0 3000).toNat<=11:=by
   unfold gG;split<;>(try split)<;>(try split)<;>omega
  have azy:=WO (gG n 0 3000).toNat o.1 0;have Jn:=WQ (gG n 0 3000).toNat o.1 0;have f1:(oK o.1 n).1.aC=g:=Jn.aC.trans cG;have f2:hS (oK o.1 n).1:=Jn.dv cg;have f3:(oK o.1 n).1.ap.length=g.ap.toNat:=Jn.vr.trans cE;have f4:(oK o.1 n).1.sz<=8000:=by unfold oK;omega
  have f5:iY (oK o.1 n).1:=Xy _ 0 XO;exact⟨d5,(oK o.1 n).1,oC,⟨by rw[f1];exact av,f5,f2,f4,by rw[f1];exact f3⟩,an1 ⟨bI,b2,nw,Xg ⟨cj,h0,ad⟩,dS,rfl,an0 ⟨kd,c0,ad⟩,ad⟩⟩
structure C' (n:Nat) (l:bD):Prop where
 sz:l.sz<=n
 cap:1<=l.cap/\l.cap<=4
 dv:l.dv<=9223372036854775807
theorem FC(b:List Int):∀(n i:Nat) (l:bD) (c:dH),i+n=8->c.ok b->C' i l->
  ∃(m:bD) (d:dH),d.ok b/\C' 8 m/\c' prog (aq f327 0) (ti (b.map gm) i l.cap (l.queue.map aB.e) l.eM l.back l.eu l.dv 0 0 0 0 0 c.i c.h) (.exit 0) (L5 (b.map gm) m.cap (m.queue.map aB.e) m.eM m.back m.eu m.dv 0 0 0 0 0 d.i d.h)
 | n,i,l,c,i',ak,ag=>by
  obtain⟨d1,m,cv,aj,bI⟩:=dW b c 9 ak (by omega);have a6:=ag.sz;by_cases h:(i:Int)<m
  ·match n with
   | 0=>omega
   | n+1=>
    obtain⟨d2,k,ca,hk,b2⟩:=dW b d1 4 cv (by omega);by_cases bM:k=0
    ·have z:=U3 l;obtain⟨jr,d,o,fp,fb⟩:=FC b n (i+1) (dV l).1 d2 (by omega) ca ⟨by omega,by rw[Xw];exact ag.cap,U9 l ag.dv⟩;exact⟨jr,d,o,fp,.more (aoP ⟨bI,iV h,b2,by simp[bM],WC l (by omega),⟨by omega,by omega⟩,ad⟩) fb⟩
    by_cases e1:k=1
    ·have z:=U4 l;obtain⟨jr,d,o,fp,fb⟩:=FC b n (i+1) (gw l).1 d2 (by omega) ca ⟨by omega,by rw[Xx];exact ag.cap,U8 l ag.dv⟩;exact⟨jr,d,o,fp,.more (aoQ ⟨bI,iV h,b2,by simp[bM],by simp[e1],WD l (by omega),⟨by omega,by omega⟩,ad⟩) fb⟩
    obtain⟨d3,r,cD,aA,cj⟩:=FB b d2 ca;have z:=U2 l r;obtain⟨jr,d,o,fp,fb⟩:=FC b n (i+1) (eY l r).1 d3 (by omega) cD ⟨by omega,by rw[Xv];exact ag.cap,U7 l r ag.dv⟩;exact⟨jr,d,o,fp,.more (aoS ⟨bI,iV h,b2,by simp[bM],by simp[e1],aoR ⟨cj,WB l r (by omega),ad⟩,⟨by omega,by omega⟩,ad⟩) fb⟩
  exact⟨l,d1,cv,⟨by omega,ag.cap,ag.dv⟩,.last (cC 0) (aoT ⟨bI,lN h,ad⟩)⟩
theorem ari(b:List Int)(c:dH)(ak:c.ok b):∃(d:dH) (l:bD),d.ok b/\C' 8 l/\bZ prog 327 [.cur (c.e b) (d.e b)] (.vals [.agg l.e]):=by
 obtain⟨d1,n,cv,aR,bI⟩:=dW b c 4 ak (by omega);obtain⟨l,d,o,fp,fb⟩:=FC b 8 0 (iN (1+n)) d1 rfl cv ⟨by simp[iN,bD.sz],Xz _,by simp[iN]⟩;exact⟨d,l,o,fp,aoU ⟨bI,⟨by omega,by omega⟩,UJ (1+n),fb,ad⟩⟩
theorem arj(b:List Int)(c:dH)(ak:c.ok b):∃(d:dH) (l:bD),d.ok b/\C' 9 l/\bZ prog 278 [.cur (c.e b) (d.e b)] (.vals [.agg l.e]):=by
 obtain⟨d1,l,cv,⟨a6,gd,tZ⟩,bI⟩:=ari b c ak;obtain⟨d2,k,ca,hk,b2⟩:=dW b d1 14 cv (by omega);have lZ:l.queue.length<=8:=a6;by_cases bM:k=0
 ·obtain⟨d3,v,cD,bF,cj⟩:=dW b d2 6 ca (by omega);exact⟨d3,⟨l.cap,l.queue,v-1,l.back,l.eu,l.dv⟩,cD,⟨Nat.le_succ_of_le a6,gd,tZ⟩,aoV ⟨bI,b2,by simp[bM],cj,⟨by omega,by omega⟩,ad⟩⟩
 by_cases e1:k=1
 ·obtain⟨d3,v,cD,bF,cj⟩:=dW b d2 6 ca (by omega);exact⟨d3,⟨l.cap,l.queue,l.eM,v-1,l.eu,l.dv⟩,cD,⟨Nat.le_succ_of_le a6,gd,tZ⟩,aoW ⟨bI,b2,by simp[bM],by simp[e1],cj,⟨by omega,by omega⟩,ad⟩⟩
 by_cases e2:k=2
 ·obtain⟨d3,v,cD,bF,cj⟩:=mf b d2 [-1,0,1000000000,1000000001] ca (by simp);exact⟨d3,⟨l.cap,l.queue,l.eM,l.back,v,l.dv⟩,cD,⟨Nat.le_succ_of_le a6,gd,tZ⟩,an7 ⟨bI,b2,by simp[bM],by simp[e1],by simp[e2],cj,ad⟩⟩
 by_cases ck:k=3
 ·obtain⟨d3,r,cD,aA,cj⟩:=Nd b d2 ca;have:=an9 ⟨bI,b2,by simp[bM],by simp[e1],by simp[e2],by simp[ck],an8 ⟨cj,by simp;omega,by simp;omega,tO r,ad⟩,ad⟩;refine⟨d3,⟨l.cap,l.queue++[r],l.eM,l.back,l.eu,l.dv⟩,cD,⟨by simp[bD.sz];omega,gd,tZ⟩,?_⟩;unfold bD.e;dsimp only;rw[gW];exact this
 by_cases dX:k=4
 ·have yo:((l.queue.map aB.e).length:Int)=l.queue.length:=by simp
  have:=aoa ⟨bI,b2,by simp[bM],by simp[e1],by simp[e2],by simp[ck],by simp[dX],⟨by omega,by omega⟩,ad⟩;rw[yo]at this;exact⟨d2,⟨l.cap,l.queue,l.eM,l.back,1000000000,1000000000-(l.queue.length:Int)⟩,ca,⟨Nat.le_succ_of_le a6,gd,by dsimp only;omega⟩,this⟩
 exact⟨d2,l,ca,⟨by omega,gd,tZ⟩,aob ⟨bI,b2,by simp[bM],by simp[e1],by simp[e2],by simp[ck],by simp[dX],ad⟩⟩
end Go.Proofs.YtdchjefneblpgaaGreat
namespace Go.Proofs.YtdchjefneblpgaaGreat
open Go.Sx Go.RowKit Go.Proofs.Tryz
theorem ark(b:List Int)(c:dH)(g:bS)(ak:c.ok b)(av:g.nodes.length<=1000):∃(d:dH) (r:aB),d.ok b/\(0<=r.bq.bh/\r.bq.bh<=3)/\bZ prog 350 [.cur (c.e b) (d.e b),.ro (.agg g.e)] (.vals [.agg r.e]):=by
 obtain⟨d1,r,cv,⟨_,U,_,_,_⟩,bI⟩:=FB b c ak;have yo:((g.nodes.map Node.e).length:Int)=g.nodes.length:=by simp
 by_cases bg:0<g.nodes.length
 ·have aE:decide (((g.nodes.map Node.e).length:Int)>0)=true:=bU (by omega);obtain⟨d2,k,ca,hk,b2⟩:=dW b d1 (g.nodes.length:Int) cv (by omega);rw[<-yo]at b2;obtain⟨d3,x,cD,cj⟩:=pI b d2 4 ca (by omega);cases x with
  | true=>
   obtain⟨d4,t,ff,bH,dS⟩:=dW b d3 2 cD (by omega);exact⟨d4,⟨k,⟨r.bq.bh,5+t⟩,r.key,r.val⟩,ff,by dsimp only;omega,aoc ⟨bI,aE,b2,cj,rfl,dS,⟨by omega,by omega⟩,ad⟩⟩
  | false=>exact⟨d3,⟨k,r.bq,r.key,r.val⟩,cD,by dsimp only;omega,aod ⟨bI,aE,b2,cj,rfl,ad⟩⟩
 have aE:decide (((g.nodes.map Node.e).length:Int)>0)=false:=bY (by omega);obtain⟨d3,x,cD,cj⟩:=pI b d1 4 cv (by omega);cases x with
 | true=>
  obtain⟨d4,t,ff,bH,dS⟩:=dW b d3 2 cD (by omega);exact⟨d4,⟨r.op,⟨r.bq.bh,5+t⟩,r.key,r.val⟩,ff,by dsimp only;omega,aoe ⟨bI,aE,cj,rfl,dS,⟨by omega,by omega⟩,ad⟩⟩
 | false=>exact⟨d3,r,cD,by omega,aof ⟨bI,aE,cj,rfl,ad⟩⟩
structure sf (i:Nat) (w:aQ):Prop where
 sz:w.sz<=40+2*i
 bG:w.bG.length=4
 bN:w.bN.length=4
 z':∀k:Nat,-(i:Int)<=w.bG.getD k 0/\w.bG.getD k 0<=0
theorem sf.mono{i:Nat}{w v:aQ}(h:sf i w)(ai:v.sz<=w.sz+2)(h1:v.bG=w.bG)(U:v.bN=w.bN):sf (i+1) v:=by
 refine⟨by have:=h.sz;omega,by rw[h1];exact h.bG,by rw[U];exact h.bN,fun k=>?_⟩;rw[h1];have:=h.z' k;omega
theorem sf.hN{i:Nat}{w:aQ}{r:aB}(h:sf i w)(he:0<=r.bq.bh/\r.bq.bh<=3):sf (i+1) (hN w r):=by
 have aK:=h.bG;refine⟨?_,?_,?_,fun k=>?_⟩
 ·have:=TA w r;have:=h.sz;omega
 ·unfold Go.Proofs.YtdchjefneblpgaaGreat.hN k6;dsimp only;rw[e8];exact aK
 ·unfold Go.Proofs.YtdchjefneblpgaaGreat.hN;dsimp only;rw[e8];exact h.bN
 unfold Go.Proofs.YtdchjefneblpgaaGreat.hN k6;dsimp only;by_cases hk:r.bq.bh.toNat=k
 ·subst hk;rw[Cm (by omega)];have:=h.z' r.bq.bh.toNat;omega
 rw[u9 hk];have:=h.z' k;omega
theorem arl(g:bS)(w:aQ):(fX g w).1.bG=w.bG/\(fX g w).1.bN=w.bN:=by
 rcases UN g w with⟨_,k⟩ | ⟨_,r,q,_,_,k⟩<;>rw[k]<;>exact⟨rfl,rfl⟩
theorem arm(g:bS)(w:aQ):(fY g w).1.bG=w.bG/\(fY g w).1.bN=w.bN:=by
 rcases UO g w with⟨_,k⟩ | ⟨_,r,q,_,_,_,k⟩<;>rw[k]<;>exact⟨rfl,rfl⟩
theorem y8(b:List Int)(g:bS)(av:g.sz<=1000):∀(n i:Nat) (w:aQ) (c:dH),i+n=7->c.ok b->sf i w->
  ∃(v:aQ) (d:dH),d.ok b/\sf 7 v/\c' prog (aq f326 0) (qN (b.map gm) i (w.queue.map aB.e) (w.b3.map aB.e) (w.bK.map aB.e) (w.cells.map Cell.e) (w.bG.map bb) (w.bN.map cy) (w.bB.map cy) (w.b'.map cx.e) (g.nodes.map Node.e) g.ap g.cap c.i c.h) (.exit 0)
   (Ma (b.map gm) (v.queue.map aB.e) (v.b3.map aB.e) (v.bK.map aB.e) (v.cells.map Cell.e) (v.bG.map bb) (v.bN.map cy) (v.bB.map cy) (v.b'.map cx.e) d.i d.h)
 | n,i,w,c,i',ak,hw=>by
  obtain⟨d1,m,cv,aj,bI⟩:=dW b c 8 ak (by omega);have a6:=hw.sz;have aa2:g.nodes.length<=1000:=by have:=qw (sz:=Node.sz) (xs:=g.nodes) (m:=1000) av;exact this
  by_cases h:(i:Int)<m
  ·match n with
   | 0=>omega
   | n+1=>
    obtain⟨d2,k,ca,hk,b2⟩:=dW b d1 5 cv (by omega);by_cases bM:k=0
    ·have z:=Ty g w;obtain⟨q1,k9⟩:=arm g w;obtain⟨jr,d,o,fp,fb⟩:=y8 b g av n (i+1) (fY g w).1 d2 (by omega) ca (hw.mono (by omega) q1 k9);exact⟨jr,d,o,fp,.more (aog ⟨bI,iV h,b2,by simp[bM],arc g w (by omega) (by omega),⟨by omega,by omega⟩,ad⟩) fb⟩
    by_cases e1:k=1
    ·obtain⟨d3,r,cD,he,cj⟩:=ark b d2 g ca aa2;obtain⟨jr,d,o,fp,fb⟩:=y8 b g av n (i+1) (hN w r) d3 (by omega) cD (hw.hN he);have azf:=hw.z' r.bq.bh.toNat;have axQ:=aq8 w r (by omega) hw.bG hw.bN he ⟨by omega,by omega⟩;exact⟨jr,d,o,fp,.more (aoi ⟨bI,iV h,b2,by simp[bM],by simp[e1],aoh ⟨cj,axQ,ad⟩,⟨by omega,by omega⟩,ad⟩) fb⟩
    by_cases e2:k=2
    ·have mx:w.b3=[]\/∃r t,w.b3=r::t:=by
      cases w.b3 with
      | nil=>exact .inl rfl
      | cons r t=>exact .inr ⟨r,t,rfl⟩
     rcases mx with e5 | ⟨r,t0,e5⟩
     ·obtain⟨jr,d,o,fp,fb⟩:=y8 b g av n (i+1) w d2 (by omega) ca (hw.mono (by omega) rfl rfl);have us:=ara w (by omega) e5;exact⟨jr,d,o,fp,.more (Xe ⟨bI,iV h,b2,by simp[bM],by simp[e1],by simp[e2],us,⟨by omega,by omega⟩,ad⟩) fb⟩
     have z:=Tz e5;obtain⟨jr,d,o,fp,fb⟩:=y8 b g av n (i+1) (iM w t0) d2 (by omega) ca (hw.mono (by omega) rfl rfl);have us:=aq9 w r t0 (by omega) e5;exact⟨jr,d,o,fp,.more (Xe ⟨bI,iV h,b2,by simp[bM],by simp[e1],by simp[e2],us,⟨by omega,by omega⟩,ad⟩) fb⟩
    have z:=Tx g w;obtain⟨q1,k9⟩:=arl g w;obtain⟨jr,d,o,fp,fb⟩:=y8 b g av n (i+1) (fX g w).1 d2 (by omega) ca (hw.mono (by omega) q1 k9);exact⟨jr,d,o,fp,.more (aoj ⟨bI,iV h,b2,by simp[bM],by simp[e1],by simp[e2],arb g w (by omega) (by omega),⟨by omega,by omega⟩,ad⟩) fb⟩
  refine⟨w,d1,cv,⟨by omega,hw.bG,hw.bN,fun k=>?_⟩,.last (cC 0) (aok ⟨bI,lN h,ad⟩)⟩;have:=hw.z' k;omega
theorem arn(b:List Int)(c:dH)(g:bS)(av:g.sz<=1000)(ak:c.ok b):∃(d:dH) (w:aQ),d.ok b/\sf 7 w/\bZ prog 326 [.cur (c.e b) (d.e b),.ro (.agg g.e)] (.vals [.agg w.e]):=by
 obtain⟨d1,xs,cv,lK,ho,bI⟩:=Mv b c ak;obtain⟨w,d,o,fp,fb⟩:=y8 b g av 7 0 (jP xs) d1 rfl cv (by
  refine⟨by simp[jP,aQ.sz];omega,by simp[jP],by simp[jP],fun k=>?_⟩;have:(jP xs).bG.getD k 0=0:=by
   change ([0,0,0,0]:List Int).getD k 0=0;rcases k with _ | _ | _ | _ | k<;>simp
  omega)
 exact⟨d,w,o,fp,aol ⟨bI,UK xs (by omega),fb,ad⟩⟩
theorem aro(v:Bool):Flat [[B v]]:=dU (by intro d aE;simp only[ez,n1,or_false]at aE;subst aE;exact⟨_,rfl⟩)
theorem arp(b:List Int)(c:dH)(g:bS)(av:g.sz<=1000)(ak:c.ok b):∃(d:dH) (w:aQ),d.ok b/\w.sz<=100/\bZ prog 277 [.cur (c.e b) (d.e b),.ro (.agg g.e)] (.vals [.agg w.e]):=by
 obtain⟨d1,w,cv,hw,bI⟩:=arn b c g av ak;obtain⟨d2,k,ca,hk,b2⟩:=dW b d1 16 cv (by omega);have a6:=hw.sz;have aK:=hw.bG;have Ji:=a6;simp only[aQ.sz]at Ji;have azE:w.queue.length<=1000:=by omega
 by_cases bM:k=0
 ·obtain⟨d3,r,cD,aA,cj⟩:=Nd b d2 ca;have:=aon ⟨bI,b2,by simp[bM],aom ⟨cj,by simp;omega,by simp;omega,tO r,ad⟩,ad⟩;refine⟨d3,⟨w.queue++[r],w.b3,w.bK,w.cells,w.bG,w.bN,w.bB,w.b'⟩,cD,by simp[aQ.sz];omega,?_⟩;unfold aQ.e;dsimp only;rw[gW];exact this
 by_cases e1:k=1
 ·obtain⟨d3,r,cD,aA,cj⟩:=FB b d2 ca;have:=aop ⟨bI,b2,by simp[bM],by simp[e1],aoo ⟨cj,by simp;omega,by simp;omega,tO r,ad⟩,ad⟩;refine⟨d3,⟨w.queue,w.b3,w.bK++[r],w.cells,w.bG,w.bN,w.bB,w.b'⟩,cD,by simp[aQ.sz];omega,?_⟩;unfold aQ.e;dsimp only;rw[gW];exact this
 by_cases e2:k=2
 ·obtain⟨d3,v,cD,bF,cj⟩:=dW b d2 4 ca (by omega);have yo:((w.bG.map bb).length:Int)=4:=by simp[aK]
  have:=aor ⟨bI,b2,by simp[bM],by simp[e1],by simp[e2],aoq ⟨cj,by decide,bF.1,by change v<=_;omega,ad⟩,ad⟩;refine⟨d3,⟨w.queue,w.b3,w.bK,w.cells,w.bG.take v.toNat,w.bN,w.bB,w.b'⟩,cD,by simp[aQ.sz];omega,?_⟩;unfold aQ.e;dsimp only;rw[qX];exact this
 by_cases ck:k=3
 ·obtain⟨d3,v,cD,bF,cj⟩:=mf b d2 [1000000,1000001,-1000001] ca (by simp);obtain⟨y,bu⟩:=db (xs:=w.bG) (i:=0) (by omega);have nG:(w.bG.map bb)[0]?=some [I y]:=by rw[du,bu];rfl
  have:=aot ⟨bI,b2,by simp[bM],by simp[e1],by simp[e2],by simp[ck],aos ⟨cj,by decide,by simp[aK],nG,ad⟩,ad⟩;refine⟨d3,⟨w.queue,w.b3,w.bK,w.cells,w.bG.set 0 v,w.bN,w.bB,w.b'⟩,cD,by simp[aQ.sz];omega,?_⟩;unfold aQ.e;dsimp only;rw[jV];exact this
 by_cases dX:k=4
 ·obtain⟨d3,v,cD,bF,cj⟩:=dW b d2 6 ca (by omega);have:=aov ⟨bI,b2,by simp[bM],by simp[e1],by simp[e2],by simp[ck],by simp[dX],aou ⟨cj,⟨by omega,by omega⟩,by simp;omega,by simp;omega,dU (cx.flat ⟨v-1,false⟩),ad⟩,ad⟩;refine⟨d3,⟨w.queue,w.b3,w.bK,w.cells,w.bG,w.bN,w.bB,w.b'++[⟨v-1,false⟩]⟩,cD,by simp[aQ.sz];omega,?_⟩;unfold aQ.e;dsimp only;rw[gW];exact this
 by_cases gB:k=5
 ·obtain⟨d3,v,cD,bF,cj⟩:=dW b d2 2 ca (by omega);have:=aow ⟨bI,b2,by simp[bM],by simp[e1],by simp[e2],by simp[ck],by simp[dX],by simp[gB],cj,ad⟩;exact⟨d3,⟨w.queue,w.b3,w.bK,w.cells,w.bG,w.bN,w.bB,[⟨1,false⟩,⟨v,true⟩]⟩,cD,by simp[aQ.sz];omega,this⟩
 by_cases kl:k=6
 ·have:=anX ⟨bI,b2,by simp[bM],by simp[e1],by simp[e2],by simp[ck],by simp[dX],by simp[gB],by simp[kl],by simp;omega,by simp;omega,aro true,ad⟩;refine⟨d2,⟨w.queue,w.b3,w.bK,w.cells,w.bG,w.bN++[true],w.bB,w.b'⟩,ca,by simp[aQ.sz];omega,?_⟩;unfold aQ.e;dsimp only;rw[gW];exact this
 by_cases np:k=7
 ·have:=anY ⟨bI,b2,by simp[bM],by simp[e1],by simp[e2],by simp[ck],by simp[dX],by simp[gB],by simp[kl],by simp[np],by simp;omega,by simp;omega,dU (Cell.flat ⟨0,0,0,0⟩),ad⟩;refine⟨d2,⟨w.queue,w.b3,w.bK,w.cells++[⟨0,0,0,0⟩],w.bG,w.bN,w.bB,w.b'⟩,ca,by simp[aQ.sz];omega,?_⟩;unfold aQ.e;dsimp only;rw[gW];exact this
 exact⟨d2,w,ca,by omega,anZ ⟨bI,b2,by simp[bM],by simp[e1],by simp[e2],by simp[ck],by simp[dX],by simp[gB],by simp[kl],by simp[np],ad⟩⟩
end Go.Proofs.YtdchjefneblpgaaGreat
namespace Go.Proofs.YtdchjefneblpgaaGreat
open Go.Sx Go.RowKit Go.Proofs.Tryz
theorem XA(xs:List Int)(ag:xs.length<=8388608):aw 70 [.one (.J 1 (xs.map bb)),.one (.J 1 (xs.map bb))] [.one (B true)]:=by
 have l:=e6 (P:=prog) (c:=(aq f70 0)) (cC 0) xs.length (fun i:Nat=>vf (xs.map bb) (xs.map bb) i) (fun i hi=>by
  obtain⟨a,ae⟩:=db hi;exact UA ⟨bV hi,bk,bm hi,bl bb ae,bk,bm hi,bl bb ae,by simp,c3 hi ag,ad⟩) (V2 ⟨dk,ad⟩)
 exact V3 ⟨by simp,l,ad⟩
theorem XB{xs:List Bool}(ag:xs.length<=8388608):aw 172 [.one (.J 1 (xs.map cy)),.one (.J 1 (xs.map cy))] [.one (B true)]:=by
 have l:=e6 (P:=prog) (c:=(aq f172 0)) (cC 0) xs.length (fun i:Nat=>vg (xs.map cy) (xs.map cy) i) (fun i hi=>by
  obtain⟨a,ae⟩:=db hi;exact V4 ⟨bV hi,bk,bm hi,bl cy ae,bk,bm hi,bl cy ae,by simp,c3 hi ag,ad⟩) (V6 ⟨dk,ad⟩)
 exact V7 ⟨by simp,l,ad⟩
theorem arq{xs:List cx}(ag:xs.length<=8388608):aw 173 [.one (.J 2 (xs.map cx.e)),.one (.J 2 (xs.map cx.e))] [.one (B true)]:=by
 have l:=e6 (P:=prog) (c:=(aq f173 0)) (cC 0) xs.length (fun i:Nat=>vh (xs.map cx.e) (xs.map cx.e) i) (fun i hi=>by
  obtain⟨a,ae⟩:=db hi;exact V8 ⟨bV hi,bk,bm hi,bl cx.e ae,bk,bm hi,bl cx.e ae,by simp,c3 hi ag,ad⟩) (V' ⟨dk,ad⟩)
 exact Wa ⟨by simp,l,ad⟩
theorem ars{xs:List bT}(ag:xs.length<=8388608):aw 162 [.one (.J 5 (xs.map bT.e)),.one (.J 5 (xs.map bT.e))] [.one (B true)]:=by
 have l:=e6 (P:=prog) (c:=(aq f162 0)) (cC 0) xs.length (fun i:Nat=>vi (xs.map bT.e) (xs.map bT.e) i) (fun i hi=>by
  obtain⟨a,ae⟩:=db hi;exact Wb ⟨bV hi,bk,bm hi,bl bT.e ae,bk,bm hi,bl bT.e ae,by simp,c3 hi ag,ad⟩) (Wd ⟨dk,ad⟩)
 exact We ⟨by simp,l,ad⟩
theorem art{xs:List cb}(ag:xs.length<=8388608):aw 163 [.one (.J 3 (xs.map cb.e)),.one (.J 3 (xs.map cb.e))] [.one (B true)]:=by
 have l:=e6 (P:=prog) (c:=(aq f163 0)) (cC 0) xs.length (fun i:Nat=>uK (xs.map cb.e) (xs.map cb.e) i) (fun i hi=>by
  obtain⟨a,ae⟩:=db hi;exact Wf ⟨bV hi,bk,bm hi,bl cb.e ae,bk,bm hi,bl cb.e ae,by simp,c3 hi ag,ad⟩) (Wh ⟨dk,ad⟩)
 exact Wi ⟨by simp,l,ad⟩
theorem BY(xs:List aB)(ag:xs.length<=8388608):aw 37 [.one (.J 5 (xs.map aB.e)),.one (.J 5 (xs.map aB.e))] [.one (B true)]:=by
 have l:=e6 (P:=prog) (c:=(aq f37 0)) (cC 0) xs.length (fun i:Nat=>vd (xs.map aB.e) (xs.map aB.e) i) (fun i hi=>by
  obtain⟨a,ae⟩:=db hi;exact Us ⟨bV hi,bk,bm hi,bl aB.e ae,bk,bm hi,bl aB.e ae,by simp,c3 hi ag,ad⟩) (Uu ⟨dk,ad⟩)
 exact Uv ⟨by simp,l,ad⟩
theorem aru{xs:List Cell}(ag:xs.length<=8388608):aw 19 [.one (.J 4 (xs.map Cell.e)),.one (.J 4 (xs.map Cell.e))] [.one (B true)]:=by
 have l:=e6 (P:=prog) (c:=(aq f19 0)) (cC 0) xs.length (fun i:Nat=>ve (xs.map Cell.e) (xs.map Cell.e) i) (fun i hi=>by
  obtain⟨a,ae⟩:=db hi;exact Uw ⟨bV hi,bk,bm hi,bl Cell.e ae,bk,bm hi,bl Cell.e ae,by simp,c3 hi ag,ad⟩) (Uy ⟨dk,ad⟩)
 exact Uz ⟨by simp,l,ad⟩
theorem arv(x:Node)(aa:x.sz<=8388608):aw 321 [.agg x.e,.agg x.e] [.one (B true)]:=
 Wj ⟨by simp,by simp,by simp,XA x.outs aa,ad⟩
theorem arw(g:bS)(av:g.sz<=8388608):aw 159 [.agg g.e,.agg g.e] [.one (B true)]:=by
 have ag:g.nodes.length<=8388608:=qw (sz:=Node.sz) av;have l:=e6 (P:=prog) (c:=(aq f262 0)) (cC 0) g.nodes.length (fun i:Nat=>uL (g.nodes.map Node.e) (g.nodes.map Node.e) i) (fun i hi=>by
  obtain⟨a,ae⟩:=db hi;exact Wk ⟨bV hi,bk,bm hi,bl Node.e ae,bk,bm hi,bl Node.e ae,arv a (kQ (sz:=Node.sz) av (cS ae)),rfl,c3 hi ag,ad⟩) (Wm ⟨dk,ad⟩)
 have e:aw 159 [.agg g.e,.agg g.e] [.one (B (g.cap==g.cap))]:=Wo ⟨Wn ⟨by simp,l,ad⟩,rfl,by simp,ad⟩;rwa[tx]at e
theorem arx(l:bD)(ag:l.sz<=8388608):aw 263 [.agg l.e,.agg l.e] [.one (B true)]:=by
 have e:aw 263 [.agg l.e,.agg l.e] [.one (B (l.dv==l.dv))]:=Wp ⟨by simp,BY l.queue ag,rfl,by simp,by simp,by simp,ad⟩;rwa[tx]at e
theorem ary(w:aQ)(hw:w.sz<=8388608):aw 47 [.agg w.e,.agg w.e] [.one (B true)]:=by
 simp only[aQ.sz]at hw;exact VF ⟨BY _ (by omega),rfl,BY _ (by omega),rfl,BY _ (by omega),rfl,aru (by omega),rfl,XA _ (by omega),rfl,XB (by omega),rfl,XB (by omega),rfl,arq (by omega),ad⟩
theorem XC(c:a8)(ak:c.sz<=8388608):aw 35 [.agg c.e,.agg c.e] [.one (B true)]:=by
 simp only[a8.sz]at ak;have hw:eZ aQ.sz c.ap<=8388608:=by omega
 have ag:eZ bD.sz c.bR<=8388608:=by omega
 have kw:=qw hw;have mG:=qw ag;have kr:=e6 (P:=prog) (c:=(aq f160 0)) (cC 0) c.ap.length (fun i:Nat=>uN (c.ap.map aQ.e) (c.ap.map aQ.e) i) (fun i hi=>by
  obtain⟨a,ae⟩:=db hi;exact VG ⟨bV hi,bk,bm hi,bl aQ.e ae,bk,bm hi,bl aQ.e ae,ary a (kQ hw (cS ae)),rfl,c3 hi kw,ad⟩) (VI ⟨dk,ad⟩)
 have ui:=e6 (P:=prog) (c:=(aq f161 0)) (cC 0) c.bR.length (fun i:Nat=>uM (c.bR.map bD.e) (c.bR.map bD.e) i) (fun i hi=>by
  obtain⟨a,ae⟩:=db hi;exact VB ⟨bV hi,bk,bm hi,bl bD.e ae,bk,bm hi,bl bD.e ae,arx a (kQ ag (cS ae)),rfl,c3 hi mG,ad⟩) (VD ⟨dk,ad⟩)
 exact VK ⟨arw c.aC (by omega),rfl,VJ ⟨by simp,kr,ad⟩,rfl,VE ⟨by simp,ui,ad⟩,rfl,ars (by omega),rfl,art (by omega),ad⟩
