import Derived.Test.YtdchjefneblpgaaGreatP61
import Derived.Test.YtdchjefneblpgaaGreatG3
set_option linter.unusedVariables false
set_option linter.unusedSimpArgs false
namespace Go.Proofs.YtdchjefneblpgaaGreat
open Go.Sx Go.RowKit Go.Proofs.Tryz
theorem KG{v:Int}:Flat [[I v]]:=yi [v]
theorem zU(b:List Int)(k a e:Int):∀(n i:Nat) (xs:List Int) (c:dI),i+n=2->c.ok b->xs.length<=i->
  ∃(ys:List Int) (d:dI),d.ok b/\ys.length<=2/\c3 prog (aq f319 0) (tL (b.map hK) i k a e (xs.map a') 0 0 0 c.i c.h) (.exit 1) (xg (b.map hK) k a e (ys.map a') 0 0 0 d.i d.h)
 | n,i,xs,c,nr,ai,al=>by
  obtain⟨d1,m,cC,ar,bM⟩:=dY b c 3 ai (by omega);by_cases h:(i:Int)<m
  ·match n with
   | 0=>omega
   | n+1=>
    obtain⟨d2,v,cc,bt,b2⟩:=dY b d1 2 cC (by omega);obtain⟨ys,d,o,fj,l⟩:=zU b k a e n (i+1) (xs++[1+(i:Int)*2+v]) d2 (by omega) cc (by simp;omega);refine⟨ys,d,o,fj,.more (afb ⟨bM,j' h,afa ⟨⟨by omega,by omega⟩,⟨by omega,by omega⟩,b2,⟨by omega,by omega⟩,by simp;omega,by simp;omega,KG,aa⟩,⟨by omega,by omega⟩,aa⟩) ?_⟩;rw[hx]at l;exact l
  exact⟨xs,d1,cC,by omega,.last (cM 1) (afc ⟨bM,lE h,aa⟩)⟩
theorem agi(b:List Int)(c:dI)(ai:c.ok b):∃(d:dI) (x:Node),d.ok b/\x.outs.length<=2/\bY prog 319 [.cur (c.e b) (d.e b)] (.vals [.agg x.e]):=by
 obtain⟨d1,n,cC,aW,bM⟩:=dY b c 8 ai (by omega);have i1:ay .i64 (1+n):=⟨by omega,by omega⟩
 by_cases e1:n=1
 ·obtain⟨d2,v,cc,bt,b2⟩:=kS b d1 [0,1,3,10,999] cC (by simp);obtain⟨ys,d,o,fj,l⟩:=zU b (1+n) v 0 2 0 [] d2 rfl cc (by simp);exact⟨d,⟨1+n,v,0,ys⟩,o,fj,afd ⟨bM,i1,by simp[e1],b2,by simp[e1],l,aa⟩⟩
 by_cases e2:n=2
 ·obtain⟨d2,v,cc,bt,b2⟩:=dY b d1 4 cC (by omega);obtain⟨d3,u,cH,hu,cj⟩:=dY b d2 (1+v) cc (by omega);obtain⟨ys,d,o,fj,l⟩:=zU b (1+n) (1+v) u 2 0 [] d3 rfl cH (by simp);exact⟨d,⟨1+n,1+v,u,ys⟩,o,fj,afe ⟨bM,i1,by simp[e2],by simp[e2],b2,⟨by omega,by omega⟩,cj,by simp[e2],l,aa⟩⟩
 by_cases cb:n=3
 ·obtain⟨d2,v,cc,bt,b2⟩:=kS b d1 [0,1,2,3,50,99] cC (by simp);obtain⟨ys,d,o,fj,l⟩:=zU b (1+n) v 0 2 0 [] d2 rfl cc (by simp);exact⟨d,⟨1+n,v,0,ys⟩,o,fj,aff ⟨bM,i1,by simp[cb],by simp[cb],by simp[cb],b2,by simp[cb],l,aa⟩⟩
 have f1:(1+n==2)=false:=by simp;omega
 have f2:(1+n==3)=false:=by simp;omega
 have f3:(1+n==4)=false:=by simp;omega
 by_cases mi:n=7
 ·exact⟨d1,⟨1+n,0,0,[]⟩,cC,by simp,afh ⟨bM,i1,f1,f2,f3,by simp[mi],aa⟩⟩
 obtain⟨ys,d,o,fj,l⟩:=zU b (1+n) 0 0 2 0 [] d1 rfl cC (by simp);exact⟨d,⟨1+n,0,0,ys⟩,o,fj,afg ⟨bM,i1,f1,f2,f3,by simp;omega,l,aa⟩⟩
theorem agj(b:List Int)(c:dI)(ai:c.ok b):∃(d:dI) (x:Node),d.ok b/\x.outs.length<=3/\bY prog 252 [.cur (c.e b) (d.e b)] (.vals [.agg x.e]):=by
 obtain⟨d1,x,cC,ag,bM⟩:=agi b c ai;obtain⟨d2,k,cc,hk,b2⟩:=dY b d1 12 cC (by omega);by_cases bE:k=0
 ·obtain⟨d3,v,cH,bt,cj⟩:=dY b d2 11 cc (by omega);exact⟨d3,⟨v-1,x.a,x.b,x.outs⟩,cH,by dsimp only;omega,afi ⟨bM,b2,by simp[bE],cj,⟨by omega,by omega⟩,aa⟩⟩
 by_cases e1:k=1
 ·obtain⟨d3,v,cH,bt,cj⟩:=kS b d2 [-1,0,1000,100,11] cc (by simp);exact⟨d3,⟨x.kind,v,x.b,x.outs⟩,cH,by dsimp only;omega,afj ⟨bM,b2,by simp[bE],by simp[e1],cj,aa⟩⟩
 by_cases e2:k=2
 ·obtain⟨d3,v,cH,bt,cj⟩:=kS b d2 [-1,1,3] cc (by simp);exact⟨d3,⟨x.kind,x.a,v,x.outs⟩,cH,by dsimp only;omega,afk ⟨bM,b2,by simp[bE],by simp[e1],by simp[e2],cj,aa⟩⟩
 by_cases cb:k=3
 ·obtain⟨d3,v,cH,bt,cj⟩:=kS b d2 [1,7,8,-1] cc (by simp);have:=afm ⟨bM,b2,by simp[bE],by simp[e1],by simp[e2],by simp[cb],afl ⟨cj,by simp;omega,by simp;omega,KG,aa⟩,aa⟩;refine⟨d3,⟨x.kind,x.a,x.b,x.outs++[v]⟩,cH,by simp;omega,?_⟩;unfold Node.e;dsimp only;rw[hx];exact this
 exact⟨d2,x,cc,by omega,afn ⟨bM,b2,by simp[bE],by simp[e1],by simp[e2],by simp[cb],aa⟩⟩
theorem agk{α:Type}{sz:α->Nat}(xs ys:List α):fb sz (xs++ys)=fb sz xs+fb sz ys:=by
 unfold fb;simp;omega
theorem Tv{α:Type}{sz:α->Nat}:∀(xs:List α) (n:Nat),fb sz (xs.take n)<=fb sz xs
 | [],n=>by simp
 | x::xs,0=>by simp[fb]
 | x::xs,n+1=>by
  have:=Tv (sz:=sz) xs n;unfold fb at*;simp only[List.take_succ_cons,dN,k4,v'];omega
def Tw:List D:=[I 8,I 0,I 0,.v (.slice none 0 0)]
def zV:Node:=⟨8,0,0,[]⟩
theorem agl:jU Tw zV.e:=.cons (.refl _) (.cons (.refl _) (.cons (.refl _) (.cons (.nil 1) .nil)))
theorem Tx:∀(xs:List Node),lG (xs.map Node.e) (xs.map Node.e)
 | []=>.nil
 | x::xs=>.cons (jU.refl _) (Tx xs)
theorem Ty:∀{es cr:List (List D)} {e e':List D},lG es cr->jU e e'->lG (es++[e]) (cr++[e'])
 | _,_,_,_,.nil,h=>.cons h .nil
 | _,_,_,_,.cons k t,h=>.cons k (Ty t h)
theorem Tz:∀{es cr:List (List D)},lG es cr->es.length=cr.length
 | _,_,.nil=>rfl
 | _,_,.cons _ t=>by simp[Tz t]
theorem TA(b:List Int)(w p:Int):∀(n:Nat) (xs:List Node) (es:List (List D)) (c:dI),lG es (xs.map Node.e)->xs.length+n=9->fb Node.sz xs<=120-n->n<=9->c.ok b->
  ∃(ys:List Node) (eH:List (List D)) (d:dI),lG eH (ys.map Node.e)/\fb Node.sz ys<=120/\d.ok b/\c3 prog (aq f137 0) (zq (b.map hK) es w p 0 0 c.i c.h) (.exit 1) (IC (b.map hK) eH w p 0 0 d.i d.h)
 | n,xs,es,c,bT,aW,aj,dS,ai=>by
  obtain⟨d1,m,cC,ar,bM⟩:=dY b c 2 ai (by omega);have al:=Tz bT;rw[bk]at al;by_cases h:(es.length:Int)<8+m
  ·match n with
   | 0=>omega
   | n+1=>
    obtain⟨ys,eH,d,fj,fc,o,l⟩:=TA b w p n (xs++[zV]) (es++[Tw]) d1 (by
     rw[hx];exact Ty bT agl) (by simp;omega) (by
     rw[agk];have:fb Node.sz [zV]=1:=rfl;omega) (by omega) cC
    exact⟨ys,eH,d,fj,fc,o,.more (amu ⟨Qf ⟨bM,⟨by omega,by omega⟩,aa⟩,j' h,by simp;omega,by simp;omega,aa⟩) l⟩
  exact⟨xs,es,d1,bT,by omega,cC,.last (cM 1) (amv ⟨Qf ⟨bM,⟨by omega,by omega⟩,aa⟩,lE h,aa⟩)⟩
theorem lF.len{g:bX}(h:lF g):1<=g.nodes.length/\g.nodes.length<=8:=by
 have:=h.ok;simp only[eg,ap,cx,cU]at this;omega
theorem agm(b:List Int)(c:dI)(ai:c.ok b):∃(d:dI) (g:bX),d.ok b/\(g.sz<=120/\-1<=g.az/\g.az<=5)/\bY prog 137 [.cur (c.e b) (d.e b)] (.vals [.agg g.e]):=by
 obtain⟨d1,g,cC,au,bM⟩:=PR b c ai;have aj:=au.size;have al:=au.len;have Xi:=au.az;have wH:((g.nodes.map Node.e).length:Int)=g.nodes.length:=by simp
 obtain⟨d2,k,cc,hk,b2⟩:=dY b d1 (g.nodes.length:Int) cC (by omega);rw[<-wH]at b2;obtain⟨d3,m,cH,hm,cj⟩:=dY b d2 12 cc (by omega);obtain⟨y,bl⟩:=c0 (xs:=g.nodes) (i:=k.toNat) (by omega);have lh:(g.nodes.map Node.e)[k.toNat]?=some y.e:=by rw[dj,bl];rfl
 have yJ:k<((g.nodes.map Node.e).length:Int):=by omega
 have jP:∀x:Node,x.sz<=y.sz+3->(⟨g.nodes.set k.toNat x,g.az,g.cap⟩:bX).sz<=120:=fun x ag=>by
  have:=vo (sz:=Node.sz) x bl;unfold bX.sz at aj ⊢;dsimp only;omega
 by_cases bE:m=0
 ·obtain⟨d4,x,fr,ag,ep⟩:=agj b d3 cH;have:=amp ⟨bM,b2,cj,by simp[bE],amo ⟨ep,hk.1,yJ,lh,aa⟩,aa⟩;refine⟨d4,⟨g.nodes.set k.toNat x,g.az,g.cap⟩,fr,⟨jP x (by unfold Node.sz;omega),by dsimp only;omega,by dsimp only;omega⟩,?_⟩;unfold bX.e;dsimp only;rw[jw];exact this
 by_cases e1:m=1
 ·obtain⟨d4,v,fr,bt,ep⟩:=kS b d3 [0,4,5,-1] cH (by simp);simp only[eu,mT,or_false]at bt;exact⟨d4,⟨g.nodes,v,g.cap⟩,fr,⟨by unfold bX.sz at aj ⊢;dsimp only;omega,by dsimp only;omega,by dsimp only;omega⟩,amq ⟨bM,b2,cj,by simp[bE],by simp[e1],ep,aa⟩⟩
 by_cases e2:m=2
 ·obtain⟨d4,v,fr,bt,ep⟩:=kS b d3 [0,4,5,-1] cH (by simp);exact⟨d4,⟨g.nodes,g.az,v⟩,fr,⟨by unfold bX.sz at aj ⊢;dsimp only;omega,by dsimp only;omega,by dsimp only;omega⟩,amr ⟨bM,b2,cj,by simp[bE],by simp[e1],by simp[e2],ep,aa⟩⟩
 by_cases cb:m=3
 ·obtain⟨d4,v,fr,bt,ep⟩:=dY b d3 9 cH (by omega);have N7:y.outs.length<=100:=by
   have:=vo (sz:=Node.sz) zV bl;have bf:Node.sz zV=0:=rfl;have:y.sz<=100:=by unfold bX.sz at aj;omega
   exact this
  have:=amt ⟨bM,b2,cj,by simp[bE],by simp[e1],by simp[e2],by simp[cb],ams ⟨hk.1,yJ,lh,ep,⟨by omega,by omega⟩,by simp;omega,by simp;omega,lh,rfl,rfl,KG,hk.1,yJ,lh,rfl,aa⟩,aa⟩;refine⟨d4,⟨g.nodes.set k.toNat ⟨y.kind,y.a,y.b,y.outs++[v-1]⟩,g.az,g.cap⟩,fr,⟨jP _ (by unfold Node.sz;simp),by dsimp only;omega,by dsimp only;omega⟩,?_⟩;unfold bX.e;dsimp only;rw[jw];unfold Node.e;dsimp only;rw[hx];exact this
 by_cases ef:m=4
 ·obtain⟨ys,eH,d,fj,fc,o,l⟩:=TA b g.az g.cap (9-g.nodes.length) g.nodes (g.nodes.map Node.e) d3 (Tx _) (by omega) (by unfold bX.sz at aj;omega) (by omega) cH;have:=amw ⟨bM,b2,cj,by simp[bE],by simp[e1],by simp[e2],by simp[cb],by simp[ef],l,aa⟩;exact⟨d,⟨ys,g.az,g.cap⟩,o,⟨fc,by dsimp only;omega,by dsimp only;omega⟩,this.fit (.cons (.agg (.cons (.J 4 fj) (jU.refl _))) .nil)⟩
 by_cases gY:m=5
 ·have:=amx ⟨bM,b2,cj,by simp[bE],by simp[e1],by simp[e2],by simp[cb],by simp[ef],by simp[gY],by decide,hk.1,by change k<=_;omega,aa⟩;refine⟨d3,⟨g.nodes.take k.toNat,g.az,g.cap⟩,cH,⟨?_,by dsimp only;omega,by dsimp only;omega⟩,?_⟩
  ·have:=Tv (sz:=Node.sz) g.nodes k.toNat;unfold bX.sz at aj ⊢;dsimp only;omega
  unfold bX.e;dsimp only;rw[q6];exact this
 exact⟨d3,g,cH,⟨by omega,by omega,by omega⟩,amy ⟨bM,b2,cj,by simp[bE],by simp[e1],by simp[e2],by simp[cb],by simp[ef],by simp[gY],aa⟩⟩
