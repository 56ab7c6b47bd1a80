import Derived.Test.YtdchjefneblpgaaGreatP89
import Derived.Test.YtdchjefneblpgaaGreatG3
import Derived.Test.YtdchjefneblpgaaGreatG4
set_option linter.unusedVariables false
set_option linter.unusedSimpArgs false
namespace Go.Proofs.YtdchjefneblpgaaGreat
open Go.Sx Go.RowKit Go.Proofs.Tryz
end Go.Proofs.YtdchjefneblpgaaGreat
namespace Go.Proofs.YtdchjefneblpgaaGreat
open Go.Sx Go.RowKit Go.Proofs.Tryz
end Go.Proofs.YtdchjefneblpgaaGreat
namespace Go.Proofs.YtdchjefneblpgaaGreat
open Go.Sx Go.RowKit Go.Proofs.Tryz
theorem Grown.run{g:bW}{xs:List aA}{x:aU}(h:Grown g xs x):∃(d:aU) (j:Nat) (P:kx) (T:Int),mW x 3000=(d,j)/\j<3000/\Live P T d/\T<=200000/\d.aF=x.aF/\FT d/\∀p∈gb d,(de d p).2=false:=by
 obtain⟨P,S,CO,af,fF,C6⟩:=h.live;obtain⟨d,j,T,e⟩:=ajm h.drawn h.input h.few CO af fF C6;exact⟨d,j,P,T,e⟩
end Go.Proofs.YtdchjefneblpgaaGreat
namespace Go.Proofs.YtdchjefneblpgaaGreat
open Go.Sx Go.RowKit Go.Proofs.Tryz
def Fair(r:aA):Prop:=(0<=r.op/\r.op<5)/\(0<=r.bc.a8/\r.bc.a8<4)/\(0<=r.bc.cD/\r.bc.cD<5)/\(0<=r.key/\r.key<12)/\(0<=r.val/\r.val<40)
theorem vO{n:Int}(h1:-9223372036854775808<=n)(U:n<=9223372036854775807):bf .i64 n:=⟨h1,U⟩
theorem Fair.wf{r:aA}(h:Fair r):r.wf:=by
 obtain⟨h1,U,au,aH,ba⟩:=h;exact⟨vO (by omega) (by omega),⟨vO (by omega) (by omega),vO (by omega) (by omega)⟩,vO (by omega) (by omega),vO (by omega) (by omega)⟩
theorem UF(b:List Int)(c:dz)(ad:c.ok b):∃(d:dz) (s:bD),d.ok b/\((0<=s.a8/\s.a8<4)/\(0<=s.cD/\s.cD<5))/\bU prog 325 [.cur (c.e b) (d.e b)] (.vals [.agg s.e]):=by
 obtain⟨d1,x,cd,h1,bB⟩:=dQ b c 4 ad (by omega);obtain⟨d2,y,bY,U,bV⟩:=dQ b d1 5 cd (by omega);exact⟨d2,⟨x,y⟩,bY,⟨h1,U⟩,apw ⟨bB,bV,aj⟩⟩
theorem Bi{n:Int}{xs:List Int}(h:n∈xs)(aa:(xs.all fun x=>decide (-9223372036854775808<=x)&&decide (x<=9223372036854775807))=true):bf .i64 n:=by
 have:=fN.1 aa n h;simp only[ca,ci]at this;exact this
theorem ajn(b:List Int)(c:dz)(ad:c.ok b):∃(d:dz) (s:bD),d.ok b/\s.wf/\bU prog 272 [.cur (c.e b) (d.e b)] (.vals [.agg s.e]):=by
 obtain⟨d1,s,cd,⟨h1,U⟩,bB⟩:=UF b c ad;obtain⟨d2,k,bY,au,bV⟩:=dQ b d1 10 cd (by omega);have w1:bf .i64 s.a8:=vO (by omega) (by omega);have lb:bf .i64 s.cD:=vO (by omega) (by omega);by_cases bE:k=0
 ·obtain⟨d3,x,cr,aH,cb⟩:=l8 b d2 [-1,3,4,9223372036854775807] bY (by simp);exact⟨d3,⟨x,s.cD⟩,cr,⟨Bi aH (by decide),lb⟩,apx ⟨bB,bV,by simp[bE],cb,aj⟩⟩
 by_cases e1:k=1
 ·obtain⟨d3,x,cr,aH,cb⟩:=l8 b d2 [-1,5,6,7,-9223372036854775808] bY (by simp);exact⟨d3,⟨s.a8,x⟩,cr,⟨w1,Bi aH (by decide)⟩,apy ⟨bB,bV,by simp[bE],by simp[e1],cb,aj⟩⟩
 exact⟨d2,s,bY,⟨w1,lb⟩,apz ⟨bB,bV,by simp[bE],by simp[e1],aj⟩⟩
theorem Fb(b:List Int)(c:dz)(ad:c.ok b):∃(d:dz) (r:aA),d.ok b/\Fair r/\bU prog 271 [.cur (c.e b) (d.e b)] (.vals [.agg r.e]):=by
 obtain⟨d1,x,cd,h1,bB⟩:=dQ b c 5 ad (by omega);obtain⟨d2,s,bY,⟨U,au⟩,bV⟩:=UF b d1 cd;obtain⟨d3,k,cr,aH,cb⟩:=dQ b d2 12 bY (by omega);obtain⟨d4,v,fl,ba,et⟩:=dQ b d3 40 cr (by omega);exact⟨d4,⟨x,s,k,v⟩,fl,⟨h1,U,au,aH,ba⟩,apA ⟨bB,bV,cb,et,aj⟩⟩
theorem UG(b:List Int)(c:dz)(ad:c.ok b):∃(d:dz) (r:aA),d.ok b/\r.wf/\bU prog 178 [.cur (c.e b) (d.e b)] (.vals [.agg r.e]):=by
 obtain⟨d1,r,cd,ar,bB⟩:=Fb b c ad;obtain⟨w1,lb,L2,L3⟩:=ar.wf;obtain⟨d2,k,bY,au,bV⟩:=dQ b d1 12 cd (by omega);by_cases bE:k=0
 ·obtain⟨d3,x,cr,aH,cb⟩:=l8 b d2 [-1,7,8] bY (by simp);exact⟨d3,⟨x,r.bc,r.key,r.val⟩,cr,⟨Bi aH (by decide),lb,L2,L3⟩,apB ⟨bB,bV,by simp[bE],cb,aj⟩⟩
 by_cases e1:k=1
 ·obtain⟨d3,s,cr,aH,cb⟩:=ajn b d2 bY;exact⟨d3,⟨r.op,s,r.key,r.val⟩,cr,⟨w1,aH,L2,L3⟩,apC ⟨bB,bV,by simp[bE],by simp[e1],cb,aj⟩⟩
 by_cases e2:k=2
 ·obtain⟨d3,x,cr,aH,cb⟩:=l8 b d2 [-1,99,100,-9223372036854775808] bY (by simp);exact⟨d3,⟨r.op,r.bc,x,r.val⟩,cr,⟨w1,lb,Bi aH (by decide),L3⟩,apD ⟨bB,bV,by simp[bE],by simp[e1],by simp[e2],cb,aj⟩⟩
 by_cases b2:k=3
 ·obtain⟨d3,x,cr,aH,cb⟩:=l8 b d2 [-1,999,1000,9223372036854775807] bY (by simp);exact⟨d3,⟨r.op,r.bc,r.key,x⟩,cr,⟨w1,lb,L2,Bi aH (by decide)⟩,apE ⟨bB,bV,by simp[bE],by simp[e1],by simp[e2],by simp[b2],cb,aj⟩⟩
 exact⟨d2,r,bY,ar.wf,apF ⟨bB,bV,by simp[bE],by simp[e1],by simp[e2],by simp[b2],aj⟩⟩
theorem Gp(r:aA):Flat [r.e]:=dk fun d ax=>by
 simp only[aA.e,dG,mr,or_false]at ax;rcases ax with rfl | rfl | rfl | rfl | rfl<;>exact⟨_,rfl⟩
end Go.Proofs.YtdchjefneblpgaaGreat
namespace Go.Proofs.YtdchjefneblpgaaGreat
open Go.Sx Go.RowKit Go.Proofs.Tryz
theorem K2{v:Int}:Flat [[I v]]:=Gn [v]
theorem Bj(b:List Int)(k a e:Int):∀(n i:Nat) (xs:List Int) (c:dz),i+n=2->c.ok b->xs.length<=i->
  ∃(ys:List Int) (d:dz),d.ok b/\ys.length<=2/\dd prog (az f319 0) (uM (b.map hq) i k a e (xs.map cv) 0 0 0 c.i c.h) (.exit 1) (yX (b.map hq) k a e (ys.map cv) 0 0 0 d.i d.h)
 | n,i,xs,c,ig,ad,af=>by
  obtain⟨d1,m,cd,ah,bB⟩:=dQ b c 3 ad (by omega);by_cases h:(i:Int)<m
  ·match n with
   | 0=>omega
   | n+1=>
    obtain⟨d2,v,bY,bj,bV⟩:=dQ b d1 2 cd (by omega);obtain⟨ys,d,o,e9,l⟩:=Bj b k a e n (i+1) (xs++[1+(i:Int)*2+v]) d2 (by omega) bY (by simp;omega);refine⟨ys,d,o,e9,.more (ags ⟨bB,ji h,agr ⟨⟨by omega,by omega⟩,⟨by omega,by omega⟩,bV,⟨by omega,by omega⟩,by simp;omega,by simp;omega,K2,aj⟩,⟨by omega,by omega⟩,aj⟩) ?_⟩;rw[e3]at l;exact l
  exact⟨xs,d1,cd,by omega,.last (cL 1) (agt ⟨bB,mu h,aj⟩)⟩
theorem ajo(b:List Int)(c:dz)(ad:c.ok b):∃(d:dz) (x:Node),d.ok b/\x.outs.length<=2/\bU prog 319 [.cur (c.e b) (d.e b)] (.vals [.agg x.e]):=by
 obtain⟨d1,n,cd,aL,bB⟩:=dQ b c 8 ad (by omega);have i1:bf .i64 (1+n):=⟨by omega,by omega⟩
 by_cases e1:n=1
 ·obtain⟨d2,v,bY,bj,bV⟩:=l8 b d1 [0,1,3,10,999] cd (by simp);obtain⟨ys,d,o,e9,l⟩:=Bj b (1+n) v 0 2 0 [] d2 rfl bY (by simp);exact⟨d,⟨1+n,v,0,ys⟩,o,e9,agu ⟨bB,i1,by simp[e1],bV,by simp[e1],l,aj⟩⟩
 by_cases e2:n=2
 ·obtain⟨d2,v,bY,bj,bV⟩:=dQ b d1 4 cd (by omega);obtain⟨d3,u,cr,hu,cb⟩:=dQ b d2 (1+v) bY (by omega);obtain⟨ys,d,o,e9,l⟩:=Bj b (1+n) (1+v) u 2 0 [] d3 rfl cr (by simp);exact⟨d,⟨1+n,1+v,u,ys⟩,o,e9,agv ⟨bB,i1,by simp[e2],by simp[e2],bV,⟨by omega,by omega⟩,cb,by simp[e2],l,aj⟩⟩
 by_cases b2:n=3
 ·obtain⟨d2,v,bY,bj,bV⟩:=l8 b d1 [0,1,2,3,50,99] cd (by simp);obtain⟨ys,d,o,e9,l⟩:=Bj b (1+n) v 0 2 0 [] d2 rfl bY (by simp);exact⟨d,⟨1+n,v,0,ys⟩,o,e9,agw ⟨bB,i1,by simp[b2],by simp[b2],by simp[b2],bV,by simp[b2],l,aj⟩⟩
 have f1:(1+n==2)=false:=by simp;omega
 have f2:(1+n==3)=false:=by simp;omega
 have f3:(1+n==4)=false:=by simp;omega
 by_cases nr:n=7
 ·exact⟨d1,⟨1+n,0,0,[]⟩,cd,by simp,agy ⟨bB,i1,f1,f2,f3,by simp[nr],aj⟩⟩
 obtain⟨ys,d,o,e9,l⟩:=Bj b (1+n) 0 0 2 0 [] d1 rfl cd (by simp);exact⟨d,⟨1+n,0,0,ys⟩,o,e9,agx ⟨bB,i1,f1,f2,f3,by simp;omega,l,aj⟩⟩
theorem ajp(b:List Int)(c:dz)(ad:c.ok b):∃(d:dz) (x:Node),d.ok b/\x.outs.length<=3/\bU prog 252 [.cur (c.e b) (d.e b)] (.vals [.agg x.e]):=by
 obtain⟨d1,x,cd,aa,bB⟩:=ajo b c ad;obtain⟨d2,k,bY,hk,bV⟩:=dQ b d1 12 cd (by omega);by_cases bE:k=0
 ·obtain⟨d3,v,cr,bj,cb⟩:=dQ b d2 11 bY (by omega);exact⟨d3,⟨v-1,x.a,x.b,x.outs⟩,cr,by dsimp only;omega,agz ⟨bB,bV,by simp[bE],cb,⟨by omega,by omega⟩,aj⟩⟩
 by_cases e1:k=1
 ·obtain⟨d3,v,cr,bj,cb⟩:=l8 b d2 [-1,0,1000,100,11] bY (by simp);exact⟨d3,⟨x.kind,v,x.b,x.outs⟩,cr,by dsimp only;omega,agA ⟨bB,bV,by simp[bE],by simp[e1],cb,aj⟩⟩
 by_cases e2:k=2
 ·obtain⟨d3,v,cr,bj,cb⟩:=l8 b d2 [-1,1,3] bY (by simp);exact⟨d3,⟨x.kind,x.a,v,x.outs⟩,cr,by dsimp only;omega,agB ⟨bB,bV,by simp[bE],by simp[e1],by simp[e2],cb,aj⟩⟩
 by_cases b2:k=3
 ·obtain⟨d3,v,cr,bj,cb⟩:=l8 b d2 [1,7,8,-1] bY (by simp);have:=afM ⟨bB,bV,by simp[bE],by simp[e1],by simp[e2],by simp[b2],agC ⟨cb,by simp;omega,by simp;omega,K2,aj⟩,aj⟩;refine⟨d3,⟨x.kind,x.a,x.b,x.outs++[v]⟩,cr,by simp;omega,?_⟩;unfold Node.e;dsimp only;rw[e3];exact this
 exact⟨d2,x,bY,by omega,afN ⟨bB,bV,by simp[bE],by simp[e1],by simp[e2],by simp[b2],aj⟩⟩
theorem ajq{α:Type}{sz:α->Nat}(xs ys:List α):fp sz (xs++ys)=fp sz xs+fp sz ys:=by
 unfold fp;simp;omega
theorem UH{α:Type}{sz:α->Nat}:∀(xs:List α) (n:Nat),fp sz (xs.take n)<=fp sz xs
 | [],n=>by simp
 | x::xs,0=>by simp[fp]
 | x::xs,n+1=>by
  have:=UH (sz:=sz) xs n;unfold fp at*;simp only[List.take_succ_cons,dn,iT,oY];omega
def UI:List D:=[I 8,I 0,I 0,.v (.slice none 0 0)]
def Bk:Node:=⟨8,0,0,[]⟩
theorem ajr:kv UI Bk.e:=.cons (.refl _) (.cons (.refl _) (.cons (.refl _) (.cons (.nil 1) .nil)))
theorem UJ:∀(xs:List Node),mv (xs.map Node.e) (xs.map Node.e)
 | []=>.nil
 | x::xs=>.cons (kv.refl _) (UJ xs)
theorem UK:∀{es cp:List (List D)} {e e':List D},mv es cp->kv e e'->mv (es++[e]) (cp++[e'])
 | _,_,_,_,.nil,h=>.cons h .nil
 | _,_,_,_,.cons k t,h=>.cons k (UK t h)
theorem UL:∀{es cp:List (List D)},mv es cp->es.length=cp.length
 | _,_,.nil=>rfl
 | _,_,.cons _ t=>by simp[UL t]
theorem UM(b:List Int)(w p:Int):∀(n:Nat) (xs:List Node) (es:List (List D)) (c:dz),mv es (xs.map Node.e)->xs.length+n=9->fp Node.sz xs<=120-n->n<=9->c.ok b->
  ∃(ys:List Node) (eT:List (List D)) (d:dz),mv eT (ys.map Node.e)/\fp Node.sz ys<=120/\d.ok b/\dd prog (az f137 0) (Az (b.map hq) es w p 0 0 c.i c.h) (.exit 1) (KO (b.map hq) eT w p 0 0 d.i d.h)
 | n,xs,es,c,bl,aL,ae,e5,ad=>by
  obtain⟨d1,m,cd,ah,bB⟩:=dQ b c 2 ad (by omega);have af:=UL bl;rw[bp]at af;by_cases h:(es.length:Int)<8+m
  ·match n with
   | 0=>omega
   | n+1=>
    obtain⟨ys,eT,d,e9,fb,o,l⟩:=UM b w p n (xs++[Bk]) (es++[UI]) d1 (by
     rw[e3];exact UK bl ajr) (by simp;omega) (by
     rw[ajq];have:fp Node.sz [Bk]=1:=rfl;omega) (by omega) cd
    exact⟨ys,eT,d,e9,fb,o,.more (apl ⟨Sv ⟨bB,⟨by omega,by omega⟩,aj⟩,ji h,by simp;omega,by simp;omega,aj⟩) l⟩
  exact⟨xs,es,d1,bl,by omega,cd,.last (cL 1) (apm ⟨Sv ⟨bB,⟨by omega,by omega⟩,aj⟩,mu h,aj⟩)⟩
theorem ku.len{g:bW}(h:ku g):1<=g.nodes.length/\g.nodes.length<=8:=by
 have:=h.ok;simp only[fa,aW,ca,ci]at this;omega
theorem ajs(b:List Int)(c:dz)(ad:c.ok b):∃(d:dz) (g:bW),d.ok b/\(g.sz<=120/\-1<=g.ap/\g.ap<=5)/\bU prog 137 [.cur (c.e b) (d.e b)] (.vals [.agg g.e]):=by
 obtain⟨d1,g,cd,ao,bB⟩:=SB b c ad;have ae:=ao.size;have af:=ao.len;have XG:=ao.ap;have xI:((g.nodes.map Node.e).length:Int)=g.nodes.length:=by simp
 obtain⟨d2,k,bY,hk,bV⟩:=dQ b d1 (g.nodes.length:Int) cd (by omega);rw[<-xI]at bV;obtain⟨d3,m,cr,hm,cb⟩:=dQ b d2 12 bY (by omega);obtain⟨y,a1⟩:=dv (xs:=g.nodes) (i:=k.toNat) (by omega);have nE:(g.nodes.map Node.e)[k.toNat]?=some y.e:=by rw[c9,a1];rfl
 have xH:k<((g.nodes.map Node.e).length:Int):=by omega
 have gd:∀x:Node,x.sz<=y.sz+3->(⟨g.nodes.set k.toNat x,g.ap,g.cap⟩:bW).sz<=120:=fun x aa=>by
  have:=wT (sz:=Node.sz) x a1;unfold bW.sz at ae ⊢;dsimp only;omega
 by_cases bE:m=0
 ·obtain⟨d4,x,fl,aa,et⟩:=ajp b d3 cr;have:=apR ⟨bB,bV,cb,by simp[bE],apQ ⟨et,hk.1,xH,nE,aj⟩,aj⟩;refine⟨d4,⟨g.nodes.set k.toNat x,g.ap,g.cap⟩,fl,⟨gd x (by unfold Node.sz;omega),by dsimp only;omega,by dsimp only;omega⟩,?_⟩;unfold bW.e;dsimp only;rw[jj];exact this
 by_cases e1:m=1
 ·obtain⟨d4,v,fl,bj,et⟩:=l8 b d3 [0,4,5,-1] cr (by simp);simp only[dG,mr,or_false]at bj;exact⟨d4,⟨g.nodes,v,g.cap⟩,fl,⟨by unfold bW.sz at ae ⊢;dsimp only;omega,by dsimp only;omega,by dsimp only;omega⟩,apS ⟨bB,bV,cb,by simp[bE],by simp[e1],et,aj⟩⟩
 by_cases e2:m=2
 ·obtain⟨d4,v,fl,bj,et⟩:=l8 b d3 [0,4,5,-1] cr (by simp);exact⟨d4,⟨g.nodes,g.ap,v⟩,fl,⟨by unfold bW.sz at ae ⊢;dsimp only;omega,by dsimp only;omega,by dsimp only;omega⟩,api ⟨bB,bV,cb,by simp[bE],by simp[e1],by simp[e2],et,aj⟩⟩
 by_cases b2:m=3
 ·obtain⟨d4,v,fl,bj,et⟩:=dQ b d3 9 cr (by omega);have N9:y.outs.length<=100:=by
   have:=wT (sz:=Node.sz) Bk a1;have aR:Node.sz Bk=0:=rfl;have:y.sz<=100:=by unfold bW.sz at ae;omega
   exact this
  have:=apk ⟨bB,bV,cb,by simp[bE],by simp[e1],by simp[e2],by simp[b2],apj ⟨hk.1,xH,nE,et,⟨by omega,by omega⟩,by simp;omega,by simp;omega,nE,rfl,rfl,K2,hk.1,xH,nE,rfl,aj⟩,aj⟩;refine⟨d4,⟨g.nodes.set k.toNat ⟨y.kind,y.a,y.b,y.outs++[v-1]⟩,g.ap,g.cap⟩,fl,⟨gd _ (by unfold Node.sz;simp),by dsimp only;omega,by dsimp only;omega⟩,?_⟩;unfold bW.e;dsimp only;rw[jj];unfold Node.e;dsimp only;rw[e3];exact this
 by_cases dB:m=4
 ·obtain⟨ys,eT,d,e9,fb,o,l⟩:=UM b g.ap g.cap (9-g.nodes.length) g.nodes (g.nodes.map Node.e) d3 (UJ _) (by omega) (by unfold bW.sz at ae;omega) (by omega) cr;have:=apn ⟨bB,bV,cb,by simp[bE],by simp[e1],by simp[e2],by simp[b2],by simp[dB],l,aj⟩;exact⟨d,⟨ys,g.ap,g.cap⟩,o,⟨fb,by dsimp only;omega,by dsimp only;omega⟩,this.fit (.cons (.agg (.cons (.J 4 e9) (kv.refl _))) .nil)⟩
 by_cases gD:m=5
 ·have:=apo ⟨bB,bV,cb,by simp[bE],by simp[e1],by simp[e2],by simp[b2],by simp[dB],by simp[gD],by decide,hk.1,by change k<=_;omega,aj⟩;refine⟨d3,⟨g.nodes.take k.toNat,g.ap,g.cap⟩,cr,⟨?_,by dsimp only;omega,by dsimp only;omega⟩,?_⟩
  ·have:=UH (sz:=Node.sz) g.nodes k.toNat;unfold bW.sz at ae ⊢;dsimp only;omega
  unfold bW.e;dsimp only;rw[lO];exact this
 exact⟨d3,g,cr,⟨by omega,by omega,by omega⟩,apq ⟨bB,bV,cb,by simp[bE],by simp[e1],by simp[e2],by simp[b2],by simp[dB],by simp[gD],aj⟩⟩
end Go.Proofs.YtdchjefneblpgaaGreat
namespace Go.Proofs.YtdchjefneblpgaaGreat
open Go.Sx Go.RowKit Go.Proofs.Tryz
theorem ajt(w:aP)(r:aA)(hw:w.sz<=8388608):aK 376 [.agg w.e,.agg r.e] [.agg (kept w r).e]:=by
 have av:w.queue.length<=8388608:=by simp only[aP.sz]at hw;omega
 rw[Ln];exact ahX ⟨yQ w hw,As av,Au av,dk (aA.flat r),aj⟩
theorem aju(w:aP)(r:aA)(hw:w.sz<=8388608)(aH:w.bK.length=4)(ah:w.bL.length=4)(he:0<=r.bc.a8/\r.bc.a8<=3)(ae:-1000000<=w.bK.getD r.bc.a8.toNat 0/\w.bK.getD r.bc.a8.toNat 0<=1000000):
  aK 349 [.agg w.e,.agg r.e] [.agg (hV w r).e]:=by
 have k:=ajt w r hw;rw[Ln]at k;rw[aiz];obtain⟨s1,s2⟩:=HF aH he;obtain⟨fQ,fH⟩:=xq ah he;have G1:(↑(w.bK.map cv).length:Int)-1=3:=by rw[bp,aH];rfl
 exact ahY ⟨k,⟨by rw[G1];omega,by rw[G1];omega⟩,fL true (by rw[G1];simp only[aW,ci];omega),rfl,dU fQ,he.1,s1,s2,⟨by omega,by omega⟩,he.1,s1,s2,he.1,fQ,fH,aj⟩
theorem aiF(w:aP)(r:aA)(t:List aA)(hw:w.sz<=8388608)(h:w.ck=r::t):aK 351 [.agg w.e] [.agg (iP w t).e,.agg r.e,.one (B true)]:=by
 have af:w.ck.length<=8388608:=by simp only[aP.sz]at hw;omega
 have e:(iP w t).e=[.J 5 (w.queue.map aA.e),.J 5 ([]++((w.ck.map aA.e).drop 1).take ((w.ck.map aA.e).length-1)),.J 5 (w.bT.map aA.e),.J 4 (w.cells.map Cell.e),.J 1 (w.bK.map cv),.J 1 (w.bL.map c6),.J 1 (w.bA.map c6),.J 2 (w.cu.map dA.e)]:=by rw[s7 h];rfl
 rw[e];exact ahW ⟨yQ w hw,qc h,by decide,nV h,qo h,qV,qW h,qX,rN h af,rO h af,rP h,aj⟩
theorem aiG(w:aP)(hw:w.sz<=8388608)(h:w.ck=[]):aK 351 [.agg w.e] [.agg w.e,.agg (⟨0,⟨0,0⟩,0,0⟩:aA).e,.one (B false)]:=
 ahV ⟨yQ w hw,vP h,aj⟩
theorem aiH(g:bW)(w:aP)(ao:g.sz<=8388608)(hw:w.sz<=8388608):aK 48 [.agg g.e,.agg w.e] [.agg (f' g w).1.e,.one (B (f' g w).2)]:=by
 have h2:=yQ w hw;have k:=yc g ao;have kw:=D0 g w ao hw;have mB:w.cells.length<=8388608:=by simp only[aP.sz]at hw;omega
 have lX:w.queue.length<=8388608:=by simp only[aP.sz]at hw;omega
 cases h1:fa g with
 | false=>
  rw[h1]at k;rw[show f' g w=(w,false) by unfold f';simp[h1]];exact ah5 ⟨h2,k,rfl,aj⟩
 | true=>
 rw[h1]at k;cases U:fz g w with
 | false=>
  rw[U]at kw;rw[show f' g w=(w,false) by unfold f';simp[U]];exact ah6 ⟨h2,k,rfl,kw,rfl,aj⟩
 | true=>
 rw[U]at kw;have hu:f' g w=match w.ck,w.queue with
  | [],r::q=>(⟨q,(dL g w.cells r).2.1,w.bT,(dL g w.cells r).1,w.bK,w.bL,(if ct g r then w.bA.set r.bc.a8.toNat true else w.bA),w.cu⟩,true)
  | _,_=>(w,false):=by unfold f';rw[h1,U];rfl
 cases au:w.ck with
 | cons r q=>
  rw[show f' g w=(w,false) by rw[hu,au]];exact ah7 ⟨h2,k,rfl,kw,rfl,x2 au,aj⟩
 | nil=>
 cases aH:w.queue with
 | nil=>
  rw[show f' g w=(w,false) by rw[hu,au,aH]];exact ah8 ⟨h2,k,rfl,kw,rfl,l2 au,vP aH,aj⟩
 | cons r q=>
  have st:=R8 g w.cells r ao mB;have sc:=R9 g r ao;obtain⟨cC,_,_,_,_,_,kf,_⟩:=h6.1 U;rw[aH,qj]at cC;have he:=uH cC.1;obtain⟨c1,c2⟩:=xq kf he;cases ba:ct g r with
  | true=>
   rw[ba]at sc;rw[show f' g w=(⟨q,(dL g w.cells r).2.1,w.bT,(dL g w.cells r).1,w.bK,w.bL,w.bA.set r.bc.a8.toNat true,w.cu⟩,true) by rw[hu,au,aH];simp only[ba,fO]];have e:aP.e ⟨q,(dL g w.cells r).2.1,w.bT,(dL g w.cells r).1,w.bK,w.bL,w.bA.set r.bc.a8.toNat true,w.cu⟩=[.J 5 ([]++((w.queue.map aA.e).drop 1).take ((w.queue.map aA.e).length-1)),.J 5 ((dL g w.cells r).2.1.map aA.e),.J 5 (w.bT.map aA.e),.J 4 ((dL g w.cells r).1.map Cell.e),.J 1 (w.bK.map cv),.J 1 (w.bL.map c6),.J 1 ((w.bA.map c6).set r.bc.a8.toNat [B true]),.J 2 (w.cu.map dA.e)]:=by
    rw[s7 aH];simp only[aP.e,jj];rfl
   dsimp only;rw[e];exact ah9 ⟨h2,k,rfl,kw,rfl,l2 au,qc aH,by decide,nV aH,qo aH,st,qV,qW aH,qX,rN aH lX,rO aH lX,rP aH,sc,rfl,he.1,c1,c2,aj⟩
  | false=>
   rw[ba]at sc;rw[show f' g w=(⟨q,(dL g w.cells r).2.1,w.bT,(dL g w.cells r).1,w.bK,w.bL,w.bA,w.cu⟩,true) by rw[hu,au,aH];simp only[ba];rfl];have e:aP.e ⟨q,(dL g w.cells r).2.1,w.bT,(dL g w.cells r).1,w.bK,w.bL,w.bA,w.cu⟩=[.J 5 ([]++((w.queue.map aA.e).drop 1).take ((w.queue.map aA.e).length-1)),.J 5 ((dL g w.cells r).2.1.map aA.e),.J 5 (w.bT.map aA.e),.J 4 ((dL g w.cells r).1.map Cell.e),.J 1 (w.bK.map cv),.J 1 (w.bL.map c6),.J 1 (w.bA.map c6),.J 2 (w.cu.map dA.e)]:=by
    rw[s7 aH];rfl
   dsimp only;rw[e];exact aia ⟨h2,k,rfl,kw,rfl,l2 au,qc aH,by decide,nV aH,qo aH,st,qV,qW aH,qX,rN aH lX,rO aH lX,rP aH,sc,rfl,aj⟩
theorem aiI(g:bW)(w:aP)(ao:g.sz<=8388608)(hw:w.sz<=8388608):aK 348 [.agg g.e,.agg w.e] [.agg (ga g w).1.e,.one (B (ga g w).2)]:=by
 have h2:=yQ w hw;have k:=yc g ao;have kw:=D0 g w ao hw;have av:w.queue.length<=8388608:=by simp only[aP.sz]at hw;omega
 have jz:w.bT.length<=8388608:=by simp only[aP.sz]at hw;omega
 cases h1:fa g with
 | false=>
  rw[h1]at k;rw[show ga g w=(w,false) by unfold ga;simp[h1]];exact ahZ ⟨h2,k,rfl,aj⟩
 | true=>
 rw[h1]at k;cases U:fz g w with
 | false=>
  rw[U]at kw;rw[show ga g w=(w,false) by unfold ga;simp[U]];exact ah0 ⟨h2,k,rfl,kw,rfl,aj⟩
 | true=>
 rw[U]at kw;have hu:ga g w=match w.ck,w.queue,w.bT with
  | [],[],r::t=>(⟨[r],[],t,w.cells,w.bK,w.bL,w.bA,w.cu⟩,true)
  | _,_,_=>(w,false):=by unfold ga;rw[h1,U];rfl
 cases au:w.ck with
 | cons r q=>
  rw[show ga g w=(w,false) by rw[hu,au]];exact ah1 ⟨h2,k,rfl,kw,rfl,x2 au,aj⟩
 | nil=>
 cases aH:w.queue with
 | cons r q=>
  rw[show ga g w=(w,false) by rw[hu,au,aH]];exact ah2 ⟨h2,k,rfl,kw,rfl,l2 au,x2 aH,aj⟩
 | nil=>
 cases ba:w.bT with
 | nil=>
  rw[show ga g w=(w,false) by rw[hu,au,aH,ba]];exact ah3 ⟨h2,k,rfl,kw,rfl,l2 au,l2 aH,vP ba,aj⟩
 | cons r t=>
  rw[show ga g w=(⟨[r],[],t,w.cells,w.bK,w.bL,w.bA,w.cu⟩,true) by rw[hu,au,aH,ba]];have e:aP.e ⟨[r],[],t,w.cells,w.bK,w.bL,w.bA,w.cu⟩=[.J 5 (w.queue.map aA.e++[r.e]),.J 5 (w.ck.map aA.e),.J 5 ([]++((w.bT.map aA.e).drop 1).take ((w.bT.map aA.e).length-1)),.J 4 (w.cells.map Cell.e),.J 1 (w.bK.map cv),.J 1 (w.bL.map c6),.J 1 (w.bA.map c6),.J 2 (w.cu.map dA.e)]:=by
   rw[s7 ba,aH,au];rfl
  dsimp only;rw[e];exact ah4 ⟨h2,k,rfl,kw,rfl,l2 au,l2 aH,qc ba,by decide,nV ba,qo ba,As av,Au av,dk (aA.flat r),qV,qW ba,qX,rN ba jz,rO ba jz,rP ba,aj⟩
end Go.Proofs.YtdchjefneblpgaaGreat
namespace Go.Proofs.YtdchjefneblpgaaGreat
open Go.Sx Go.RowKit Go.Proofs.Tryz
theorem UN(l:bC)(r:aA):(eI l r).1.cap=l.cap:=by unfold eI;split<;>rfl
theorem UO(l:bC):(dJ l).1.cap=l.cap:=by
 unfold dJ;split
 ·split<;>rfl
 rfl
theorem UP(l:bC):(gw l).1.cap=l.cap:=by unfold gw;split<;>rfl
structure iX (c:aU):Prop where
 tok:c.tokens.length=4
 Ak:1<=c.bQ.length
 cap:∀l∈c.bQ,1<=l.cap/\l.cap<=4
theorem iX.c0{c:aU}{i:Int}{l m:bC}(h:iX c)(af:ee c i=some l)(hm:m.cap=l.cap):iX (c0 c i m):=by
 refine⟨h.tok,by change 1<=(c.bQ.set i.toNat m).length;rw[eQ];exact h.Ak,fun x aa=>?_⟩;rcases hn aa with aa | rfl
 ·exact h.cap x aa
 rw[hm];exact h.cap l (c8 (iq af).2.2)
theorem iX.setW{c:aU}{i:Int}{x:aP}(h:iX c):iX (setW c i x):=⟨h.tok,h.Ak,h.cap⟩
variable{c:aU}
theorem iX.gd{n:List cA}(h:iX c):iX (gd c n):=⟨h.tok,h.Ak,h.cap⟩
theorem iX.cP{i:Int}{t:b'}(h:iX c):iX (cP c i t):=⟨by change (c.tokens.set i.toNat t).length=4;rw[eQ];exact h.tok,h.Ak,h.cap⟩
theorem Step.BN{d:aU}{p:cE}(st:Step c p d)(h:iX c):iX d:=by
 cases st with
 | work x r q hk aa ae av=>exact h.setW
 | input x r t hk aa ae av hi=>exact h.setW
 | ey x r t hk aa ae aN=>exact h.setW
 | send x r t l hk aa ae aN af hsend=>exact (h.c0 af (UN l r)).setW
 | take l x hk dW af aa bt=>exact (h.c0 af (UO l)).setW
 | o3 l hk dW af ad=>exact h.c0 af (UP l)
 | token t x cJ hk arM bm ax bt aa o5=>
  rcases oS c p.a t x with⟨_,k⟩ | ⟨_,_,⟨_,k⟩ | ⟨_,_,k⟩ | ⟨_,_,_,k⟩ | ⟨_,_,_,k⟩⟩<;>rw[k]
  ·exact h
  ·exact h.cP.setW
  ·exact h.cP.setW
  ·exact h.cP.setW.gd
  exact h.cP
 | o6 k n x hk aL ax aa=>exact h.setW.gd
theorem aiJ(h:iX c)(p:cE):iX (de c p).1:=by
 rcases wW c p with⟨_,k⟩ | ⟨_,_,st⟩
 ·rw[k];exact h
 exact st.BN h
theorem K3:∀(l:List cE) {c:aU},iX c->iX (cZ c l).1
 | [],_,h=>h
 | p::l,_,h=>K3 l (aiJ h p)
theorem UQ:∀(n:Nat) {c:aU} (k:Nat),iX c->iX (gK n c k).1
 | 0,_,_,h=>h
 | n+1,c,k,h=>by
  have h1:iX (iu c).1:=K3 (gb c) h;unfold gK;split
  ·exact h1
  exact UQ n (k+1) h1
theorem UR(n:Int):1<=hf n 1 4/\hf n 1 4<=4:=by
 unfold hf;split<;>(try split)<;>(try split)<;>omega
theorem aiK{g:bW}{xs:List aA}(h:lx g xs=true):iX (eO g xs):=by
 have aL:=jZ (yW.1 h).1;refine⟨by simp[eO],?_,fun l af=>?_⟩
 ·unfold eO;rw[List.length_replicate];exact Nat.mul_pos (by omega) (by omega)
 rw[List.eq_of_mem_replicate af];exact UR g.cap
structure Wd (x:aU):Prop where
 aF:ku x.aF
 BN:iX x
 dO:iV x
 sz:x.sz<=8000
 uW:x.ap.length=x.aF.ap.toNat
theorem aiL(b:List Int)(c:dz)(ad:c.ok b):∃(d:dz) (x:aU),d.ok b/\Wd x/\bU prog 166 [.cur (c.e b) (d.e b)] (.vals [.agg x.e]):=by
 obtain⟨d1,g,cd,ao,bB⟩:=SB b c ad;obtain⟨d2,xs,bY,kp,gM,bV⟩:=SA b d1 cd;obtain⟨d3,cw,cr,x1,_,cb⟩:=aaj b d2 40 (by omega) bY;obtain⟨d4,f,fl,et⟩:=AE b d3 4 cr (by omega);have aL:=LB ao (by omega) gM;have ae:=ao.size;have aR:=ae5 aL;have nw:=ae4 g xs (by omega);rw[SE aL]at nw;have dO:=ae6 g xs;have h8:=aic (eO g xs) cw (by omega) dO;have p':=D5 cw (eO g xs);have HK:=J1 cw (eO g xs);have U7:=K3 cw (aiK aL);have pa:(eO g xs).ap.length=g.ap.toNat:=yV g xs _;have Xz:(eO g xs).aF=g:=rfl;have cC:=HK.aF;have b6:=HK.dO dO;have eH:=HK.uW;rw[Xz]at cC;rw[pa]at eH;generalize cZ (eO g xs) cw=o at*;cases f with
 | false=>exact⟨d4,o.1,fl,⟨by rw[cC];exact ao,U7,b6,by omega,by rw[cC];exact eH⟩,ahi ⟨bB,bV,nw,Uq ⟨cb,h8,aj⟩,et,rfl,aj⟩⟩
 | true=>
  obtain⟨d5,n,sN,arT,j2⟩:=dQ b d4 12 fl (by omega);have cO:=T5 o.1 n (by omega) b6;have ah:(hf n 0 3000).toNat<=11:=by
   unfold hf;split<;>(try split)<;>(try split)<;>omega
  have YZ:=Ls (hf n 0 3000).toNat o.1 0;have HI:=T2 (hf n 0 3000).toNat o.1 0;have f1:(mW o.1 n).1.aF=g:=HI.aF.trans cC;have f2:iV (mW o.1 n).1:=HI.dO b6;have f3:(mW o.1 n).1.ap.length=g.ap.toNat:=HI.uW.trans eH;have f4:(mW o.1 n).1.sz<=8000:=by unfold mW;omega
  have f5:iX (mW o.1 n).1:=UQ _ 0 U7;exact⟨d5,(mW o.1 n).1,sN,⟨by rw[f1];exact ao,f5,f2,f4,by rw[f1];exact f3⟩,ahh ⟨bB,bV,nw,Uq ⟨cb,h8,aj⟩,et,rfl,ahg ⟨j2,cO,aj⟩,aj⟩⟩
structure Cp (n:Nat) (l:bC):Prop where
 sz:l.sz<=n
 cap:1<=l.cap/\l.cap<=4
 dO:l.dO<=9223372036854775807
theorem Fc(b:List Int):∀(n i:Nat) (l:bC) (c:dz),i+n=8->c.ok b->Cp i l->
  ∃(m:bC) (d:dz),d.ok b/\Cp 8 m/\dd prog (az f327 0) (s6 (b.map hq) i l.cap (l.queue.map aA.e) l.fh l.back l.eV l.dO 0 0 0 0 0 c.i c.h) (.exit 0) (LJ (b.map hq) m.cap (m.queue.map aA.e) m.fh m.back m.eV m.dO 0 0 0 0 0 d.i d.h)
 | n,i,l,c,ig,ad,af=>by
  obtain⟨d1,m,cd,ah,bB⟩:=dQ b c 9 ad (by omega);have aR:=af.sz;by_cases h:(i:Int)<m
  ·match n with
   | 0=>omega
   | n+1=>
    obtain⟨d2,k,bY,hk,bV⟩:=dQ b d1 4 cd (by omega);by_cases bE:k=0
    ·have z:=Ty l;obtain⟨js,d,o,e9,fb⟩:=Fc b n (i+1) (dJ l).1 d2 (by omega) bY ⟨by omega,by rw[UO];exact af.cap,TE l af.dO⟩;exact⟨js,d,o,e9,.more (afO ⟨bB,ji h,bV,by simp[bE],TR l (by omega),⟨by omega,by omega⟩,aj⟩) fb⟩
    by_cases e1:k=1
    ·have z:=Tz l;obtain⟨js,d,o,e9,fb⟩:=Fc b n (i+1) (gw l).1 d2 (by omega) bY ⟨by omega,by rw[UP];exact af.cap,TD l af.dO⟩;exact⟨js,d,o,e9,.more (afP ⟨bB,ji h,bV,by simp[bE],by simp[e1],TS l (by omega),⟨by omega,by omega⟩,aj⟩) fb⟩
    obtain⟨d3,r,cr,ar,cb⟩:=Fb b d2 bY;have z:=Tx l r;obtain⟨js,d,o,e9,fb⟩:=Fc b n (i+1) (eI l r).1 d3 (by omega) cr ⟨by omega,by rw[UN];exact af.cap,TC l r af.dO⟩;exact⟨js,d,o,e9,.more (afR ⟨bB,ji h,bV,by simp[bE],by simp[e1],afQ ⟨cb,TQ l r (by omega),aj⟩,⟨by omega,by omega⟩,aj⟩) fb⟩
  exact⟨l,d1,cd,⟨by omega,af.cap,af.dO⟩,.last (cL 0) (afS ⟨bB,mu h,aj⟩)⟩
theorem aiM(b:List Int)(c:dz)(ad:c.ok b):∃(d:dz) (l:bC),d.ok b/\Cp 8 l/\bU prog 327 [.cur (c.e b) (d.e b)] (.vals [.agg l.e]):=by
 obtain⟨d1,n,cd,aL,bB⟩:=dQ b c 4 ad (by omega);obtain⟨l,d,o,e9,fb⟩:=Fc b 8 0 (j1 (1+n)) d1 rfl cd ⟨by simp[j1,bC.sz],UR _,by simp[j1]⟩;exact⟨d,l,o,e9,afT ⟨bB,⟨by omega,by omega⟩,Td (1+n),fb,aj⟩⟩
theorem aiN(b:List Int)(c:dz)(ad:c.ok b):∃(d:dz) (l:bC),d.ok b/\Cp 9 l/\bU prog 278 [.cur (c.e b) (d.e b)] (.vals [.agg l.e]):=by
 obtain⟨d1,l,cd,⟨aR,eY,vA⟩,bB⟩:=aiM b c ad;obtain⟨d2,k,bY,hk,bV⟩:=dQ b d1 14 cd (by omega);have lX:l.queue.length<=8:=aR;by_cases bE:k=0
 ·obtain⟨d3,v,cr,bj,cb⟩:=dQ b d2 6 bY (by omega);exact⟨d3,⟨l.cap,l.queue,v-1,l.back,l.eV,l.dO⟩,cr,⟨Nat.le_succ_of_le aR,eY,vA⟩,afU ⟨bB,bV,by simp[bE],cb,⟨by omega,by omega⟩,aj⟩⟩
 by_cases e1:k=1
 ·obtain⟨d3,v,cr,bj,cb⟩:=dQ b d2 6 bY (by omega);exact⟨d3,⟨l.cap,l.queue,l.fh,v-1,l.eV,l.dO⟩,cr,⟨Nat.le_succ_of_le aR,eY,vA⟩,afV ⟨bB,bV,by simp[bE],by simp[e1],cb,⟨by omega,by omega⟩,aj⟩⟩
 by_cases e2:k=2
 ·obtain⟨d3,v,cr,bj,cb⟩:=l8 b d2 [-1,0,1000000000,1000000001] bY (by simp);exact⟨d3,⟨l.cap,l.queue,l.fh,l.back,v,l.dO⟩,cr,⟨Nat.le_succ_of_le aR,eY,vA⟩,afW ⟨bB,bV,by simp[bE],by simp[e1],by simp[e2],cb,aj⟩⟩
 by_cases b2:k=3
 ·obtain⟨d3,r,cr,ar,cb⟩:=UG b d2 bY;have:=afY ⟨bB,bV,by simp[bE],by simp[e1],by simp[e2],by simp[b2],afX ⟨cb,by simp;omega,by simp;omega,Gp r,aj⟩,aj⟩;refine⟨d3,⟨l.cap,l.queue++[r],l.fh,l.back,l.eV,l.dO⟩,cr,⟨by simp[bC.sz];omega,eY,vA⟩,?_⟩;unfold bC.e;dsimp only;rw[e3];exact this
 by_cases dB:k=4
 ·have xI:((l.queue.map aA.e).length:Int)=l.queue.length:=by simp
  have:=afZ ⟨bB,bV,by simp[bE],by simp[e1],by simp[e2],by simp[b2],by simp[dB],⟨by omega,by omega⟩,aj⟩;rw[xI]at this;exact⟨d2,⟨l.cap,l.queue,l.fh,l.back,1000000000,1000000000-(l.queue.length:Int)⟩,bY,⟨Nat.le_succ_of_le aR,eY,by dsimp only;omega⟩,this⟩
 exact⟨d2,l,bY,⟨by omega,eY,vA⟩,af0 ⟨bB,bV,by simp[bE],by simp[e1],by simp[e2],by simp[b2],by simp[dB],aj⟩⟩
end Go.Proofs.YtdchjefneblpgaaGreat
namespace Go.Proofs.YtdchjefneblpgaaGreat
open Go.Sx Go.RowKit Go.Proofs.Tryz
theorem aiO(b:List Int)(c:dz)(g:bW)(ad:c.ok b)(ao:g.nodes.length<=1000):∃(d:dz) (r:aA),d.ok b/\(0<=r.bc.a8/\r.bc.a8<=3)/\bU prog 350 [.cur (c.e b) (d.e b),.ro (.agg g.e)] (.vals [.agg r.e]):=by
 obtain⟨d1,r,cd,⟨_,U,_,_,_⟩,bB⟩:=Fb b c ad;have xI:((g.nodes.map Node.e).length:Int)=g.nodes.length:=by simp
 by_cases bm:0<g.nodes.length
 ·have ax:decide (((g.nodes.map Node.e).length:Int)>0)=true:=dU (by omega);obtain⟨d2,k,bY,hk,bV⟩:=dQ b d1 (g.nodes.length:Int) cd (by omega);rw[<-xI]at bV;obtain⟨d3,x,cr,cb⟩:=AE b d2 4 bY (by omega);cases x with
  | true=>
   obtain⟨d4,t,fl,bt,et⟩:=dQ b d3 2 cr (by omega);exact⟨d4,⟨k,⟨r.bc.a8,5+t⟩,r.key,r.val⟩,fl,by dsimp only;omega,af1 ⟨bB,ax,bV,cb,rfl,et,⟨by omega,by omega⟩,aj⟩⟩
  | false=>exact⟨d3,⟨k,r.bc,r.key,r.val⟩,cr,by dsimp only;omega,af2 ⟨bB,ax,bV,cb,rfl,aj⟩⟩
 have ax:decide (((g.nodes.map Node.e).length:Int)>0)=false:=eX (by omega);obtain⟨d3,x,cr,cb⟩:=AE b d1 4 cd (by omega);cases x with
 | true=>
  obtain⟨d4,t,fl,bt,et⟩:=dQ b d3 2 cr (by omega);exact⟨d4,⟨r.op,⟨r.bc.a8,5+t⟩,r.key,r.val⟩,fl,by dsimp only;omega,af3 ⟨bB,ax,cb,rfl,et,⟨by omega,by omega⟩,aj⟩⟩
 | false=>exact⟨d3,r,cr,by omega,af4 ⟨bB,ax,cb,rfl,aj⟩⟩
structure r6 (i:Nat) (w:aP):Prop where
 sz:w.sz<=40+2*i
 bK:w.bK.length=4
 bL:w.bL.length=4
 zt:∀k:Nat,-(i:Int)<=w.bK.getD k 0/\w.bK.getD k 0<=0
theorem r6.mono{i:Nat}{w v:aP}(h:r6 i w)(ae:v.sz<=w.sz+2)(h1:v.bK=w.bK)(U:v.bL=w.bL):r6 (i+1) v:=by
 refine⟨by have:=h.sz;omega,by rw[h1];exact h.bK,by rw[U];exact h.bL,fun k=>?_⟩;rw[h1];have:=h.zt k;omega
theorem r6.hV{i:Nat}{w:aP}{r:aA}(h:r6 i w)(he:0<=r.bc.a8/\r.bc.a8<=3):r6 (i+1) (hV w r):=by
 have aH:=h.bK;refine⟨?_,?_,?_,fun k=>?_⟩
 ·have:=Tv w r;have:=h.sz;omega
 ·unfold Go.Proofs.YtdchjefneblpgaaGreat.hV kX;dsimp only;rw[eQ];exact aH
 ·unfold Go.Proofs.YtdchjefneblpgaaGreat.hV;dsimp only;rw[eQ];exact h.bL
 unfold Go.Proofs.YtdchjefneblpgaaGreat.hV kX;dsimp only;by_cases hk:r.bc.a8.toNat=k
 ·subst hk;rw[Bm (by omega)];have:=h.zt r.bc.a8.toNat;omega
 rw[ug hk];have:=h.zt k;omega
theorem aiP(g:bW)(w:aP):(f' g w).1.bK=w.bK/\(f' g w).1.bL=w.bL:=by
 rcases SR g w with⟨_,k⟩ | ⟨_,r,q,_,_,k⟩<;>rw[k]<;>exact⟨rfl,rfl⟩
theorem aiQ(g:bW)(w:aP):(ga g w).1.bK=w.bK/\(ga g w).1.bL=w.bL:=by
 rcases SS g w with⟨_,k⟩ | ⟨_,r,q,_,_,_,k⟩<;>rw[k]<;>exact⟨rfl,rfl⟩
theorem y0(b:List Int)(g:bW)(ao:g.sz<=1000):∀(n i:Nat) (w:aP) (c:dz),i+n=7->c.ok b->r6 i w->
  ∃(v:aP) (d:dz),d.ok b/\r6 7 v/\dd prog (az f326 0) (qn (b.map hq) i (w.queue.map aA.e) (w.ck.map aA.e) (w.bT.map aA.e) (w.cells.map Cell.e) (w.bK.map cv) (w.bL.map c6) (w.bA.map c6) (w.cu.map dA.e) (g.nodes.map Node.e) g.ap g.cap c.i c.h) (.exit 0)
   (LO (b.map hq) (v.queue.map aA.e) (v.ck.map aA.e) (v.bT.map aA.e) (v.cells.map Cell.e) (v.bK.map cv) (v.bL.map c6) (v.bA.map c6) (v.cu.map dA.e) d.i d.h)
 | n,i,w,c,ig,ad,hw=>by
  obtain⟨d1,m,cd,ah,bB⟩:=dQ b c 8 ad (by omega);have aR:=hw.sz;have XD:g.nodes.length<=1000:=by have:=PZ (sz:=Node.sz) (xs:=g.nodes) (m:=1000) ao;exact this
  by_cases h:(i:Int)<m
  ·match n with
   | 0=>omega
   | n+1=>
    obtain⟨d2,k,bY,hk,bV⟩:=dQ b d1 5 cd (by omega);by_cases bE:k=0
    ·have z:=Tt g w;obtain⟨q1,k1⟩:=aiQ g w;obtain⟨js,d,o,e9,fb⟩:=y0 b g ao n (i+1) (ga g w).1 d2 (by omega) bY (hw.mono (by omega) q1 k1);exact⟨js,d,o,e9,.more (af5 ⟨bB,ji h,bV,by simp[bE],aiI g w (by omega) (by omega),⟨by omega,by omega⟩,aj⟩) fb⟩
    by_cases e1:k=1
    ·obtain⟨d3,r,cr,he,cb⟩:=aiO b d2 g bY XD;obtain⟨js,d,o,e9,fb⟩:=y0 b g ao n (i+1) (hV w r) d3 (by omega) cr (hw.hV he);have arE:=hw.zt r.bc.a8.toNat;have aqk:=aju w r (by omega) hw.bK hw.bL he ⟨by omega,by omega⟩;exact⟨js,d,o,e9,.more (af7 ⟨bB,ji h,bV,by simp[bE],by simp[e1],af6 ⟨cb,aqk,aj⟩,⟨by omega,by omega⟩,aj⟩) fb⟩
    by_cases e2:k=2
    ·have mC:w.ck=[]\/∃r t,w.ck=r::t:=by
      cases w.ck with
      | nil=>exact .inl rfl
      | cons r t=>exact .inr ⟨r,t,rfl⟩
     rcases mC with ew | ⟨r,t0,ew⟩
     ·obtain⟨js,d,o,e9,fb⟩:=y0 b g ao n (i+1) w d2 (by omega) bY (hw.mono (by omega) rfl rfl);have us:=aiG w (by omega) ew;exact⟨js,d,o,e9,.more (Uo ⟨bB,ji h,bV,by simp[bE],by simp[e1],by simp[e2],us,⟨by omega,by omega⟩,aj⟩) fb⟩
     have z:=Tu ew;obtain⟨js,d,o,e9,fb⟩:=y0 b g ao n (i+1) (iP w t0) d2 (by omega) bY (hw.mono (by omega) rfl rfl);have us:=aiF w r t0 (by omega) ew;exact⟨js,d,o,e9,.more (Uo ⟨bB,ji h,bV,by simp[bE],by simp[e1],by simp[e2],us,⟨by omega,by omega⟩,aj⟩) fb⟩
    have z:=Ts g w;obtain⟨q1,k1⟩:=aiP g w;obtain⟨js,d,o,e9,fb⟩:=y0 b g ao n (i+1) (f' g w).1 d2 (by omega) bY (hw.mono (by omega) q1 k1);exact⟨js,d,o,e9,.more (af8 ⟨bB,ji h,bV,by simp[bE],by simp[e1],by simp[e2],aiH g w (by omega) (by omega),⟨by omega,by omega⟩,aj⟩) fb⟩
  refine⟨w,d1,cd,⟨by omega,hw.bK,hw.bL,fun k=>?_⟩,.last (cL 0) (af9 ⟨bB,mu h,aj⟩)⟩;have:=hw.zt k;omega
theorem aiR(b:List Int)(c:dz)(g:bW)(ao:g.sz<=1000)(ad:c.ok b):∃(d:dz) (w:aP),d.ok b/\r6 7 w/\bU prog 326 [.cur (c.e b) (d.e b),.ro (.agg g.e)] (.vals [.agg w.e]):=by
 obtain⟨d1,xs,cd,kp,gM,bB⟩:=SA b c ad;obtain⟨w,d,o,e9,fb⟩:=y0 b g ao 7 0 (kn xs) d1 rfl cd (by
  refine⟨by simp[kn,aP.sz];omega,by simp[kn],by simp[kn],fun k=>?_⟩;have:(kn xs).bK.getD k 0=0:=by
   change ([0,0,0,0]:List Int).getD k 0=0;rcases k with _ | _ | _ | _ | k<;>simp
  omega)
 exact⟨d,w,o,e9,aga ⟨bB,Te xs (by omega),fb,aj⟩⟩
theorem aiS(v:Bool):Flat [[B v]]:=dk (by intro d ax;simp only[dG,mr,or_false]at ax;subst ax;exact⟨_,rfl⟩)
theorem aiT(b:List Int)(c:dz)(g:bW)(ao:g.sz<=1000)(ad:c.ok b):∃(d:dz) (w:aP),d.ok b/\w.sz<=100/\bU prog 277 [.cur (c.e b) (d.e b),.ro (.agg g.e)] (.vals [.agg w.e]):=by
 obtain⟨d1,w,cd,hw,bB⟩:=aiR b c g ao ad;obtain⟨d2,k,bY,hk,bV⟩:=dQ b d1 16 cd (by omega);have aR:=hw.sz;have aH:=hw.bK;have HC:=aR;simp only[aP.sz]at HC;have asa:w.queue.length<=1000:=by omega
 by_cases bE:k=0
 ·obtain⟨d3,r,cr,ar,cb⟩:=UG b d2 bY;have:=afC ⟨bB,bV,by simp[bE],agb ⟨cb,by simp;omega,by simp;omega,Gp r,aj⟩,aj⟩;refine⟨d3,⟨w.queue++[r],w.ck,w.bT,w.cells,w.bK,w.bL,w.bA,w.cu⟩,cr,by simp[aP.sz];omega,?_⟩;unfold aP.e;dsimp only;rw[e3];exact this
 by_cases e1:k=1
 ·obtain⟨d3,r,cr,ar,cb⟩:=Fb b d2 bY;have:=afE ⟨bB,bV,by simp[bE],by simp[e1],afD ⟨cb,by simp;omega,by simp;omega,Gp r,aj⟩,aj⟩;refine⟨d3,⟨w.queue,w.ck,w.bT++[r],w.cells,w.bK,w.bL,w.bA,w.cu⟩,cr,by simp[aP.sz];omega,?_⟩;unfold aP.e;dsimp only;rw[e3];exact this
 by_cases e2:k=2
 ·obtain⟨d3,v,cr,bj,cb⟩:=dQ b d2 4 bY (by omega);have xI:((w.bK.map cv).length:Int)=4:=by simp[aH]
  have:=afG ⟨bB,bV,by simp[bE],by simp[e1],by simp[e2],afF ⟨cb,by decide,bj.1,by change v<=_;omega,aj⟩,aj⟩;refine⟨d3,⟨w.queue,w.ck,w.bT,w.cells,w.bK.take v.toNat,w.bL,w.bA,w.cu⟩,cr,by simp[aP.sz];omega,?_⟩;unfold aP.e;dsimp only;rw[lO];exact this
 by_cases b2:k=3
 ·obtain⟨d3,v,cr,bj,cb⟩:=l8 b d2 [1000000,1000001,-1000001] bY (by simp);obtain⟨y,a1⟩:=dv (xs:=w.bK) (i:=0) (by omega);have nE:(w.bK.map cv)[0]?=some [I y]:=by rw[c9,a1];rfl
  have:=afI ⟨bB,bV,by simp[bE],by simp[e1],by simp[e2],by simp[b2],afH ⟨cb,by decide,by simp[aH],nE,aj⟩,aj⟩;refine⟨d3,⟨w.queue,w.ck,w.bT,w.cells,w.bK.set 0 v,w.bL,w.bA,w.cu⟩,cr,by simp[aP.sz];omega,?_⟩;unfold aP.e;dsimp only;rw[jj];exact this
 by_cases dB:k=4
 ·obtain⟨d3,v,cr,bj,cb⟩:=dQ b d2 6 bY (by omega);have:=afK ⟨bB,bV,by simp[bE],by simp[e1],by simp[e2],by simp[b2],by simp[dB],afJ ⟨cb,⟨by omega,by omega⟩,by simp;omega,by simp;omega,dk (dA.flat ⟨v-1,false⟩),aj⟩,aj⟩;refine⟨d3,⟨w.queue,w.ck,w.bT,w.cells,w.bK,w.bL,w.bA,w.cu++[⟨v-1,false⟩]⟩,cr,by simp[aP.sz];omega,?_⟩;unfold aP.e;dsimp only;rw[e3];exact this
 by_cases gD:k=5
 ·obtain⟨d3,v,cr,bj,cb⟩:=dQ b d2 2 bY (by omega);have:=afL ⟨bB,bV,by simp[bE],by simp[e1],by simp[e2],by simp[b2],by simp[dB],by simp[gD],cb,aj⟩;exact⟨d3,⟨w.queue,w.ck,w.bT,w.cells,w.bK,w.bL,w.bA,[⟨1,false⟩,⟨v,true⟩]⟩,cr,by simp[aP.sz];omega,this⟩
 by_cases j9:k=6
 ·have:=ahd ⟨bB,bV,by simp[bE],by simp[e1],by simp[e2],by simp[b2],by simp[dB],by simp[gD],by simp[j9],by simp;omega,by simp;omega,aiS true,aj⟩;refine⟨d2,⟨w.queue,w.ck,w.bT,w.cells,w.bK,w.bL++[true],w.bA,w.cu⟩,bY,by simp[aP.sz];omega,?_⟩;unfold aP.e;dsimp only;rw[e3];exact this
 by_cases nr:k=7
 ·have:=ahe ⟨bB,bV,by simp[bE],by simp[e1],by simp[e2],by simp[b2],by simp[dB],by simp[gD],by simp[j9],by simp[nr],by simp;omega,by simp;omega,dk (Cell.flat ⟨0,0,0,0⟩),aj⟩;refine⟨d2,⟨w.queue,w.ck,w.bT,w.cells++[⟨0,0,0,0⟩],w.bK,w.bL,w.bA,w.cu⟩,bY,by simp[aP.sz];omega,?_⟩;unfold aP.e;dsimp only;rw[e3];exact this
 exact⟨d2,w,bY,by omega,ahf ⟨bB,bV,by simp[bE],by simp[e1],by simp[e2],by simp[b2],by simp[dB],by simp[gD],by simp[j9],by simp[nr],aj⟩⟩
