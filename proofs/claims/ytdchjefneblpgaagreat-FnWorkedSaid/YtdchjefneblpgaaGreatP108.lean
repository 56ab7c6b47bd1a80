import Derived.Test.YtdchjefneblpgaaGreatP61
import Derived.Test.YtdchjefneblpgaaGreatG3
set_option linter.unusedVariables false
set_option linter.unusedSimpArgs false
namespace Go.Proofs.YtdchjefneblpgaaGreat
open Go.Sx Go.RowKit Go.Proofs.Tryz
theorem K0{v:Int}:Flat [[I v]]:=xT [v]
theorem zr(b:List Int)(k a e:Int):∀(n i:Nat) (xs:List Int) (c:dC),i+n=2->c.ok b->xs.length<=i->
  ∃(ys:List Int) (d:dC),d.ok b/\ys.length<=2/\cV prog (ao f319 0) (tp (b.map hh) i k a e (xs.map a6) 0 0 0 c.i c.h) (.exit 1) (wM (b.map hh) k a e (ys.map a6) 0 0 0 d.i d.h)
 | n,i,xs,c,mM,al,ap=>by
  obtain⟨d1,m,cy,aw,bK⟩:=dO b c 3 al (by omega);by_cases h:(i:Int)<m
  ·match n with
   | 0=>omega
   | n+1=>
    obtain⟨d2,v,ca,bz,b2⟩:=dO b d1 2 cy (by omega);obtain⟨ys,d,o,fa,l⟩:=zr b k a e n (i+1) (xs++[1+(i:Int)*2+v]) d2 (by omega) ca (by simp;omega);refine⟨ys,d,o,fa,.more (afk ⟨bK,kh h,afj ⟨⟨by omega,by omega⟩,⟨by omega,by omega⟩,b2,⟨by omega,by omega⟩,by simp;omega,by simp;omega,K0,aa⟩,⟨by omega,by omega⟩,aa⟩) ?_⟩;rw[hy]at l;exact l
  exact⟨xs,d1,cy,by omega,.last (cH 1) (aev ⟨bK,mu h,aa⟩)⟩
theorem afA(b:List Int)(c:dC)(al:c.ok b):∃(d:dC) (x:Node),d.ok b/\x.outs.length<=2/\bT prog 319 [.cur (c.e b) (d.e b)] (.vals [.agg x.e]):=by
 obtain⟨d1,n,cy,a8,bK⟩:=dO b c 8 al (by omega);have i1:aI .i64 (1+n):=⟨by omega,by omega⟩
 by_cases e1:n=1
 ·obtain⟨d2,v,ca,bz,b2⟩:=kx b d1 [0,1,3,10,999] cy (by simp);obtain⟨ys,d,o,fa,l⟩:=zr b (1+n) v 0 2 0 [] d2 rfl ca (by simp);exact⟨d,⟨1+n,v,0,ys⟩,o,fa,aew ⟨bK,i1,by simp[e1],b2,by simp[e1],l,aa⟩⟩
 by_cases e2:n=2
 ·obtain⟨d2,v,ca,bz,b2⟩:=dO b d1 4 cy (by omega);obtain⟨d3,u,cC,hu,cf⟩:=dO b d2 (1+v) ca (by omega);obtain⟨ys,d,o,fa,l⟩:=zr b (1+n) (1+v) u 2 0 [] d3 rfl cC (by simp);exact⟨d,⟨1+n,1+v,u,ys⟩,o,fa,aex ⟨bK,i1,by simp[e2],by simp[e2],b2,⟨by omega,by omega⟩,cf,by simp[e2],l,aa⟩⟩
 by_cases cb:n=3
 ·obtain⟨d2,v,ca,bz,b2⟩:=kx b d1 [0,1,2,3,50,99] cy (by simp);obtain⟨ys,d,o,fa,l⟩:=zr b (1+n) v 0 2 0 [] d2 rfl ca (by simp);exact⟨d,⟨1+n,v,0,ys⟩,o,fa,aey ⟨bK,i1,by simp[cb],by simp[cb],by simp[cb],b2,by simp[cb],l,aa⟩⟩
 have f1:(1+n==2)=false:=by simp;omega
 have f2:(1+n==3)=false:=by simp;omega
 have f3:(1+n==4)=false:=by simp;omega
 by_cases nK:n=7
 ·exact⟨d1,⟨1+n,0,0,[]⟩,cy,by simp,aeA ⟨bK,i1,f1,f2,f3,by simp[nK],aa⟩⟩
 obtain⟨ys,d,o,fa,l⟩:=zr b (1+n) 0 0 2 0 [] d1 rfl cy (by simp);exact⟨d,⟨1+n,0,0,ys⟩,o,fa,aez ⟨bK,i1,f1,f2,f3,by simp;omega,l,aa⟩⟩
theorem afB(b:List Int)(c:dC)(al:c.ok b):∃(d:dC) (x:Node),d.ok b/\x.outs.length<=3/\bT prog 252 [.cur (c.e b) (d.e b)] (.vals [.agg x.e]):=by
 obtain⟨d1,x,cy,ak,bK⟩:=afA b c al;obtain⟨d2,k,ca,hk,b2⟩:=dO b d1 12 cy (by omega);by_cases bB:k=0
 ·obtain⟨d3,v,cC,bz,cf⟩:=dO b d2 11 ca (by omega);exact⟨d3,⟨v-1,x.a,x.b,x.outs⟩,cC,by dsimp only;omega,aeB ⟨bK,b2,by simp[bB],cf,⟨by omega,by omega⟩,aa⟩⟩
 by_cases e1:k=1
 ·obtain⟨d3,v,cC,bz,cf⟩:=kx b d2 [-1,0,1000,100,11] ca (by simp);exact⟨d3,⟨x.kind,v,x.b,x.outs⟩,cC,by dsimp only;omega,aeC ⟨bK,b2,by simp[bB],by simp[e1],cf,aa⟩⟩
 by_cases e2:k=2
 ·obtain⟨d3,v,cC,bz,cf⟩:=kx b d2 [-1,1,3] ca (by simp);exact⟨d3,⟨x.kind,x.a,v,x.outs⟩,cC,by dsimp only;omega,aeD ⟨bK,b2,by simp[bB],by simp[e1],by simp[e2],cf,aa⟩⟩
 by_cases cb:k=3
 ·obtain⟨d3,v,cC,bz,cf⟩:=kx b d2 [1,7,8,-1] ca (by simp);have:=aeF ⟨bK,b2,by simp[bB],by simp[e1],by simp[e2],by simp[cb],aeE ⟨cf,by simp;omega,by simp;omega,K0,aa⟩,aa⟩;refine⟨d3,⟨x.kind,x.a,x.b,x.outs++[v]⟩,cC,by simp;omega,?_⟩;unfold Node.e;dsimp only;rw[hy];exact this
 exact⟨d2,x,ca,by omega,aeG ⟨bK,b2,by simp[bB],by simp[e1],by simp[e2],by simp[cb],aa⟩⟩
theorem afC{α:Type}{sz:α->Nat}(xs ys:List α):eZ sz (xs++ys)=eZ sz xs+eZ sz ys:=by
 unfold eZ;simp;omega
theorem SY{α:Type}{sz:α->Nat}:∀(xs:List α) (n:Nat),eZ sz (xs.take n)<=eZ sz xs
 | [],n=>by simp
 | x::xs,0=>by simp[eZ]
 | x::xs,n+1=>by
  have:=SY (sz:=sz) xs n;unfold eZ at*;simp only[List.take_succ_cons,hz,mn,EQ];omega
def SZ:List D:=[I 8,I 0,I 0,.v (.slice none 0 0)]
def zt:Node:=⟨8,0,0,[]⟩
theorem afD:jt SZ zt.e:=.cons (.refl _) (.cons (.refl _) (.cons (.refl _) (.cons (.nil 1) .nil)))
theorem S0:∀(xs:List Node),lc (xs.map Node.e) (xs.map Node.e)
 | []=>.nil
 | x::xs=>.cons (jt.refl _) (S0 xs)
theorem S1:∀{es ck:List (List D)} {e e':List D},lc es ck->jt e e'->lc (es++[e]) (ck++[e'])
 | _,_,_,_,.nil,h=>.cons h .nil
 | _,_,_,_,.cons k t,h=>.cons k (S1 t h)
theorem S2:∀{es ck:List (List D)},lc es ck->es.length=ck.length
 | _,_,.nil=>rfl
 | _,_,.cons _ t=>by simp[S2 t]
theorem S3(b:List Int)(w p:Int):∀(n:Nat) (xs:List Node) (es:List (List D)) (c:dC),lc es (xs.map Node.e)->xs.length+n=9->eZ Node.sz xs<=120-n->n<=9->c.ok b->
  ∃(ys:List Node) (ew:List (List D)) (d:dC),lc ew (ys.map Node.e)/\eZ Node.sz ys<=120/\d.ok b/\cV prog (ao f137 0) (yY (b.map hh) es w p 0 0 c.i c.h) (.exit 1) (IM (b.map hh) ew w p 0 0 d.i d.h)
 | n,xs,es,c,b0,a8,ai,dQ,al=>by
  obtain⟨d1,m,cy,aw,bK⟩:=dO b c 2 al (by omega);have ap:=S2 b0;rw[cm]at ap;by_cases h:(es.length:Int)<8+m
  ·match n with
   | 0=>omega
   | n+1=>
    obtain⟨ys,ew,d,fa,e0,o,l⟩:=S3 b w p n (xs++[zt]) (es++[SZ]) d1 (by
     rw[hy];exact S1 b0 afD) (by simp;omega) (by
     rw[afC];have:eZ Node.sz [zt]=1:=rfl;omega) (by omega) cy
    exact⟨ys,ew,d,fa,e0,o,.more (alP ⟨PJ ⟨bK,⟨by omega,by omega⟩,aa⟩,kh h,by simp;omega,by simp;omega,aa⟩) l⟩
  exact⟨xs,es,d1,b0,by omega,cy,.last (cH 1) (alQ ⟨PJ ⟨bK,⟨by omega,by omega⟩,aa⟩,mu h,aa⟩)⟩
theorem lb.len{g:bR}(h:lb g):1<=g.nodes.length/\g.nodes.length<=8:=by
 have:=h.ok;simp only[dY,aq,cF,cW]at this;omega
theorem afE(b:List Int)(c:dC)(al:c.ok b):∃(d:dC) (g:bR),d.ok b/\(g.sz<=120/\-1<=g.ay/\g.ay<=5)/\bT prog 137 [.cur (c.e b) (d.e b)] (.vals [.agg g.e]):=by
 obtain⟨d1,g,cy,av,bK⟩:=Pk b c al;have ai:=av.size;have ap:=av.len;have WK:=av.ay;have v7:((g.nodes.map Node.e).length:Int)=g.nodes.length:=by simp
 obtain⟨d2,k,ca,hk,b2⟩:=dO b d1 (g.nodes.length:Int) cy (by omega);rw[<-v7]at b2;obtain⟨d3,m,cC,hm,cf⟩:=dO b d2 12 ca (by omega);obtain⟨y,bD⟩:=cS (xs:=g.nodes) (i:=k.toNat) (by omega);have kV:(g.nodes.map Node.e)[k.toNat]?=some y.e:=by rw[dr,bD];rfl
 have yk:k<((g.nodes.map Node.e).length:Int):=by omega
 have jq:∀x:Node,x.sz<=y.sz+3->(⟨g.nodes.set k.toNat x,g.ay,g.cap⟩:bR).sz<=120:=fun x ak=>by
  have:=uX (sz:=Node.sz) x bD;unfold bR.sz at ai ⊢;dsimp only;omega
 by_cases bB:m=0
 ·obtain⟨d4,x,ff,ak,ed⟩:=afB b d3 cC;have:=alK ⟨bK,b2,cf,by simp[bB],alJ ⟨ed,hk.1,yk,kV,aa⟩,aa⟩;refine⟨d4,⟨g.nodes.set k.toNat x,g.ay,g.cap⟩,ff,⟨jq x (by unfold Node.sz;omega),by dsimp only;omega,by dsimp only;omega⟩,?_⟩;unfold bR.e;dsimp only;rw[js];exact this
 by_cases e1:m=1
 ·obtain⟨d4,v,ff,bz,ed⟩:=kx b d3 [0,4,5,-1] cC (by simp);simp only[ep,nG,or_false]at bz;exact⟨d4,⟨g.nodes,v,g.cap⟩,ff,⟨by unfold bR.sz at ai ⊢;dsimp only;omega,by dsimp only;omega,by dsimp only;omega⟩,alL ⟨bK,b2,cf,by simp[bB],by simp[e1],ed,aa⟩⟩
 by_cases e2:m=2
 ·obtain⟨d4,v,ff,bz,ed⟩:=kx b d3 [0,4,5,-1] cC (by simp);exact⟨d4,⟨g.nodes,g.ay,v⟩,ff,⟨by unfold bR.sz at ai ⊢;dsimp only;omega,by dsimp only;omega,by dsimp only;omega⟩,alM ⟨bK,b2,cf,by simp[bB],by simp[e1],by simp[e2],ed,aa⟩⟩
 by_cases cb:m=3
 ·obtain⟨d4,v,ff,bz,ed⟩:=dO b d3 9 cC (by omega);have NA:y.outs.length<=100:=by
   have:=uX (sz:=Node.sz) zt bD;have bl:Node.sz zt=0:=rfl;have:y.sz<=100:=by unfold bR.sz at ai;omega
   exact this
  have:=alO ⟨bK,b2,cf,by simp[bB],by simp[e1],by simp[e2],by simp[cb],alN ⟨hk.1,yk,kV,ed,⟨by omega,by omega⟩,by simp;omega,by simp;omega,kV,rfl,rfl,K0,hk.1,yk,kV,rfl,aa⟩,aa⟩;refine⟨d4,⟨g.nodes.set k.toNat ⟨y.kind,y.a,y.b,y.outs++[v-1]⟩,g.ay,g.cap⟩,ff,⟨jq _ (by unfold Node.sz;simp),by dsimp only;omega,by dsimp only;omega⟩,?_⟩;unfold bR.e;dsimp only;rw[js];unfold Node.e;dsimp only;rw[hy];exact this
 by_cases d':m=4
 ·obtain⟨ys,ew,d,fa,e0,o,l⟩:=S3 b g.ay g.cap (9-g.nodes.length) g.nodes (g.nodes.map Node.e) d3 (S0 _) (by omega) (by unfold bR.sz at ai;omega) (by omega) cC;have:=alR ⟨bK,b2,cf,by simp[bB],by simp[e1],by simp[e2],by simp[cb],by simp[d'],l,aa⟩;exact⟨d,⟨ys,g.ay,g.cap⟩,o,⟨e0,by dsimp only;omega,by dsimp only;omega⟩,this.fit (.cons (.agg (.cons (.J 4 fa) (jt.refl _))) .nil)⟩
 by_cases gY:m=5
 ·have:=alS ⟨bK,b2,cf,by simp[bB],by simp[e1],by simp[e2],by simp[cb],by simp[d'],by simp[gY],by decide,hk.1,by change k<=_;omega,aa⟩;refine⟨d3,⟨g.nodes.take k.toNat,g.ay,g.cap⟩,cC,⟨?_,by dsimp only;omega,by dsimp only;omega⟩,?_⟩
  ·have:=SY (sz:=Node.sz) g.nodes k.toNat;unfold bR.sz at ai ⊢;dsimp only;omega
  unfold bR.e;dsimp only;rw[qQ];exact this
 exact⟨d3,g,cC,⟨by omega,by omega,by omega⟩,alT ⟨bK,b2,cf,by simp[bB],by simp[e1],by simp[e2],by simp[cb],by simp[d'],by simp[gY],aa⟩⟩
