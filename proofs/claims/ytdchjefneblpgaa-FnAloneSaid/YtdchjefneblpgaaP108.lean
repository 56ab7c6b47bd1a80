import Derived.Test.YtdchjefneblpgaaP61
import Derived.Test.YtdchjefneblpgaaG3
set_option linter.unusedVariables false
set_option linter.unusedSimpArgs false
namespace Go.Proofs.Ytdchjefneblpgaa
open Go.Sx Go.RowKit Go.Proofs.Try
theorem Fe{v:Int}:Flat [[I v]]:=O7 [v]
theorem wi(b:List Int)(k a e:Int):∀(n i:Nat) (xs:List Int) (c:dV),i+n=2->c.ok b->xs.length<=i->
  ∃(ys:List Int) (d:dV),d.ok b/\ys.length<=2/\dk prog (aF f78 0) (q9 (b.map hg) i k a e (xs.map aY) 0 0 0 c.i c.h) (.exit 1) (uy (b.map hg) k a e (ys.map aY) 0 0 0 d.i d.h)
 | n,i,xs,c,l3,ai,ak=>by
  obtain⟨d1,m,cu,ah,bO⟩:=eu b c 3 ai (by omega);by_cases h:(i:Int)<m
  ·match n with
   | 0=>omega
   | n+1=>
    obtain⟨d2,v,cc,a8,b6⟩:=eu b d1 2 cu (by omega);obtain⟨ys,d,o,jx,l⟩:=wi b k a e n (i+1) (xs++[1+(i:Int)*2+v]) d2 (by omega) cc (by simp;omega);refine⟨ys,d,o,jx,.more (acy ⟨bO,p9 h,acx ⟨⟨by omega,by omega⟩,⟨by omega,by omega⟩,b6,⟨by omega,by omega⟩,by simp;omega,by simp;omega,Fe,aj⟩,⟨by omega,by omega⟩,aj⟩) ?_⟩;rw[kg]at l;exact l
  exact⟨xs,d1,cu,by omega,.last (di 1) (acz ⟨bO,oZ h,aj⟩)⟩
theorem ab8(b:List Int)(c:dV)(ai:c.ok b):∃(d:dV) (x:Node),d.ok b/\x.outs.length<=2/\cv prog 78 [.cur (c.e b) (d.e b)] (.vals [.agg x.e]):=by
 obtain⟨d1,n,cu,aR,bO⟩:=eu b c 8 ai (by omega);have i1:ap .i64 (1+n):=⟨by omega,by omega⟩
 by_cases aK:n=1
 ·obtain⟨d2,v,cc,a8,b6⟩:=mo b d1 [0,1,3,10,999] cu (by simp);obtain⟨ys,d,o,jx,l⟩:=wi b (1+n) v 0 2 0 [] d2 rfl cc (by simp);exact⟨d,⟨1+n,v,0,ys⟩,o,jx,acA ⟨bO,i1,by simp[aK],b6,by simp[aK],l,aj⟩⟩
 by_cases aO:n=2
 ·obtain⟨d2,v,cc,a8,b6⟩:=eu b d1 4 cu (by omega);obtain⟨d3,u,c7,hu,cC⟩:=eu b d2 (1+v) cc (by omega);obtain⟨ys,d,o,jx,l⟩:=wi b (1+n) (1+v) u 2 0 [] d3 rfl c7 (by simp);exact⟨d,⟨1+n,1+v,u,ys⟩,o,jx,acB ⟨bO,i1,by simp[aO],by simp[aO],b6,⟨by omega,by omega⟩,cC,by simp[aO],l,aj⟩⟩
 by_cases b2:n=3
 ·obtain⟨d2,v,cc,a8,b6⟩:=mo b d1 [0,1,2,3,50,99] cu (by simp);obtain⟨ys,d,o,jx,l⟩:=wi b (1+n) v 0 2 0 [] d2 rfl cc (by simp);exact⟨d,⟨1+n,v,0,ys⟩,o,jx,acC ⟨bO,i1,by simp[b2],by simp[b2],by simp[b2],b6,by simp[b2],l,aj⟩⟩
 have f1:(1+n==2)=false:=by simp;omega
 have f2:(1+n==3)=false:=by simp;omega
 have f3:(1+n==4)=false:=by simp;omega
 by_cases pc:n=7
 ·exact⟨d1,⟨1+n,0,0,[]⟩,cu,by simp,acE ⟨bO,i1,f1,f2,f3,by simp[pc],aj⟩⟩
 obtain⟨ys,d,o,jx,l⟩:=wi b (1+n) 0 0 2 0 [] d1 rfl cu (by simp);exact⟨d,⟨1+n,0,0,ys⟩,o,jx,acD ⟨bO,i1,f1,f2,f3,by simp;omega,l,aj⟩⟩
theorem ab9(b:List Int)(c:dV)(ai:c.ok b):∃(d:dV) (x:Node),d.ok b/\x.outs.length<=3/\cv prog 65 [.cur (c.e b) (d.e b)] (.vals [.agg x.e]):=by
 obtain⟨d1,x,cu,ae,bO⟩:=ab8 b c ai;obtain⟨d2,k,cc,aT,b6⟩:=eu b d1 12 cu (by omega);by_cases b8:k=0
 ·obtain⟨d3,v,c7,a8,cC⟩:=eu b d2 11 cc (by omega);exact⟨d3,⟨v-1,x.a,x.b,x.outs⟩,c7,by dsimp only;omega,acF ⟨bO,b6,by simp[b8],cC,⟨by omega,by omega⟩,aj⟩⟩
 by_cases aK:k=1
 ·obtain⟨d3,v,c7,a8,cC⟩:=mo b d2 [-1,0,1000,100,11] cc (by simp);exact⟨d3,⟨x.kind,v,x.b,x.outs⟩,c7,by dsimp only;omega,acG ⟨bO,b6,by simp[b8],by simp[aK],cC,aj⟩⟩
 by_cases aO:k=2
 ·obtain⟨d3,v,c7,a8,cC⟩:=mo b d2 [-1,1,3] cc (by simp);exact⟨d3,⟨x.kind,x.a,v,x.outs⟩,c7,by dsimp only;omega,acH ⟨bO,b6,by simp[b8],by simp[aK],by simp[aO],cC,aj⟩⟩
 by_cases b2:k=3
 ·obtain⟨d3,v,c7,a8,cC⟩:=mo b d2 [1,7,8,-1] cc (by simp);have:=acJ ⟨bO,b6,by simp[b8],by simp[aK],by simp[aO],by simp[b2],acI ⟨cC,by simp;omega,by simp;omega,Fe,aj⟩,aj⟩;refine⟨d3,⟨x.kind,x.a,x.b,x.outs++[v]⟩,c7,by simp;omega,?_⟩;unfold Node.e;dsimp only;rw[kg];exact this
 exact⟨d2,x,cc,by omega,ab7 ⟨bO,b6,by simp[b8],by simp[aK],by simp[aO],by simp[b2],aj⟩⟩
theorem aca{α:Type}{sz:α->Nat}(xs ys:List α):hx sz (xs++ys)=hx sz xs+hx sz ys:=by
 unfold hx;simp;omega
theorem MZ{α:Type}{sz:α->Nat}:∀(xs:List α) (n:Nat),hx sz (xs.take n)<=hx sz xs
 | [],n=>by simp
 | x::xs,0=>by simp[hx]
 | x::xs,n+1=>by
  have:=MZ (sz:=sz) xs n;unfold hx at*;simp only[List.take_succ_cons,du,gE,qa];omega
def M0:List D:=[I 8,I 0,I 0,.v (.slice none 0 0)]
def wj:Node:=⟨8,0,0,[]⟩
theorem acb:hQ M0 wj.e:=.cons (.refl _) (.cons (.refl _) (.cons (.refl _) (.cons (.nil 1) .nil)))
theorem M1:∀(xs:List Node),jV (xs.map Node.e) (xs.map Node.e)
 | []=>.nil
 | x::xs=>.cons (hQ.refl _) (M1 xs)
theorem M3:∀{es bV:List (List D)} {e e':List D},jV es bV->hQ e e'->jV (es++[e]) (bV++[e'])
 | _,_,_,_,.nil,h=>.cons h .nil
 | _,_,_,_,.cons k t,h=>.cons k (M3 t h)
theorem M4:∀{es bV:List (List D)},jV es bV->es.length=bV.length
 | _,_,.nil=>rfl
 | _,_,.cons _ t=>by simp[M4 t]
theorem M5(b:List Int)(w p:Int):∀(n:Nat) (xs:List Node) (es:List (List D)) (c:dV),jV es (xs.map Node.e)->xs.length+n=9->hx Node.sz xs<=120-n->n<=9->c.ok b->
  ∃(ys:List Node) (ec:List (List D)) (d:dV),jV ec (ys.map Node.e)/\hx Node.sz ys<=120/\d.ok b/\dk prog (aF f45 0) (wO (b.map hg) es w p 0 0 c.i c.h) (.exit 1) (E8 (b.map hg) ec w p 0 0 d.i d.h)
 | n,xs,es,c,bn,aR,ad,dQ,ai=>by
  obtain⟨d1,m,cu,ah,bO⟩:=eu b c 2 ai (by omega);have ak:=M4 bn;rw[br]at ak;by_cases h:(es.length:Int)<8+m
  ·match n with
   | 0=>omega
   | n+1=>
    obtain⟨ys,ec,d,jx,iZ,o,l⟩:=M5 b w p n (xs++[wj]) (es++[M0]) d1 (by
     rw[kg];exact M3 bn acb) (by simp;omega) (by
     rw[aca];have:hx Node.sz [wj]=1:=rfl;omega) (by omega) cu
    exact⟨ys,ec,d,jx,iZ,o,.more (ac9 ⟨LY ⟨bO,⟨by omega,by omega⟩,aj⟩,p9 h,by simp;omega,by simp;omega,aj⟩) l⟩
  exact⟨xs,es,d1,bn,by omega,cu,.last (di 1) (aci ⟨LY ⟨bO,⟨by omega,by omega⟩,aj⟩,oZ h,aj⟩)⟩
theorem k3.len{g:bz}(h:k3 g):1<=g.nodes.length/\g.nodes.length<=8:=by
 have:=h.ok;simp only[cz,af,b0,cF]at this;omega
theorem acd(b:List Int)(c:dV)(ai:c.ok b):∃(d:dV) (g:bz),d.ok b/\(g.sz<=120/\-1<=g.bg/\g.bg<=5)/\cv prog 45 [.cur (c.e b) (d.e b)] (.vals [.agg g.e]):=by
 obtain⟨d1,g,cu,ag,bO⟩:=MV b c ai;have ad:=ag.size;have ak:=ag.len;have afn:=ag.bg;have Qi:((g.nodes.map Node.e).length:Int)=g.nodes.length:=by simp
 obtain⟨d2,k,cc,aT,b6⟩:=eu b d1 (g.nodes.length:Int) cu (by omega);rw[<-Qi]at b6;obtain⟨d3,m,c7,hm,cC⟩:=eu b d2 12 cc (by omega);obtain⟨y,a7⟩:=cT (xs:=g.nodes) (i:=k.toNat) (by omega);have yl:(g.nodes.map Node.e)[k.toNat]?=some y.e:=by rw[dG,a7];rfl
 have vz:k<((g.nodes.map Node.e).length:Int):=by omega
 have p1:∀x:Node,x.sz<=y.sz+3->(⟨g.nodes.set k.toNat x,g.bg,g.cap⟩:bz).sz<=120:=fun x ae=>by
  have:=zN (sz:=Node.sz) x a7;unfold bz.sz at ad ⊢;dsimp only;omega
 by_cases b8:m=0
 ·obtain⟨d4,x,gw,ae,eo⟩:=ab9 b d3 c7;have:=ac4 ⟨bO,b6,cC,by simp[b8],ac3 ⟨eo,aT.1,vz,yl,aj⟩,aj⟩;refine⟨d4,⟨g.nodes.set k.toNat x,g.bg,g.cap⟩,gw,⟨p1 x (by unfold Node.sz;omega),by dsimp only;omega,by dsimp only;omega⟩,?_⟩;unfold bz.e;dsimp only;rw[GL];exact this
 by_cases aK:m=1
 ·obtain⟨d4,v,gw,a8,eo⟩:=mo b d3 [0,4,5,-1] c7 (by simp);simp only[dj,nZ,or_false]at a8;exact⟨d4,⟨g.nodes,v,g.cap⟩,gw,⟨by unfold bz.sz at ad ⊢;dsimp only;omega,by dsimp only;omega,by dsimp only;omega⟩,ac5 ⟨bO,b6,cC,by simp[b8],by simp[aK],eo,aj⟩⟩
 by_cases aO:m=2
 ·obtain⟨d4,v,gw,a8,eo⟩:=mo b d3 [0,4,5,-1] c7 (by simp);exact⟨d4,⟨g.nodes,g.bg,v⟩,gw,⟨by unfold bz.sz at ad ⊢;dsimp only;omega,by dsimp only;omega,by dsimp only;omega⟩,ac6 ⟨bO,b6,cC,by simp[b8],by simp[aK],by simp[aO],eo,aj⟩⟩
 by_cases b2:m=3
 ·obtain⟨d4,v,gw,a8,eo⟩:=eu b d3 9 c7 (by omega);have Ib:y.outs.length<=100:=by
   have:=zN (sz:=Node.sz) wj a7;have aL:Node.sz wj=0:=rfl;have:y.sz<=100:=by unfold bz.sz at ad;omega
   exact this
  have:=ac8 ⟨bO,b6,cC,by simp[b8],by simp[aK],by simp[aO],by simp[b2],ac7 ⟨aT.1,vz,yl,eo,⟨by omega,by omega⟩,by simp;omega,by simp;omega,yl,rfl,rfl,Fe,aT.1,vz,yl,rfl,aj⟩,aj⟩;refine⟨d4,⟨g.nodes.set k.toNat ⟨y.kind,y.a,y.b,y.outs++[v-1]⟩,g.bg,g.cap⟩,gw,⟨p1 _ (by unfold Node.sz;simp),by dsimp only;omega,by dsimp only;omega⟩,?_⟩;unfold bz.e;dsimp only;rw[GL];unfold Node.e;dsimp only;rw[kg];exact this
 by_cases eY:m=4
 ·obtain⟨ys,ec,d,jx,iZ,o,l⟩:=M5 b g.bg g.cap (9-g.nodes.length) g.nodes (g.nodes.map Node.e) d3 (M1 _) (by omega) (by unfold bz.sz at ad;omega) (by omega) c7;have:=acj ⟨bO,b6,cC,by simp[b8],by simp[aK],by simp[aO],by simp[b2],by simp[eY],l,aj⟩;exact⟨d,⟨ys,g.bg,g.cap⟩,o,⟨iZ,by dsimp only;omega,by dsimp only;omega⟩,this.fit (.cons (.agg (.cons (.aa 4 jx) (hQ.refl _))) .nil)⟩
 by_cases ks:m=5
 ·have:=ack ⟨bO,b6,cC,by simp[b8],by simp[aK],by simp[aO],by simp[b2],by simp[eY],by simp[ks],by decide,aT.1,by change k<=_;omega,aj⟩;refine⟨d3,⟨g.nodes.take k.toNat,g.bg,g.cap⟩,c7,⟨?_,by dsimp only;omega,by dsimp only;omega⟩,?_⟩
  ·have:=MZ (sz:=Node.sz) g.nodes k.toNat;unfold bz.sz at ad ⊢;dsimp only;omega
  unfold bz.e;dsimp only;rw[uT];exact this
 exact⟨d3,g,c7,⟨by omega,by omega,by omega⟩,acm ⟨bO,b6,cC,by simp[b8],by simp[aK],by simp[aO],by simp[b2],by simp[eY],by simp[ks],aj⟩⟩
end Go.Proofs.Ytdchjefneblpgaa
namespace Go.Proofs.Ytdchjefneblpgaa
open Go.Sx Go.RowKit Go.Proofs.Try
theorem ace{g:bz}{op:Int}{x:Node}(h:dd g op=some x):0<=op/\op<(↑(g.nodes.map Node.e).length:Int)/\(g.nodes.map Node.e)[op.toNat]?=some x.e:=by
 unfold dd at h;split at h
 ·have:=ct h;exact⟨‹_›,by rw[br];omega,bf Node.e h⟩
 cases h
theorem acf(g:bz)(r:aQ)(ag:g.sz<=8388608):aA 22 [.agg g.e,.agg r.e] [.one (B (dn g r))]:=by
 have k:=wI g ag;have oq:=zc r;have C2:=D1 r.bl;cases J:cz g with
 | false=>
  rw[J]at k;rw[show dn g r=false by unfold dn;split<;>simp[hK,J]];exact Zn ⟨k,rfl,aj⟩
 | true=>
 rw[J]at k;cases U:c8 r with
 | false=>
  rw[U]at oq;rw[show dn g r=false by unfold dn;split<;>simp[hK,U]];exact Zo ⟨k,rfl,oq,rfl,aj⟩
 | true=>
 rw[U]at oq;cases ax:dd g r.op with
 | none=>
  rw[show dn g r=false by unfold dn;rw[ax]];exact Zp ⟨k,rfl,oq,rfl,uk g r.op false (by rw[ax];rfl) ag,rfl,aj⟩
 | some x=>
  obtain⟨m1,m2,m3⟩:=ace ax;have CY:=uk g r.op true (by rw[ax];rfl) ag;rw[show dn g r=hK g r x by unfold dn;rw[ax]];cases aJ:(x.kind==7) with
  | false=>
   rw[show hK g r x=false by simp[hK,aJ]];exact Zs ⟨k,rfl,oq,rfl,CY,rfl,m1,m2,m3,C2,aJ,aj⟩
  | true=>
  by_cases a1:0<x.outs.length
  ·rw[show hK g r x=!(dm r.bl).2 by simp[hK,J,U,aJ,a1]];exact Zq ⟨k,rfl,oq,rfl,CY,rfl,m1,m2,m3,C2,aJ,e3 (by rw[br];omega),aj⟩
  rw[show hK g r x=false by simp[hK,a1]];exact Zr ⟨k,rfl,oq,rfl,CY,rfl,m1,m2,m3,C2,aJ,gG (by rw[br];omega),aj⟩
