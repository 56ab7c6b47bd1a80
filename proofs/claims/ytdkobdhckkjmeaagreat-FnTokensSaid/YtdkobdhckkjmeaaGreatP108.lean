import Derived.Test.YtdkobdhckkjmeaaGreatP61
import Derived.Test.YtdkobdhckkjmeaaGreatP43
import Derived.Test.YtdkobdhckkjmeaaGreatG3
set_option linter.unusedVariables false
set_option linter.unusedSimpArgs false
namespace Go.Proofs.YtdkobdhckkjmeaaGreat
open Go.Sx Go.RowKit Go.Proofs.Tryz
theorem flat1I(v:Int):Flat [[I v]]:=flatI [v]
theorem node_loop(b:List Int)(k a e:Int):∀(n i:Nat) (xs:List Int) (c:Cur),i+n=2→c.ok b→xs.length≤i→
  ∃(ys:List Int) (d:Cur),d.ok b∧ys.length≤2∧qam prog (qaa f308 0) (spec_l07Node_L0 (b.map eU) i k a e (xs.map eI) 0 0 0 c.i c.h) (.exit 1) (spec_l07Node_X0 (b.map eU) k a e (ys.map eI) 0 0 0 d.i d.h)
 | n,i,xs,c,hin,hc,hl=>by
  obtain⟨d1,m,o1,hb,r1⟩:=qbV b c 3 hc (by omega);by_cases h:(i:Int)<m
  ·match n with
   | 0=>omega
   | n+1=>
    obtain⟨d2,v,o2,hv,r2⟩:=qbV b d1 2 o1 (by omega);obtain⟨ys,d,o,y1,l⟩:=node_loop b k a e n (i+1) (xs++[1+(i:Int)*2+v]) d2 (by omega) o2 (by simp;omega);refine⟨ys,d,o,y1,.more (spec_l07Node_L0_s0 ⟨r1,zap h,spec_l07Node_R14_r8 _ _ _ _ _ _ _ _ _ _ _ _ _ _ _ ⟨⟨by omega,by omega⟩,⟨by omega,by omega⟩,r2,⟨by omega,by omega⟩,by simp;omega,by simp;omega,flat1I _,trivial⟩,⟨by omega,by omega⟩,trivial⟩) ?_⟩;rw[zU]at l;exact l
  ·exact⟨xs,d1,o1,by omega,.last (qaf 1) (spec_l07Node_L0_x1 ⟨r1,zt h,trivial⟩)⟩
theorem spec_l07Node_ret(b:List Int)(c:Cur)(hc:c.ok b):∃(d:Cur) (x:Node),d.ok b∧x.outs.length≤2∧RetR prog 308 [.cur (c.e b) (d.e b)] (.vals [.agg x.e]):=by
 obtain⟨d1,n,o1,hn,r1⟩:=qbV b c 8 hc (by omega);have i1:inInt .i64 (1+n):=⟨by omega,by omega⟩
 by_cases e1:n=1
 ·obtain⟨d2,v,o2,hv,r2⟩:=qwv b d1 [0,1,3,10,999] o1 (by simp);obtain⟨ys,d,o,y1,l⟩:=node_loop b (1+n) v 0 2 0 [] d2 rfl o2 (by simp);exact⟨d,⟨1+n,v,0,ys⟩,o,y1,spec_l07Node_p0 ⟨r1,i1,by simp[e1],r2,by simp[e1],l,trivial⟩⟩
 by_cases e2:n=2
 ·obtain⟨d2,v,o2,hv,r2⟩:=qbV b d1 4 o1 (by omega);obtain⟨d3,u,o3,hu,r3⟩:=qbV b d2 (1+v) o2 (by omega);obtain⟨ys,d,o,y1,l⟩:=node_loop b (1+n) (1+v) u 2 0 [] d3 rfl o3 (by simp);exact⟨d,⟨1+n,1+v,u,ys⟩,o,y1,spec_l07Node_p2 ⟨r1,i1,by simp[e2],by simp[e2],r2,⟨by omega,by omega⟩,r3,by simp[e2],l,trivial⟩⟩
 by_cases e3:n=3
 ·obtain⟨d2,v,o2,hv,r2⟩:=qwv b d1 [0,1,2,3,50,99] o1 (by simp);obtain⟨ys,d,o,y1,l⟩:=node_loop b (1+n) v 0 2 0 [] d2 rfl o2 (by simp);exact⟨d,⟨1+n,v,0,ys⟩,o,y1,spec_l07Node_p4 ⟨r1,i1,by simp[e3],by simp[e3],by simp[e3],r2,by simp[e3],l,trivial⟩⟩
 have f1:(1+n==2)=false:=by simp;omega
 have f2:(1+n==3)=false:=by simp;omega
 have f3:(1+n==4)=false:=by simp;omega
 by_cases e7:n=7
 ·exact⟨d1,⟨1+n,0,0,[]⟩,o1,by simp,spec_l07Node_p7 ⟨r1,i1,f1,f2,f3,by simp[e7],trivial⟩⟩
 ·obtain⟨ys,d,o,y1,l⟩:=node_loop b (1+n) 0 0 2 0 [] d1 rfl o1 (by simp);exact⟨d,⟨1+n,0,0,ys⟩,o,y1,spec_l07Node_p6 ⟨r1,i1,f1,f2,f3,by simp;omega,l,trivial⟩⟩
theorem spec_l07Any_ret(b:List Int)(c:Cur)(hc:c.ok b):∃(d:Cur) (x:Node),d.ok b∧x.outs.length≤3∧RetR prog 252 [.cur (c.e b) (d.e b)] (.vals [.agg x.e]):=by
 obtain⟨d1,x,o1,hx,r1⟩:=spec_l07Node_ret b c hc;obtain⟨d2,k,o2,hk,r2⟩:=qbV b d1 12 o1 (by omega);by_cases e0:k=0
 ·obtain⟨d3,v,o3,hv,r3⟩:=qbV b d2 11 o2 (by omega);exact⟨d3,⟨v-1,x.a,x.b,x.outs⟩,o3,by dsimp only;omega,spec_l07Any_p0 ⟨r1,r2,by simp[e0],r3,⟨by omega,by omega⟩,trivial⟩⟩
 by_cases e1:k=1
 ·obtain⟨d3,v,o3,hv,r3⟩:=qwv b d2 [-1,0,1000,100,11] o2 (by simp);exact⟨d3,⟨x.kind,v,x.b,x.outs⟩,o3,by dsimp only;omega,spec_l07Any_p1 ⟨r1,r2,by simp[e0],by simp[e1],r3,trivial⟩⟩
 by_cases e2:k=2
 ·obtain⟨d3,v,o3,hv,r3⟩:=qwv b d2 [-1,1,3] o2 (by simp);exact⟨d3,⟨x.kind,x.a,v,x.outs⟩,o3,by dsimp only;omega,spec_l07Any_p2 ⟨r1,r2,by simp[e0],by simp[e1],by simp[e2],r3,trivial⟩⟩
 by_cases e3:k=3
 ·obtain⟨d3,v,o3,hv,r3⟩:=qwv b d2 [1,7,8,-1] o2 (by simp);have:=spec_l07Any_p3 ⟨r1,r2,by simp[e0],by simp[e1],by simp[e2],by simp[e3],spec_l07Any_R10_r2 _ _ _ _ _ _ _ _ _ _ _ ⟨r3,by simp;omega,by simp;omega,flat1I _,trivial⟩,trivial⟩;refine⟨d3,⟨x.kind,x.a,x.b,x.outs++[v]⟩,o3,by simp;omega,?_⟩;unfold Node.e;dsimp only;rw[zU];exact this
 ·exact⟨d2,x,o2,by omega,spec_l07Any_p4 ⟨r1,r2,by simp[e0],by simp[e1],by simp[e2],by simp[e3],trivial⟩⟩
theorem szS_app{α:Type}{sz:α→Nat}(xs ys:List α):szS sz (xs++ys)=szS sz xs+szS sz ys:=by
 unfold szS;simp;omega
theorem szS_take{α:Type}{sz:α→Nat}:∀(xs:List α) (n:Nat),szS sz (xs.take n)≤szS sz xs
 | [],n=>by simp
 | x::xs,0=>by simp[szS]
 | x::xs,n+1=>by
  have:=szS_take (sz:=sz) xs n;unfold szS at*;simp only[List.take_succ_cons,zq,zav,zcw];omega
def nilNode:List D:=[I 8,I 0,I 0,.v (.slice none 0 0)]
def outNode:Node:=⟨8,0,0,[]⟩
theorem fitNil:FitE nilNode outNode.e:=.cons (.refl _) (.cons (.refl _) (.cons (.refl _) (.cons (.nil 1) .nil)))
theorem fitMap:∀(xs:List Node),FitR (xs.map Node.e) (xs.map Node.e)
 | []=>.nil
 | x::xs=>.cons (FitE.refl _) (fitMap xs)
theorem fitApp:∀{es es':List (List D)} {e e':List D},FitR es es'→FitE e e'→FitR (es++[e]) (es'++[e'])
 | _,_,_,_,.nil,h=>.cons h .nil
 | _,_,_,_,.cons k t,h=>.cons k (fitApp t h)
theorem fitLen:∀{es es':List (List D)},FitR es es'→es.length=es'.length
 | _,_,.nil=>rfl
 | _,_,.cons _ t=>by simp[fitLen t]
theorem outs_loop(b:List Int)(w p:Int):∀(n:Nat) (xs:List Node) (es:List (List D)) (c:Cur),FitR es (xs.map Node.e)→xs.length+n=9→szS Node.sz xs≤120-n→n≤9→c.ok b→
  ∃(ys:List Node) (fs:List (List D)) (d:Cur),FitR fs (ys.map Node.e)∧szS Node.sz ys≤120∧d.ok b∧qam prog (qaa f138 0) (spec_l08Any_L0 (b.map eU) es w p 0 0 c.i c.h) (.exit 1) (spec_l08Any_X0 (b.map eU) fs w p 0 0 d.i d.h)
 | n,xs,es,c,hf,hn,hs,h9,hc=>by
  obtain⟨d1,m,o1,hb,r1⟩:=qbV b c 2 hc (by omega);have hl:=fitLen hf;rw[zb]at hl;by_cases h:(es.length:Int)<8+m
  ·match n with
   | 0=>omega
   | n+1=>
    obtain⟨ys,fs,d,y1,y2,o,l⟩:=outs_loop b w p n (xs++[outNode]) (es++[nilNode]) d1 (by
     rw[zU];exact fitApp hf fitNil) (by simp;omega) (by
     rw[szS_app];have:szS Node.sz [outNode]=1:=rfl;omega) (by omega) o1
    exact⟨ys,fs,d,y1,y2,o,.more (spec_l08Any_L0_s0 ⟨spec_l08Any_R13_r9 _ _ _ _ _ _ _ _ _ _ _ ⟨r1,⟨by omega,by omega⟩,trivial⟩,zap h,by simp;omega,by simp;omega,trivial⟩) l⟩
  ·exact⟨xs,es,d1,hf,by omega,o1,.last (qaf 1) (spec_l08Any_L0_x1 ⟨spec_l08Any_R13_r9 _ _ _ _ _ _ _ _ _ _ _ ⟨r1,⟨by omega,by omega⟩,trivial⟩,zt h,trivial⟩)⟩
theorem Drawn.len{g:Graph}(h:Drawn g):1≤g.nodes.length∧g.nodes.length≤8:=by
 have:=h.ok;simp only[qaw,inR,zj,zi]at this;omega
theorem spec_l08Any_ret(b:List Int)(c:Cur)(hc:c.ok b):∃(d:Cur) (g:Graph),d.ok b∧(g.sz≤120∧-1≤g.workers∧g.workers≤5)∧RetR prog 138 [.cur (c.e b) (d.e b)] (.vals [.agg g.e]):=by
 obtain⟨d1,g,o1,hg,r1⟩:=qq0 b c hc;have hs:=hg.size;have hl:=hg.len;have hgw:=hg.workers;have hlm:((g.nodes.map Node.e).length:Int)=g.nodes.length:=by simp
 obtain⟨d2,k,o2,hk,r2⟩:=qbV b d1 (g.nodes.length:Int) o1 (by omega);rw[←hlm]at r2;obtain⟨d3,m,o3,hm,r3⟩:=qbV b d2 12 o2 (by omega);obtain⟨y,hy⟩:=qal (xs:=g.nodes) (i:=k.toNat) (by omega);have hye:(g.nodes.map Node.e)[k.toNat]?=some y.e:=by rw[zr,hy];rfl
 have hkl:k<((g.nodes.map Node.e).length:Int):=by omega
 have setN:∀x:Node,x.sz≤y.sz+3→(⟨g.nodes.set k.toNat x,g.workers,g.cap⟩:Graph).sz≤120:=fun x hx=>by
  have:=qj3 (sz:=Node.sz) x hy;unfold Graph.sz at hs ⊢;dsimp only;omega
 by_cases e0:m=0
 ·obtain⟨d4,x,o4,hx,r4⟩:=spec_l07Any_ret b d3 o3;have:=spec_l08Any_p0 ⟨r1,r2,r3,by simp[e0],spec_l08Any_R5_r2 _ _ _ _ _ _ _ _ _ _ _ _ _ _ _ _ _ _ ⟨r4,hk.1,hkl,hye,trivial⟩,trivial⟩;refine⟨d4,⟨g.nodes.set k.toNat x,g.workers,g.cap⟩,o4,⟨setN x (by unfold Node.sz;omega),by dsimp only;omega,by dsimp only;omega⟩,?_⟩;unfold Graph.e;dsimp only;rw[zau];exact this
 by_cases e1:m=1
 ·obtain⟨d4,v,o4,hv,r4⟩:=qwv b d3 [0,4,5,-1] o3 (by simp);simp only[zL,zbu,or_false]at hv;exact⟨d4,⟨g.nodes,v,g.cap⟩,o4,⟨by unfold Graph.sz at hs ⊢;dsimp only;omega,by dsimp only;omega,by dsimp only;omega⟩,spec_l08Any_p1 ⟨r1,r2,r3,by simp[e0],by simp[e1],r4,trivial⟩⟩
 by_cases e2:m=2
 ·obtain⟨d4,v,o4,hv,r4⟩:=qwv b d3 [0,4,5,-1] o3 (by simp);exact⟨d4,⟨g.nodes,g.workers,v⟩,o4,⟨by unfold Graph.sz at hs ⊢;dsimp only;omega,by dsimp only;omega,by dsimp only;omega⟩,spec_l08Any_p2 ⟨r1,r2,r3,by simp[e0],by simp[e1],by simp[e2],r4,trivial⟩⟩
 by_cases e3:m=3
 ·obtain⟨d4,v,o4,hv,r4⟩:=qbV b d3 9 o3 (by omega);have hyl:y.outs.length≤100:=by
   have:=qj3 (sz:=Node.sz) outNode hy;have hz:Node.sz outNode=0:=rfl;have:y.sz≤100:=by unfold Graph.sz at hs;omega
   exact this
  have:=spec_l08Any_p3 ⟨r1,r2,r3,by simp[e0],by simp[e1],by simp[e2],by simp[e3],spec_l08Any_R11_r5 _ _ _ _ _ _ _ _ _ _ _ _ _ _ _ _ _ _ _ _ _ _ ⟨hk.1,hkl,hye,r4,⟨by omega,by omega⟩,by simp;omega,by simp;omega,hye,rfl,rfl,flat1I _,hk.1,hkl,hye,rfl,trivial⟩,trivial⟩;refine⟨d4,⟨g.nodes.set k.toNat ⟨y.kind,y.a,y.b,y.outs++[v-1]⟩,g.workers,g.cap⟩,o4,⟨setN _ (by unfold Node.sz;simp),by dsimp only;omega,by dsimp only;omega⟩,?_⟩;unfold Graph.e;dsimp only;rw[zau];unfold Node.e;dsimp only;rw[zU];exact this
 by_cases e4:m=4
 ·obtain⟨ys,fs,d,y1,y2,o,l⟩:=outs_loop b g.workers g.cap (9-g.nodes.length) g.nodes (g.nodes.map Node.e) d3 (fitMap _) (by omega) (by unfold Graph.sz at hs;omega) (by omega) o3;have:=spec_l08Any_p4 ⟨r1,r2,r3,by simp[e0],by simp[e1],by simp[e2],by simp[e3],by simp[e4],l,trivial⟩;exact⟨d,⟨ys,g.workers,g.cap⟩,o,⟨y2,by dsimp only;omega,by dsimp only;omega⟩,this.fit (.cons (.agg (.cons (.sl 4 y1) (FitE.refl _))) .nil)⟩
 by_cases e5:m=5
 ·have:=spec_l08Any_p5 ⟨r1,r2,r3,by simp[e0],by simp[e1],by simp[e2],by simp[e3],by simp[e4],by simp[e5],by decide,hk.1,by change k≤_;omega,trivial⟩;refine⟨d3,⟨g.nodes.take k.toNat,g.workers,g.cap⟩,o3,⟨?_,by dsimp only;omega,by dsimp only;omega⟩,?_⟩
  ·have:=szS_take (sz:=Node.sz) g.nodes k.toNat;unfold Graph.sz at hs ⊢;dsimp only;omega
  ·unfold Graph.e;dsimp only;rw[zcr];exact this
 ·exact⟨d3,g,o3,⟨by omega,by omega,by omega⟩,spec_l08Any_p6 ⟨r1,r2,r3,by simp[e0],by simp[e1],by simp[e2],by simp[e3],by simp[e4],by simp[e5],trivial⟩⟩
