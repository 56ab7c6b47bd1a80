import Derived.Test.YthfnndblgbjniaaGreatP61
import Derived.Test.YthfnndblgbjniaaGreatG3
import Derived.Test.YthfnndblgbjniaaGreatP72
import Derived.Test.YthfnndblgbjniaaGreatG4
set_option linter.unusedVariables false
set_option linter.unusedSimpArgs false
namespace Go.Proofs.YthfnndblgbjniaaGreat
open Go.Sx Go.RowKit Go.Proofs.Tryz
theorem P0{v:Int}:Flat [[I v]]:=Bv [v]
theorem D2(b:List Int)(k a e:Int):∀(n i:Nat) (xs:List Int) (c:dY),i+n=2->c.ok b->xs.length<=i->
  ∃(ys:List Int) (d:dY),d.ok b/\ys.length<=2/\c8 prog (ap f162 0) (wa (b.map h6) i k a e (xs.map bd) 0 0 0 c.i c.h) (.exit 1) (zS (b.map h6) k a e (ys.map bd) 0 0 0 d.i d.h)
 | n,i,xs,c,iU,ai,al=>by
  obtain⟨d1,m,cy,aw,bC⟩:=ei b c 3 ai (by omega);by_cases h:(i:Int)<m
  ·match n with
   | 0=>omega
   | n+1=>
    obtain⟨d2,v,ci,bF,b2⟩:=ei b d1 2 cy (by omega);obtain⟨ys,d,o,eH,l⟩:=D2 b k a e n (i+1) (xs++[1+(i:Int)*2+v]) d2 (by omega) ci (by simp;omega);refine⟨ys,d,o,eH,.more (auD ⟨bC,k' h,auC ⟨⟨by omega,by omega⟩,⟨by omega,by omega⟩,b2,⟨by omega,by omega⟩,by simp;omega,by simp;omega,P0,aa⟩,⟨by omega,by omega⟩,aa⟩) ?_⟩;rw[gi]at l;exact l
  exact⟨xs,d1,cy,by omega,.last (cn 1) (auE ⟨bC,o8 h,aa⟩)⟩
theorem avN(b:List Int)(c:dY)(ai:c.ok b):∃(d:dY) (x:Node),d.ok b/\x.outs.length<=2/\b4 prog 162 [.cur (c.e b) (d.e b)] (.vals [.agg x.e]):=by
 obtain⟨d1,n,cy,aW,bC⟩:=ei b c 8 ai (by omega);have i1:aL .i64 (1+n):=⟨by omega,by omega⟩
 by_cases e1:n=1
 ·obtain⟨d2,v,ci,bF,b2⟩:=ni b d1 [0,1,3,10,999] cy (by simp);obtain⟨ys,d,o,eH,l⟩:=D2 b (1+n) v 0 2 0 [] d2 rfl ci (by simp);exact⟨d,⟨1+n,v,0,ys⟩,o,eH,auF ⟨bC,i1,by simp[e1],b2,by simp[e1],l,aa⟩⟩
 by_cases e2:n=2
 ·obtain⟨d2,v,ci,bF,b2⟩:=ei b d1 4 cy (by omega);obtain⟨d3,u,cI,hu,cg⟩:=ei b d2 (1+v) ci (by omega);obtain⟨ys,d,o,eH,l⟩:=D2 b (1+n) (1+v) u 2 0 [] d3 rfl cI (by simp);exact⟨d,⟨1+n,1+v,u,ys⟩,o,eH,auG ⟨bC,i1,by simp[e2],by simp[e2],b2,⟨by omega,by omega⟩,cg,by simp[e2],l,aa⟩⟩
 by_cases ch:n=3
 ·obtain⟨d2,v,ci,bF,b2⟩:=ni b d1 [0,1,2,3,50,99] cy (by simp);obtain⟨ys,d,o,eH,l⟩:=D2 b (1+n) v 0 2 0 [] d2 rfl ci (by simp);exact⟨d,⟨1+n,v,0,ys⟩,o,eH,auH ⟨bC,i1,by simp[ch],by simp[ch],by simp[ch],b2,by simp[ch],l,aa⟩⟩
 have f1:(1+n==2)=false:=by simp;omega
 have f2:(1+n==3)=false:=by simp;omega
 have f3:(1+n==4)=false:=by simp;omega
 by_cases qe:n=7
 ·exact⟨d1,⟨1+n,0,0,[]⟩,cy,by simp,auJ ⟨bC,i1,f1,f2,f3,by simp[qe],aa⟩⟩
 obtain⟨ys,d,o,eH,l⟩:=D2 b (1+n) 0 0 2 0 [] d1 rfl cy (by simp);exact⟨d,⟨1+n,0,0,ys⟩,o,eH,auI ⟨bC,i1,f1,f2,f3,by simp;omega,l,aa⟩⟩
theorem avO(b:List Int)(c:dY)(ai:c.ok b):∃(d:dY) (x:Node),d.ok b/\x.outs.length<=3/\b4 prog 111 [.cur (c.e b) (d.e b)] (.vals [.agg x.e]):=by
 obtain⟨d1,x,cy,ag,bC⟩:=avN b c ai;obtain⟨d2,k,ci,hk,b2⟩:=ei b d1 12 cy (by omega);by_cases bE:k=0
 ·obtain⟨d3,v,cI,bF,cg⟩:=ei b d2 11 ci (by omega);exact⟨d3,⟨v-1,x.a,x.b,x.outs⟩,cI,by dsimp only;omega,auK ⟨bC,b2,by simp[bE],cg,⟨by omega,by omega⟩,aa⟩⟩
 by_cases e1:k=1
 ·obtain⟨d3,v,cI,bF,cg⟩:=ni b d2 [-1,0,1000,100,11] ci (by simp);exact⟨d3,⟨x.kind,v,x.b,x.outs⟩,cI,by dsimp only;omega,auL ⟨bC,b2,by simp[bE],by simp[e1],cg,aa⟩⟩
 by_cases e2:k=2
 ·obtain⟨d3,v,cI,bF,cg⟩:=ni b d2 [-1,1,3] ci (by simp);exact⟨d3,⟨x.kind,x.a,v,x.outs⟩,cI,by dsimp only;omega,qOp ⟨bC,b2,by simp[bE],by simp[e1],by simp[e2],cg,aa⟩⟩
 by_cases ch:k=3
 ·obtain⟨d3,v,cI,bF,cg⟩:=ni b d2 [1,7,8,-1] ci (by simp);have:=auN ⟨bC,b2,by simp[bE],by simp[e1],by simp[e2],by simp[ch],auM ⟨cg,by simp;omega,by simp;omega,P0,aa⟩,aa⟩;refine⟨d3,⟨x.kind,x.a,x.b,x.outs++[v]⟩,cI,by simp;omega,?_⟩;unfold Node.e;dsimp only;rw[gi];exact this
 exact⟨d2,x,ci,by omega,auO ⟨bC,b2,by simp[bE],by simp[e1],by simp[e2],by simp[ch],aa⟩⟩
theorem avP{α:Type}{sz:α->Nat}(xs ys:List α):fw sz (xs++ys)=fw sz xs+fw sz ys:=by
 unfold fw;simp;omega
theorem Zn{α:Type}{sz:α->Nat}:∀(xs:List α) (n:Nat),fw sz (xs.take n)<=fw sz xs
 | [],n=>by simp
 | x::xs,0=>by simp[fw]
 | x::xs,n+1=>by
  have:=Zn (sz:=sz) xs n;unfold fw at*;simp only[List.take_succ_cons,gT,mg,w4];omega
def Zo:List D:=[I 8,I 0,I 0,.v (.slice none 0 0)]
def D3:Node:=⟨8,0,0,[]⟩
theorem avQ:lb Zo D3.e:=.cons (.refl _) (.cons (.refl _) (.cons (.refl _) (.cons (.nil 1) .nil)))
theorem Zp:∀(xs:List Node),nE (xs.map Node.e) (xs.map Node.e)
 | []=>.nil
 | x::xs=>.cons (lb.refl _) (Zp xs)
theorem Zq:∀{es cC:List (List D)} {e e':List D},nE es cC->lb e e'->nE (es++[e]) (cC++[e'])
 | _,_,_,_,.nil,h=>.cons h .nil
 | _,_,_,_,.cons k t,h=>.cons k (Zq t h)
theorem Zr:∀{es cC:List (List D)},nE es cC->es.length=cC.length
 | _,_,.nil=>rfl
 | _,_,.cons _ t=>by simp[Zr t]
theorem Zs(b:List Int)(w p:Int):∀(n:Nat) (xs:List Node) (es:List (List D)) (c:dY),nE es (xs.map Node.e)->xs.length+n=9->fw Node.sz xs<=120-n->n<=9->c.ok b->
  ∃(ys:List Node) (eV:List (List D)) (d:dY),nE eV (ys.map Node.e)/\fw Node.sz ys<=120/\d.ok b/\c8 prog (ap f65 0) (CJ (b.map h6) es w p 0 0 c.i c.h) (.exit 1) (Oa (b.map h6) eV w p 0 0 d.i d.h)
 | n,xs,es,c,bI,aW,ao,ez,ai=>by
  obtain⟨d1,m,cy,aw,bC⟩:=ei b c 2 ai (by omega);have al:=Zr bI;rw[b']at al;by_cases h:(es.length:Int)<8+m
  ·match n with
   | 0=>omega
   | n+1=>
    obtain⟨ys,eV,d,eH,e4,o,l⟩:=Zs b w p n (xs++[D3]) (es++[Zo]) d1 (by
     rw[gi];exact Zq bI avQ) (by simp;omega) (by
     rw[avP];have:fw Node.sz [D3]=1:=rfl;omega) (by omega) cy
    exact⟨ys,eV,d,eH,e4,o,.more (aBf ⟨Vj ⟨bC,⟨by omega,by omega⟩,aa⟩,k' h,by simp;omega,by simp;omega,aa⟩) l⟩
  exact⟨xs,es,d1,bI,by omega,cy,.last (cn 1) (aBg ⟨Vj ⟨bC,⟨by omega,by omega⟩,aa⟩,o8 h,aa⟩)⟩
theorem la.len{g:bX}(h:la g):1<=g.nodes.length/\g.nodes.length<=8:=by
 have:=h.ok;simp only[ej,ax,cu,cj]at this;omega
theorem avR(b:List Int)(c:dY)(ai:c.ok b):∃(d:dY) (g:bX),d.ok b/\(g.sz<=120/\-1<=g.aq/\g.aq<=5)/\b4 prog 65 [.cur (c.e b) (d.e b)] (.vals [.agg g.e]):=by
 obtain⟨d1,g,cy,ay,bC⟩:=Oj b c ai;have ao:=ay.size;have al:=ay.len;have adU:=ay.aq;have uc:((g.nodes.map Node.e).length:Int)=g.nodes.length:=by simp
 obtain⟨d2,k,ci,hk,b2⟩:=ei b d1 (g.nodes.length:Int) cy (by omega);rw[<-uc]at b2;obtain⟨d3,m,cI,hm,cg⟩:=ei b d2 12 ci (by omega);obtain⟨y,bu⟩:=c5 (xs:=g.nodes) (i:=k.toNat) (by omega);have oI:(g.nodes.map Node.e)[k.toNat]?=some y.e:=by rw[dI,bu];rfl
 have zr:k<((g.nodes.map Node.e).length:Int):=by omega
 have gg:∀x:Node,x.sz<=y.sz+3->(⟨g.nodes.set k.toNat x,g.aq,g.cap⟩:bX).sz<=120:=fun x ag=>by
  have:=ya (sz:=Node.sz) x bu;unfold bX.sz at ao ⊢;dsimp only;omega
 by_cases bE:m=0
 ·obtain⟨d4,x,fs,ag,eG⟩:=avO b d3 cI;have:=aBa ⟨bC,b2,cg,by simp[bE],aA9 ⟨eG,hk.1,zr,oI,aa⟩,aa⟩;refine⟨d4,⟨g.nodes.set k.toNat x,g.aq,g.cap⟩,fs,⟨gg x (by unfold Node.sz;omega),by dsimp only;omega,by dsimp only;omega⟩,?_⟩;unfold bX.e;dsimp only;rw[hL];exact this
 by_cases e1:m=1
 ·obtain⟨d4,v,fs,bF,eG⟩:=ni b d3 [0,4,5,-1] cI (by simp);simp only[ev,od,or_false]at bF;exact⟨d4,⟨g.nodes,v,g.cap⟩,fs,⟨by unfold bX.sz at ao ⊢;dsimp only;omega,by dsimp only;omega,by dsimp only;omega⟩,aBb ⟨bC,b2,cg,by simp[bE],by simp[e1],eG,aa⟩⟩
 by_cases e2:m=2
 ·obtain⟨d4,v,fs,bF,eG⟩:=ni b d3 [0,4,5,-1] cI (by simp);exact⟨d4,⟨g.nodes,g.aq,v⟩,fs,⟨by unfold bX.sz at ao ⊢;dsimp only;omega,by dsimp only;omega,by dsimp only;omega⟩,aBc ⟨bC,b2,cg,by simp[bE],by simp[e1],by simp[e2],eG,aa⟩⟩
 by_cases ch:m=3
 ·obtain⟨d4,v,fs,bF,eG⟩:=ei b d3 9 cI (by omega);have S5:y.outs.length<=100:=by
   have:=ya (sz:=Node.sz) D3 bu;have bb:Node.sz D3=0:=rfl;have:y.sz<=100:=by unfold bX.sz at ao;omega
   exact this
  have:=aBe ⟨bC,b2,cg,by simp[bE],by simp[e1],by simp[e2],by simp[ch],aBd ⟨hk.1,zr,oI,eG,⟨by omega,by omega⟩,by simp;omega,by simp;omega,oI,rfl,rfl,P0,hk.1,zr,oI,rfl,aa⟩,aa⟩;refine⟨d4,⟨g.nodes.set k.toNat ⟨y.kind,y.a,y.b,y.outs++[v-1]⟩,g.aq,g.cap⟩,fs,⟨gg _ (by unfold Node.sz;simp),by dsimp only;omega,by dsimp only;omega⟩,?_⟩;unfold bX.e;dsimp only;rw[hL];unfold Node.e;dsimp only;rw[gi];exact this
 by_cases dS:m=4
 ·obtain⟨ys,eV,d,eH,e4,o,l⟩:=Zs b g.aq g.cap (9-g.nodes.length) g.nodes (g.nodes.map Node.e) d3 (Zp _) (by omega) (by unfold bX.sz at ao;omega) (by omega) cI;have:=aBh ⟨bC,b2,cg,by simp[bE],by simp[e1],by simp[e2],by simp[ch],by simp[dS],l,aa⟩;exact⟨d,⟨ys,g.aq,g.cap⟩,o,⟨e4,by dsimp only;omega,by dsimp only;omega⟩,this.fit (.cons (.agg (.cons (.J 4 eH) (lb.refl _))) .nil)⟩
 by_cases hz:m=5
 ·have:=aBi ⟨bC,b2,cg,by simp[bE],by simp[e1],by simp[e2],by simp[ch],by simp[dS],by simp[hz],by decide,hk.1,by change k<=_;omega,aa⟩;refine⟨d3,⟨g.nodes.take k.toNat,g.aq,g.cap⟩,cI,⟨?_,by dsimp only;omega,by dsimp only;omega⟩,?_⟩
  ·have:=Zn (sz:=Node.sz) g.nodes k.toNat;unfold bX.sz at ao ⊢;dsimp only;omega
  unfold bX.e;dsimp only;rw[q3];exact this
 exact⟨d3,g,cI,⟨by omega,by omega,by omega⟩,aBj ⟨bC,b2,cg,by simp[bE],by simp[e1],by simp[e2],by simp[ch],by simp[dS],by simp[hz],aa⟩⟩
end Go.Proofs.YthfnndblgbjniaaGreat
namespace Go.Proofs.YthfnndblgbjniaaGreat
open Go.Sx Go.RowKit Go.Proofs.Tryz
theorem avS(w:aK)(r:az)(hw:w.sz<=8388608):ar 187 [.agg w.e,.agg r.e] [.agg (kept w r).e]:=by
 have aH:w.queue.length<=8388608:=by simp only[aK.sz]at hw;omega
 rw[D4];exact axv ⟨As w hw,vK aH,vL aH,gb (az.flat r),aa⟩
theorem avT(w:aK)(r:az)(hw:w.sz<=8388608)(aJ:w.bB.length=4)(aw:w.bN.length=4)(he:0<=r.bl.ba/\r.bl.ba<=3)(ao:-1000000<=w.bB.getD r.bl.ba.toNat 0/\w.bB.getD r.bl.ba.toNat 0<=1000000):
  ar 153 [.agg w.e,.agg r.e] [.agg (ii w r).e]:=by
 have k:=avS w r hw;rw[D4]at k;rw[Y8];obtain⟨s1,s2⟩:=zE aJ he;obtain⟨e7,fT⟩:=sw aw he;have B1:(↑(w.bB.map bd).length:Int)-1=3:=by rw[b',aJ];rfl
 exact awW ⟨k,⟨by rw[B1];omega,by rw[B1];omega⟩,fm _ _ _ true (by rw[B1];simp only[ax,cj];omega),rfl,dh e7,he.1,s1,s2,⟨by omega,by omega⟩,he.1,s1,s2,he.1,e7,fT,aa⟩
theorem avU(w:aK)(r:az)(t:List az)(hw:w.sz<=8388608)(h:w.b9=r::t):ar 155 [.agg w.e] [.agg (hX w t).e,.agg r.e,.one (B true)]:=by
 have al:w.b9.length<=8388608:=by simp only[aK.sz]at hw;omega
 have e:(hX w t).e=[.J 5 (w.queue.map az.e),.J 5 ([]++((w.b9.map az.e).drop 1).take ((w.b9.map az.e).length-1)),.J 5 (w.bM.map az.e),.J 4 (w.cells.map Cell.e),.J 1 (w.bB.map bd),.J 1 (w.bN.map cG),.J 1 (w.bk.map cG),.J 2 (w.b0.map cS.e)]:=by rw[uI h];rfl
 rw[e];exact axu ⟨As w hw,lM h,by decide,mH h,nu h,nL,nM h,nN,s8 h al,s9 h al,s' h,aa⟩
theorem avV(w:aK)(hw:w.sz<=8388608)(h:w.b9=[]):ar 155 [.agg w.e] [.agg w.e,.agg (⟨0,⟨0,0⟩,0,0⟩:az).e,.one (B false)]:=
 axt ⟨As w hw,rJ h,aa⟩
theorem au6(g:bX)(w:aK)(ay:g.sz<=8388608)(hw:w.sz<=8388608):ar 156 [.agg g.e,.agg w.e] [.agg (e0 g w).1.e,.one (B (e0 g w).2)]:=by
 have cF:=As w hw;have k:=Ab g ay;have kw:=H0 g w ay hw;have ps:w.cells.length<=8388608:=by simp only[aK.sz]at hw;omega
 have na:w.queue.length<=8388608:=by simp only[aK.sz]at hw;omega
 cases h1:ej g with
 | false=>
  rw[h1]at k;rw[show e0 g w=(w,false) by unfold e0;simp[h1]];exact aw3 ⟨cF,k,rfl,aa⟩
 | true=>
 rw[h1]at k;cases U:fb g w with
 | false=>
  rw[U]at kw;rw[show e0 g w=(w,false) by unfold e0;simp[U]];exact aw4 ⟨cF,k,rfl,kw,rfl,aa⟩
 | true=>
 rw[U]at kw;have hu:e0 g w=match w.b9,w.queue with
  | [],r::q=>(⟨q,(du g w.cells r).2.1,w.bM,(du g w.cells r).1,w.bB,w.bN,(if cr g r then w.bk.set r.bl.ba.toNat true else w.bk),w.b0⟩,true)
  | _,_=>(w,false):=by unfold e0;rw[h1,U];rfl
 cases aA:w.b9 with
 | cons r q=>
  rw[show e0 g w=(w,false) by rw[hu,aA]];exact aw5 ⟨cF,k,rfl,kw,rfl,uy aA,aa⟩
 | nil=>
 cases aJ:w.queue with
 | nil=>
  rw[show e0 g w=(w,false) by rw[hu,aA,aJ]];exact ayw ⟨cF,k,rfl,kw,rfl,jP aA,rJ aJ,aa⟩
 | cons r q=>
  have st:=W8 g w.cells r ay ps;have om:=W9 g r ay;obtain⟨cA,_,_,_,_,_,k0,_⟩:=iB.1 U;rw[aJ,qI]at cA;have he:=r7 cA.1;obtain⟨c1,c2⟩:=sw k0 he;cases a7:cr g r with
  | true=>
   rw[a7]at om;rw[show e0 g w=(⟨q,(du g w.cells r).2.1,w.bM,(du g w.cells r).1,w.bB,w.bN,w.bk.set r.bl.ba.toNat true,w.b0⟩,true) by rw[hu,aA,aJ];simp only[a7,gy]];have e:aK.e ⟨q,(du g w.cells r).2.1,w.bM,(du g w.cells r).1,w.bB,w.bN,w.bk.set r.bl.ba.toNat true,w.b0⟩=[.J 5 ([]++((w.queue.map az.e).drop 1).take ((w.queue.map az.e).length-1)),.J 5 ((du g w.cells r).2.1.map az.e),.J 5 (w.bM.map az.e),.J 4 ((du g w.cells r).1.map Cell.e),.J 1 (w.bB.map bd),.J 1 (w.bN.map cG),.J 1 ((w.bk.map cG).set r.bl.ba.toNat [B true]),.J 2 (w.b0.map cS.e)]:=by
    rw[uI aJ];simp only[aK.e,hL];rfl
   dsimp only;rw[e];exact ayx ⟨cF,k,rfl,kw,rfl,jP aA,lM aJ,by decide,mH aJ,nu aJ,st,nL,nM aJ,nN,s8 aJ na,s9 aJ na,s' aJ,om,rfl,he.1,c1,c2,aa⟩
  | false=>
   rw[a7]at om;rw[show e0 g w=(⟨q,(du g w.cells r).2.1,w.bM,(du g w.cells r).1,w.bB,w.bN,w.bk,w.b0⟩,true) by rw[hu,aA,aJ];simp only[a7];rfl];have e:aK.e ⟨q,(du g w.cells r).2.1,w.bM,(du g w.cells r).1,w.bB,w.bN,w.bk,w.b0⟩=[.J 5 ([]++((w.queue.map az.e).drop 1).take ((w.queue.map az.e).length-1)),.J 5 ((du g w.cells r).2.1.map az.e),.J 5 (w.bM.map az.e),.J 4 ((du g w.cells r).1.map Cell.e),.J 1 (w.bB.map bd),.J 1 (w.bN.map cG),.J 1 (w.bk.map cG),.J 2 (w.b0.map cS.e)]:=by
    rw[uI aJ];rfl
   dsimp only;rw[e];exact ayy ⟨cF,k,rfl,kw,rfl,jP aA,lM aJ,by decide,mH aJ,nu aJ,st,nL,nM aJ,nN,s8 aJ na,s9 aJ na,s' aJ,om,rfl,aa⟩
theorem au7(g:bX)(w:aK)(ay:g.sz<=8388608)(hw:w.sz<=8388608):ar 152 [.agg g.e,.agg w.e] [.agg (e3 g w).1.e,.one (B (e3 g w).2)]:=by
 have cF:=As w hw;have k:=Ab g ay;have kw:=H0 g w ay hw;have aH:w.queue.length<=8388608:=by simp only[aK.sz]at hw;omega
 have kv:w.bM.length<=8388608:=by simp only[aK.sz]at hw;omega
 cases h1:ej g with
 | false=>
  rw[h1]at k;rw[show e3 g w=(w,false) by unfold e3;simp[h1]];exact awX ⟨cF,k,rfl,aa⟩
 | true=>
 rw[h1]at k;cases U:fb g w with
 | false=>
  rw[U]at kw;rw[show e3 g w=(w,false) by unfold e3;simp[U]];exact awY ⟨cF,k,rfl,kw,rfl,aa⟩
 | true=>
 rw[U]at kw;have hu:e3 g w=match w.b9,w.queue,w.bM with
  | [],[],r::t=>(⟨[r],[],t,w.cells,w.bB,w.bN,w.bk,w.b0⟩,true)
  | _,_,_=>(w,false):=by unfold e3;rw[h1,U];rfl
 cases aA:w.b9 with
 | cons r q=>
  rw[show e3 g w=(w,false) by rw[hu,aA]];exact awZ ⟨cF,k,rfl,kw,rfl,uy aA,aa⟩
 | nil=>
 cases aJ:w.queue with
 | cons r q=>
  rw[show e3 g w=(w,false) by rw[hu,aA,aJ]];exact aw0 ⟨cF,k,rfl,kw,rfl,jP aA,uy aJ,aa⟩
 | nil=>
 cases a7:w.bM with
 | nil=>
  rw[show e3 g w=(w,false) by rw[hu,aA,aJ,a7]];exact aw1 ⟨cF,k,rfl,kw,rfl,jP aA,jP aJ,rJ a7,aa⟩
 | cons r t=>
  rw[show e3 g w=(⟨[r],[],t,w.cells,w.bB,w.bN,w.bk,w.b0⟩,true) by rw[hu,aA,aJ,a7]];have e:aK.e ⟨[r],[],t,w.cells,w.bB,w.bN,w.bk,w.b0⟩=[.J 5 (w.queue.map az.e++[r.e]),.J 5 (w.b9.map az.e),.J 5 ([]++((w.bM.map az.e).drop 1).take ((w.bM.map az.e).length-1)),.J 4 (w.cells.map Cell.e),.J 1 (w.bB.map bd),.J 1 (w.bN.map cG),.J 1 (w.bk.map cG),.J 2 (w.b0.map cS.e)]:=by
   rw[uI a7,aJ,aA];rfl
  dsimp only;rw[e];exact aw2 ⟨cF,k,rfl,kw,rfl,jP aA,jP aJ,lM a7,by decide,mH a7,nu a7,vK aH,vL aH,gb (az.flat r),nL,nM a7,nN,s8 a7 kv,s9 a7 kv,s' a7,aa⟩
end Go.Proofs.YthfnndblgbjniaaGreat
namespace Go.Proofs.YthfnndblgbjniaaGreat
open Go.Sx Go.RowKit Go.Proofs.Tryz
theorem Zt(l:bj)(r:az):(eh l r).1.cap=l.cap:=by grind[eh]
theorem Zu(l:bj):(dH l).1.cap=l.cap:=by
 grind[dH]
theorem Zv(l:bj):(fQ l).1.cap=l.cap:=by grind[fQ]
structure jF (c:aO):Prop where
 tok:c.tokens.length=4
 Cq:1<=c.bn.length
 cap:∀l∈c.bn,1<=l.cap/\l.cap<=4
theorem jF.dd{c:aO}{i:Int}{l m:bj}(h:jF c)(al:eF c i=some l)(hm:m.cap=l.cap):jF (dd c i m):=by
 refine⟨h.tok,by change 1<=(c.bn.set i.toNat m).length;rw[ho];exact h.Cq,fun x ag=>?_⟩;rcases iD ag with ag | rfl
 ·exact h.cap x ag
 rw[hm];exact h.cap l (cD (iK al).2.2)
theorem jF.setW{c:aO}{i:Int}{x:aK}(h:jF c):jF (setW c i x):=⟨h.tok,h.Cq,h.cap⟩
variable{c:aO}
theorem jF.gg{n:List bT}(h:jF c):jF (gg c n):=⟨h.tok,h.Cq,h.cap⟩
theorem jF.cL{i:Int}{t:bQ}(h:jF c):jF (cL c i t):=⟨by change (c.tokens.set i.toNat t).length=4;rw[ho];exact h.tok,h.Cq,h.cap⟩
theorem Step.D7{d:aO}{p:b7}(st:Step c p d)(h:jF c):jF d:=by
 cases st with
 | work x r q hk ag ao aH=>exact h.setW
 | input x r t hk ag ao aH hi=>exact h.setW
 | e9 x r t hk ag ao a8=>exact h.setW
 | send x r t l hk ag ao a8 al hsend=>exact (h.dd al (Zt l r)).setW
 | take l x hk ec al ag bK=>exact (h.dd al (Zu l)).setW
 | qc l hk ec al ai=>exact h.dd al (Zv l)
 | token t x cE hk aFK bJ aE bK ag rq=>
  rcases pZ c p.a t x with⟨_,k⟩ | ⟨_,_,⟨_,k⟩ | ⟨_,_,k⟩ | ⟨_,_,_,k⟩ | ⟨_,_,_,k⟩⟩<;>rw[k]
  ·exact h
  ·exact h.cL.setW
  ·exact h.cL.setW
  ·exact h.cL.setW.gg
  exact h.cL
 | qo k n x hk aW aE ag=>exact h.setW.gg
theorem au8(h:jF c)(p:b7):jF (cX c p).1:=by
 rcases v8 c p with⟨_,k⟩ | ⟨_,_,st⟩
 ·grind
 exact st.D7 h
theorem P1:∀(l:List b7) {c:aO},jF c->jF (dg c l).1
 | [],_,h=>h
 | p::l,_,h=>P1 l (au8 h p)
theorem Zw:∀(n:Nat) {c:aO} (k:Nat),jF c->jF (gK n c k).1
 | 0,_,_,h=>h
 | n+1,c,k,h=>by
  have h1:jF (jf c).1:=P1 (fB c) h;unfold gK;split
  ·exact h1
  exact Zw n (k+1) h1
theorem Zx(n:Int):1<=gd n 1 4/\gd n 1 4<=4:=by
 grind[gd]
theorem au9{g:bX}{xs:List az}(h:l9 g xs=true):jF (eL g xs):=by
 have aW:=iz (AW.1 h).1;refine⟨by simp[eL],?_,fun l al=>?_⟩
 ·unfold eL;rw[List.length_replicate];exact Nat.mul_pos (by omega) (by omega)
 rw[List.eq_of_mem_replicate al];exact Zx g.cap
structure acK (x:aO):Prop where
 au:la x.au
 D7:jF x
 db:fE x
 sz:x.sz<=8000
 qX:x.aq.length=x.au.aq.toNat
theorem ava(b:List Int)(c:dY)(ai:c.ok b):∃(d:dY) (x:aO),d.ok b/\acK x/\b4 prog 53 [.cur (c.e b) (d.e b)] (.vals [.agg x.e]):=by
 obtain⟨d1,g,cy,ay,bC⟩:=Oj b c ai;obtain⟨d2,xs,ci,gY,gN,b2⟩:=Oi b d1 cy;obtain⟨d3,cz,cI,sZ,_,cg⟩:=UO b d2 40 (by omega) ci;obtain⟨d4,f,fs,eG⟩:=AS b d3 4 cI (by omega);have aW:=GR ay (by omega) gN;have ao:=ay.size;have bb:=Z9 aW;have nw:=Pv g xs (by omega);rw[HI aW]at nw;have db:=Pw g xs;have hY:=YN (eL g xs) cz (by omega) db;have qy:=DN cz (eL g xs);have LA:=DO cz (eL g xs);have aaF:=P1 cz (au9 aW);have ui:(eL g xs).aq.length=g.aq.toNat:=z1 g xs _;have adP:(eL g xs).au=g:=rfl;have cA:=LA.au;have bm:=LA.db db;have eK:=LA.qX;rw[adP]at cA;rw[ui]at eK;generalize dg (eL g xs) cz=o at*;cases f with
 | false=>exact⟨d4,o.1,fs,⟨by grind,aaF,bm,by omega,by grind⟩,XT ⟨bC,b2,nw,Ie ⟨cg,hY,aa⟩,eG,rfl,aa⟩⟩
 | true=>
  obtain⟨d5,n,rO,aeq,km⟩:=ei b d4 12 fs (by omega);have cY:=Qc o.1 n (by omega) bm;have aw:(gd n 0 3000).toNat<=11:=by
   grind[gd]
  have S6:=Il (gd n 0 3000).toNat o.1 0;have Lx:=Im (gd n 0 3000).toNat o.1 0;have f1:(lr o.1 n).1.au=g:=Lx.au.trans cA;have f2:fE (lr o.1 n).1:=Lx.db bm;have f3:(lr o.1 n).1.aq.length=g.aq.toNat:=Lx.qX.trans eK;have f4:(lr o.1 n).1.sz<=8000:=by grind[lr]
  have f5:jF (lr o.1 n).1:=Zw _ 0 aaF;exact⟨d5,(lr o.1 n).1,rO,⟨by grind,f5,f2,f4,by grind⟩,XS ⟨bC,b2,nw,Ie ⟨cg,hY,aa⟩,eG,rfl,XR ⟨km,cY,aa⟩,aa⟩⟩
structure EY (n:Nat) (l:bj):Prop where
 sz:l.sz<=n
 cap:1<=l.cap/\l.cap<=4
 db:l.db<=9223372036854775807
theorem Ig(b:List Int):∀(n i:Nat) (l:bj) (c:dY),i+n=8->c.ok b->EY i l->
  ∃(m:bj) (d:dY),d.ok b/\EY 8 m/\c8 prog (ap f110 0) (uH (b.map h6) i l.cap (l.queue.map az.e) l.eb l.back l.ek l.db 0 0 0 0 0 c.i c.h) (.exit 0) (OV (b.map h6) m.cap (m.queue.map az.e) m.eb m.back m.ek m.db 0 0 0 0 0 d.i d.h)
 | n,i,l,c,iU,ai,al=>by
  obtain⟨d1,m,cy,aw,bC⟩:=ei b c 9 ai (by omega);have bb:=al.sz;by_cases h:(i:Int)<m
  ·match n with
   | 0=>omega
   | n+1=>
    obtain⟨d2,k,ci,hk,b2⟩:=ei b d1 4 cy (by omega);by_cases bE:k=0
    ·have z:=YM l;obtain⟨kh,d,o,eH,e4⟩:=Ig b n (i+1) (dH l).1 d2 (by omega) ci ⟨by omega,by rw[Zu];exact al.cap,X2 l al.db⟩;exact⟨kh,d,o,eH,.more (auP ⟨bC,k' h,b2,by simp[bE],Y2 l (by omega),⟨by omega,by omega⟩,aa⟩) e4⟩
    by_cases e1:k=1
    ·have z:=XY l;obtain⟨kh,d,o,eH,e4⟩:=Ig b n (i+1) (fQ l).1 d2 (by omega) ci ⟨by omega,by rw[Zv];exact al.cap,X1 l al.db⟩;exact⟨kh,d,o,eH,.more (auQ ⟨bC,k' h,b2,by simp[bE],by simp[e1],Y3 l (by omega),⟨by omega,by omega⟩,aa⟩) e4⟩
    obtain⟨d3,r,cI,aC,cg⟩:=GU b d2 ci;have z:=YL l r;obtain⟨kh,d,o,eH,e4⟩:=Ig b n (i+1) (eh l r).1 d3 (by omega) cI ⟨by omega,by rw[Zt];exact al.cap,X0 l r al.db⟩;exact⟨kh,d,o,eH,.more (auS ⟨bC,k' h,b2,by simp[bE],by simp[e1],auR ⟨cg,Y1 l r (by omega),aa⟩,⟨by omega,by omega⟩,aa⟩) e4⟩
  exact⟨l,d1,cy,⟨by omega,al.cap,al.db⟩,.last (cn 0) (auT ⟨bC,o8 h,aa⟩)⟩
theorem avb(b:List Int)(c:dY)(ai:c.ok b):∃(d:dY) (l:bj),d.ok b/\EY 8 l/\b4 prog 110 [.cur (c.e b) (d.e b)] (.vals [.agg l.e]):=by
 obtain⟨d1,n,cy,aW,bC⟩:=ei b c 4 ai (by omega);obtain⟨l,d,o,eH,e4⟩:=Ig b 8 0 (k7 (1+n)) d1 rfl cy ⟨by simp[k7,bj.sz],Zx _,by simp[k7]⟩;exact⟨d,l,o,eH,auU ⟨bC,⟨by omega,by omega⟩,Z7 (1+n),e4,aa⟩⟩
theorem avc(b:List Int)(c:dY)(ai:c.ok b):∃(d:dY) (l:bj),d.ok b/\EY 9 l/\b4 prog 63 [.cur (c.e b) (d.e b)] (.vals [.agg l.e]):=by
 obtain⟨d1,l,cy,⟨bb,ff,vA⟩,bC⟩:=avb b c ai;obtain⟨d2,k,ci,hk,b2⟩:=ei b d1 14 cy (by omega);have na:l.queue.length<=8:=bb;by_cases bE:k=0
 ·obtain⟨d3,v,cI,bF,cg⟩:=ei b d2 6 ci (by omega);exact⟨d3,⟨l.cap,l.queue,v-1,l.back,l.ek,l.db⟩,cI,⟨Nat.le_succ_of_le bb,ff,vA⟩,auV ⟨bC,b2,by simp[bE],cg,⟨by omega,by omega⟩,aa⟩⟩
 by_cases e1:k=1
 ·obtain⟨d3,v,cI,bF,cg⟩:=ei b d2 6 ci (by omega);exact⟨d3,⟨l.cap,l.queue,l.eb,v-1,l.ek,l.db⟩,cI,⟨Nat.le_succ_of_le bb,ff,vA⟩,at6 ⟨bC,b2,by simp[bE],by simp[e1],cg,⟨by omega,by omega⟩,aa⟩⟩
 by_cases e2:k=2
 ·obtain⟨d3,v,cI,bF,cg⟩:=ni b d2 [-1,0,1000000000,1000000001] ci (by simp);exact⟨d3,⟨l.cap,l.queue,l.eb,l.back,v,l.db⟩,cI,⟨Nat.le_succ_of_le bb,ff,vA⟩,at7 ⟨bC,b2,by simp[bE],by simp[e1],by simp[e2],cg,aa⟩⟩
 by_cases ch:k=3
 ·obtain⟨d3,r,cI,aC,cg⟩:=UQ b d2 ci;have:=at9 ⟨bC,b2,by simp[bE],by simp[e1],by simp[e2],by simp[ch],at8 ⟨cg,by simp;omega,by simp;omega,JQ r,aa⟩,aa⟩;refine⟨d3,⟨l.cap,l.queue++[r],l.eb,l.back,l.ek,l.db⟩,cI,⟨by grind[bj.sz],ff,vA⟩,?_⟩;unfold bj.e;dsimp only;rw[gi];exact this
 by_cases dS:k=4
 ·have uc:((l.queue.map az.e).length:Int)=l.queue.length:=by simp
  have:=aua ⟨bC,b2,by simp[bE],by simp[e1],by simp[e2],by simp[ch],by simp[dS],⟨by omega,by omega⟩,aa⟩;rw[uc]at this;exact⟨d2,⟨l.cap,l.queue,l.eb,l.back,1000000000,1000000000-(l.queue.length:Int)⟩,ci,⟨Nat.le_succ_of_le bb,ff,by grind⟩,this⟩
 exact⟨d2,l,ci,⟨by omega,ff,vA⟩,aub ⟨bC,b2,by simp[bE],by simp[e1],by simp[e2],by simp[ch],by simp[dS],aa⟩⟩
