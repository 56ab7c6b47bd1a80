import Derived.Test.YtdchjefneblpgaaGreatP61
import Derived.Test.YtdchjefneblpgaaGreatG3
import Derived.Test.YtdchjefneblpgaaGreatP72
import Derived.Test.YtdchjefneblpgaaGreatG4
set_option linter.unusedVariables false
set_option linter.unusedSimpArgs false
namespace Go.Proofs.YtdchjefneblpgaaGreat
open Go.Sx Go.RowKit Go.Proofs.Tryz
theorem Ol{v:Int}:Flat [[I v]]:=A' [v]
theorem Du(b:List Int)(k a e:Int):∀(n i:Nat) (xs:List Int) (c:dW),i+n=2->c.ok b->xs.length<=i->
  ∃(ys:List Int) (d:dW),d.ok b/\ys.length<=2/\c8 prog (ap f319 0) (vx (b.map hY) i k a e (xs.map bc) 0 0 0 c.i c.h) (.exit 1) (zW (b.map hY) k a e (ys.map bc) 0 0 0 d.i d.h)
 | n,i,xs,c,iI,ak,al=>by
  obtain⟨d1,m,cC,aw,bx⟩:=ek b c 3 ak (by omega);by_cases h:(i:Int)<m
  ·match n with
   | 0=>omega
   | n+1=>
    obtain⟨d2,v,cg,bI,b0⟩:=ek b d1 2 cC (by omega);obtain⟨ys,d,o,eB,l⟩:=Du b k a e n (i+1) (xs++[1+(i:Int)*2+v]) d2 (by omega) cg (by simp;omega);refine⟨ys,d,o,eB,.more (aqM ⟨bx,lg h,aqL ⟨⟨by omega,by omega⟩,⟨by omega,by omega⟩,b0,⟨by omega,by omega⟩,by simp;omega,by simp;omega,Ol,aa⟩,⟨by omega,by omega⟩,aa⟩) ?_⟩;rw[gi]at l;exact l
  exact⟨xs,d1,cC,by omega,.last (cn 1) (aqN ⟨bx,oL h,aa⟩)⟩
theorem arW(b:List Int)(c:dW)(ak:c.ok b):∃(d:dW) (x:Node),d.ok b/\x.outs.length<=2/\b2 prog 319 [.cur (c.e b) (d.e b)] (.vals [.agg x.e]):=by
 obtain⟨d1,n,cC,aZ,bx⟩:=ek b c 8 ak (by omega);have i1:aL .i64 (1+n):=⟨by omega,by omega⟩
 by_cases e1:n=1
 ·obtain⟨d2,v,cg,bI,b0⟩:=mu b d1 [0,1,3,10,999] cC (by simp);obtain⟨ys,d,o,eB,l⟩:=Du b (1+n) v 0 2 0 [] d2 rfl cg (by simp);exact⟨d,⟨1+n,v,0,ys⟩,o,eB,aqO ⟨bx,i1,by simp[e1],b0,by simp[e1],l,aa⟩⟩
 by_cases e2:n=2
 ·obtain⟨d2,v,cg,bI,b0⟩:=ek b d1 4 cC (by omega);obtain⟨d3,u,cL,hu,ci⟩:=ek b d2 (1+v) cg (by omega);obtain⟨ys,d,o,eB,l⟩:=Du b (1+n) (1+v) u 2 0 [] d3 rfl cL (by simp);exact⟨d,⟨1+n,1+v,u,ys⟩,o,eB,aqP ⟨bx,i1,by simp[e2],by simp[e2],b0,⟨by omega,by omega⟩,ci,by simp[e2],l,aa⟩⟩
 by_cases cj:n=3
 ·obtain⟨d2,v,cg,bI,b0⟩:=mu b d1 [0,1,2,3,50,99] cC (by simp);obtain⟨ys,d,o,eB,l⟩:=Du b (1+n) v 0 2 0 [] d2 rfl cg (by simp);exact⟨d,⟨1+n,v,0,ys⟩,o,eB,aqQ ⟨bx,i1,by simp[cj],by simp[cj],by simp[cj],b0,by simp[cj],l,aa⟩⟩
 have f1:(1+n==2)=false:=by simp;omega
 have f2:(1+n==3)=false:=by simp;omega
 have f3:(1+n==4)=false:=by simp;omega
 by_cases p1:n=7
 ·exact⟨d1,⟨1+n,0,0,[]⟩,cC,by simp,aqS ⟨bx,i1,f1,f2,f3,by simp[p1],aa⟩⟩
 obtain⟨ys,d,o,eB,l⟩:=Du b (1+n) 0 0 2 0 [] d1 rfl cC (by simp);exact⟨d,⟨1+n,0,0,ys⟩,o,eB,aqR ⟨bx,i1,f1,f2,f3,by simp;omega,l,aa⟩⟩
theorem arX(b:List Int)(c:dW)(ak:c.ok b):∃(d:dW) (x:Node),d.ok b/\x.outs.length<=3/\b2 prog 252 [.cur (c.e b) (d.e b)] (.vals [.agg x.e]):=by
 obtain⟨d1,x,cC,af,bx⟩:=arW b c ak;obtain⟨d2,k,cg,hk,b0⟩:=ek b d1 12 cC (by omega);by_cases bE:k=0
 ·obtain⟨d3,v,cL,bI,ci⟩:=ek b d2 11 cg (by omega);exact⟨d3,⟨v-1,x.a,x.b,x.outs⟩,cL,by dsimp only;omega,aqT ⟨bx,b0,by simp[bE],ci,⟨by omega,by omega⟩,aa⟩⟩
 by_cases e1:k=1
 ·obtain⟨d3,v,cL,bI,ci⟩:=mu b d2 [-1,0,1000,100,11] cg (by simp);exact⟨d3,⟨x.kind,v,x.b,x.outs⟩,cL,by dsimp only;omega,aqU ⟨bx,b0,by simp[bE],by simp[e1],ci,aa⟩⟩
 by_cases e2:k=2
 ·obtain⟨d3,v,cL,bI,ci⟩:=mu b d2 [-1,1,3] cg (by simp);exact⟨d3,⟨x.kind,x.a,v,x.outs⟩,cL,by dsimp only;omega,aqV ⟨bx,b0,by simp[bE],by simp[e1],by simp[e2],ci,aa⟩⟩
 by_cases cj:k=3
 ·obtain⟨d3,v,cL,bI,ci⟩:=mu b d2 [1,7,8,-1] cg (by simp);have:=aqX ⟨bx,b0,by simp[bE],by simp[e1],by simp[e2],by simp[cj],aqW ⟨ci,by simp;omega,by simp;omega,Ol,aa⟩,aa⟩;refine⟨d3,⟨x.kind,x.a,x.b,x.outs++[v]⟩,cL,by simp;omega,?_⟩;unfold Node.e;dsimp only;rw[gi];exact this
 exact⟨d2,x,cg,by omega,aqY ⟨bx,b0,by simp[bE],by simp[e1],by simp[e2],by simp[cj],aa⟩⟩
theorem arY{α:Type}{sz:α->Nat}(xs ys:List α):fs sz (xs++ys)=fs sz xs+fs sz ys:=by
 unfold fs;simp;omega
theorem X3{α:Type}{sz:α->Nat}:∀(xs:List α) (n:Nat),fs sz (xs.take n)<=fs sz xs
 | [],n=>by simp
 | x::xs,0=>by simp[fs]
 | x::xs,n+1=>by
  have:=X3 (sz:=sz) xs n;unfold fs at*;simp only[List.take_succ_cons,gQ,lN,wx];omega
def X4:List D:=[I 8,I 0,I 0,.v (.slice none 0 0)]
def Dv:Node:=⟨8,0,0,[]⟩
theorem arZ:lj X4 Dv.e:=.cons (.refl _) (.cons (.refl _) (.cons (.refl _) (.cons (.nil 1) .nil)))
theorem X5:∀(xs:List Node),np (xs.map Node.e) (xs.map Node.e)
 | []=>.nil
 | x::xs=>.cons (lj.refl _) (X5 xs)
theorem X6:∀{es cD:List (List D)} {e e':List D},np es cD->lj e e'->np (es++[e]) (cD++[e'])
 | _,_,_,_,.nil,h=>.cons h .nil
 | _,_,_,_,.cons k t,h=>.cons k (X6 t h)
theorem X7:∀{es cD:List (List D)},np es cD->es.length=cD.length
 | _,_,.nil=>rfl
 | _,_,.cons _ t=>by simp[X7 t]
theorem X8(b:List Int)(w p:Int):∀(n:Nat) (xs:List Node) (es:List (List D)) (c:dW),np es (xs.map Node.e)->xs.length+n=9->fs Node.sz xs<=120-n->n<=9->c.ok b->
  ∃(ys:List Node) (eS:List (List D)) (d:dW),np eS (ys.map Node.e)/\fs Node.sz ys<=120/\d.ok b/\c8 prog (ap f137 0) (CS (b.map hY) es w p 0 0 c.i c.h) (.exit 1) (NZ (b.map hY) eS w p 0 0 d.i d.h)
 | n,xs,es,c,bF,aZ,ao,eu,ak=>by
  obtain⟨d1,m,cC,aw,bx⟩:=ek b c 2 ak (by omega);have al:=X7 bF;rw[ct]at al;by_cases h:(es.length:Int)<8+m
  ·match n with
   | 0=>omega
   | n+1=>
    obtain⟨ys,eS,d,eB,eV,o,l⟩:=X8 b w p n (xs++[Dv]) (es++[X4]) d1 (by
     rw[gi];exact X6 bF arZ) (by simp;omega) (by
     rw[arY];have:fs Node.sz [Dv]=1:=rfl;omega) (by omega) cC
    exact⟨ys,eS,d,eB,eV,o,.more (ahz ⟨VA ⟨bx,⟨by omega,by omega⟩,aa⟩,lg h,by simp;omega,by simp;omega,aa⟩) l⟩
  exact⟨xs,es,d1,bF,by omega,cC,.last (cn 1) (ahA ⟨VA ⟨bx,⟨by omega,by omega⟩,aa⟩,oL h,aa⟩)⟩
theorem kW.len{g:bV}(h:kW g):1<=g.nodes.length/\g.nodes.length<=8:=by
 have:=h.ok;simp only[eh,av,cw,ck]at this;omega
theorem ar0(b:List Int)(c:dW)(ak:c.ok b):∃(d:dW) (g:bV),d.ok b/\(g.sz<=120/\-1<=g.ar/\g.ar<=5)/\b2 prog 137 [.cur (c.e b) (d.e b)] (.vals [.agg g.e]):=by
 obtain⟨d1,g,cC,ax,bx⟩:=Ng b c ak;have ao:=ax.size;have al:=ax.len;have acA:=ax.ar;have zd:((g.nodes.map Node.e).length:Int)=g.nodes.length:=by simp
 obtain⟨d2,k,cg,hk,b0⟩:=ek b d1 (g.nodes.length:Int) cC (by omega);rw[<-zd]at b0;obtain⟨d3,m,cL,hm,ci⟩:=ek b d2 12 cg (by omega);obtain⟨y,bD⟩:=c4 (xs:=g.nodes) (i:=k.toNat) (by omega);have oj:(g.nodes.map Node.e)[k.toNat]?=some y.e:=by rw[dK,bD];rfl
 have zb:k<((g.nodes.map Node.e).length:Int):=by omega
 have fV:∀x:Node,x.sz<=y.sz+3->(⟨g.nodes.set k.toNat x,g.ar,g.cap⟩:bV).sz<=120:=fun x af=>by
  have:=xJ (sz:=Node.sz) x bD;unfold bV.sz at ao ⊢;dsimp only;omega
 by_cases bE:m=0
 ·obtain⟨d4,x,fo,af,eA⟩:=arX b d3 cL;have:=ahu ⟨bx,b0,ci,by simp[bE],aik ⟨eA,hk.1,zb,oj,aa⟩,aa⟩;refine⟨d4,⟨g.nodes.set k.toNat x,g.ar,g.cap⟩,fo,⟨fV x (by unfold Node.sz;omega),by dsimp only;omega,by dsimp only;omega⟩,?_⟩;unfold bV.e;dsimp only;rw[hE];exact this
 by_cases e1:m=1
 ·obtain⟨d4,v,fo,bI,eA⟩:=mu b d3 [0,4,5,-1] cL (by simp);simp only[eH,pW,or_false]at bI;exact⟨d4,⟨g.nodes,v,g.cap⟩,fo,⟨by unfold bV.sz at ao ⊢;dsimp only;omega,by dsimp only;omega,by dsimp only;omega⟩,ahv ⟨bx,b0,ci,by simp[bE],by simp[e1],eA,aa⟩⟩
 by_cases e2:m=2
 ·obtain⟨d4,v,fo,bI,eA⟩:=mu b d3 [0,4,5,-1] cL (by simp);exact⟨d4,⟨g.nodes,g.ar,v⟩,fo,⟨by unfold bV.sz at ao ⊢;dsimp only;omega,by dsimp only;omega,by dsimp only;omega⟩,ahw ⟨bx,b0,ci,by simp[bE],by simp[e1],by simp[e2],eA,aa⟩⟩
 by_cases cj:m=3
 ·obtain⟨d4,v,fo,bI,eA⟩:=ek b d3 9 cL (by omega);have RV:y.outs.length<=100:=by
   have:=xJ (sz:=Node.sz) Dv bD;have bd:Node.sz Dv=0:=rfl;have:y.sz<=100:=by unfold bV.sz at ao;omega
   exact this
  have:=ahy ⟨bx,b0,ci,by simp[bE],by simp[e1],by simp[e2],by simp[cj],ahx ⟨hk.1,zb,oj,eA,⟨by omega,by omega⟩,by simp;omega,by simp;omega,oj,rfl,rfl,Ol,hk.1,zb,oj,rfl,aa⟩,aa⟩;refine⟨d4,⟨g.nodes.set k.toNat ⟨y.kind,y.a,y.b,y.outs++[v-1]⟩,g.ar,g.cap⟩,fo,⟨fV _ (by unfold Node.sz;simp),by dsimp only;omega,by dsimp only;omega⟩,?_⟩;unfold bV.e;dsimp only;rw[hE];unfold Node.e;dsimp only;rw[gi];exact this
 by_cases d':m=4
 ·obtain⟨ys,eS,d,eB,eV,o,l⟩:=X8 b g.ar g.cap (9-g.nodes.length) g.nodes (g.nodes.map Node.e) d3 (X5 _) (by omega) (by unfold bV.sz at ao;omega) (by omega) cL;have:=ahB ⟨bx,b0,ci,by simp[bE],by simp[e1],by simp[e2],by simp[cj],by simp[d'],l,aa⟩;exact⟨d,⟨ys,g.ar,g.cap⟩,o,⟨eV,by dsimp only;omega,by dsimp only;omega⟩,this.fit (.cons (.agg (.cons (.J 4 eB) (lj.refl _))) .nil)⟩
 by_cases hj:m=5
 ·have:=ahC ⟨bx,b0,ci,by simp[bE],by simp[e1],by simp[e2],by simp[cj],by simp[d'],by simp[hj],by decide,hk.1,by change k<=_;omega,aa⟩;refine⟨d3,⟨g.nodes.take k.toNat,g.ar,g.cap⟩,cL,⟨?_,by dsimp only;omega,by dsimp only;omega⟩,?_⟩
  ·have:=X3 (sz:=Node.sz) g.nodes k.toNat;unfold bV.sz at ao ⊢;dsimp only;omega
  unfold bV.e;dsimp only;rw[qJ];exact this
 exact⟨d3,g,cL,⟨by omega,by omega,by omega⟩,ahD ⟨bx,b0,ci,by simp[bE],by simp[e1],by simp[e2],by simp[cj],by simp[d'],by simp[hj],aa⟩⟩
end Go.Proofs.YtdchjefneblpgaaGreat
namespace Go.Proofs.YtdchjefneblpgaaGreat
open Go.Sx Go.RowKit Go.Proofs.Tryz
theorem ar1(w:aK)(r:az)(hw:w.sz<=8388608):aq 376 [.agg w.e,.agg r.e] [.agg (kept w r).e]:=by
 have aH:w.queue.length<=8388608:=by simp only[aK.sz]at hw;omega
 rw[Dx];exact afI ⟨Av w hw,vk aH,vl aH,fE (az.flat r),aa⟩
theorem ar2(w:aK)(r:az)(hw:w.sz<=8388608)(aJ:w.bB.length=4)(aw:w.bL.length=4)(he:0<=r.bi.a8/\r.bi.a8<=3)(ao:-1000000<=w.bB.getD r.bi.a8.toNat 0/\w.bB.getD r.bi.a8.toNat 0<=1000000):
  aq 349 [.agg w.e,.agg r.e] [.agg (h8 w r).e]:=by
 have k:=ar1 w r hw;rw[Dx]at k;rw[Xf];obtain⟨s1,s2⟩:=zq aJ he;obtain⟨fb,fY⟩:=r9 aw he;have BB:(↑(w.bB.map bc).length:Int)-1=3:=by rw[ct,aJ];rfl
 exact afJ ⟨k,⟨by rw[BB];omega,by rw[BB];omega⟩,gg _ _ _ true (by rw[BB];simp only[av,ck];omega),rfl,dh fb,he.1,s1,s2,⟨by omega,by omega⟩,he.1,s1,s2,he.1,fb,fY,aa⟩
theorem ar3(w:aK)(r:az)(t:List az)(hw:w.sz<=8388608)(h:w.b8=r::t):aq 351 [.agg w.e] [.agg (hP w t).e,.agg r.e,.one (B true)]:=by
 have al:w.b8.length<=8388608:=by simp only[aK.sz]at hw;omega
 have e:(hP w t).e=[.J 5 (w.queue.map az.e),.J 5 ([]++((w.b8.map az.e).drop 1).take ((w.b8.map az.e).length-1)),.J 5 (w.bR.map az.e),.J 4 (w.cells.map Cell.e),.J 1 (w.bB.map bc),.J 1 (w.bL.map cv),.J 1 (w.bj.map cv),.J 2 (w.bZ.map cx.e)]:=by rw[uu h];rfl
 rw[e];exact afH ⟨Av w hw,ly h,by decide,mw h,nf h,nt,nu h,nv,sF h al,sG h al,sH h,aa⟩
theorem aru(w:aK)(hw:w.sz<=8388608)(h:w.b8=[]):aq 351 [.agg w.e] [.agg w.e,.agg (⟨0,⟨0,0⟩,0,0⟩:az).e,.one (B false)]:=
 afG ⟨Av w hw,rm h,aa⟩
theorem arv(g:bV)(w:aK)(ax:g.sz<=8388608)(hw:w.sz<=8388608):aq 48 [.agg g.e,.agg w.e] [.agg (eX g w).1.e,.one (B (eX g w).2)]:=by
 have cF:=Av w hw;have k:=Az g ax;have kw:=GV g w ax hw;have q5:w.cells.length<=8388608:=by simp only[aK.sz]at hw;omega
 have mT:w.queue.length<=8388608:=by simp only[aK.sz]at hw;omega
 cases h1:eh g with
 | false=>
  rw[h1]at k;rw[show eX g w=(w,false) by unfold eX;simp[h1]];exact afQ ⟨cF,k,rfl,aa⟩
 | true=>
 rw[h1]at k;cases U:e6 g w with
 | false=>
  rw[U]at kw;rw[show eX g w=(w,false) by unfold eX;simp[U]];exact afR ⟨cF,k,rfl,kw,rfl,aa⟩
 | true=>
 rw[U]at kw;have hu:eX g w=match w.b8,w.queue with
  | [],r::q=>(⟨q,(dq g w.cells r).2.1,w.bR,(dq g w.cells r).1,w.bB,w.bL,(if cf g r then w.bj.set r.bi.a8.toNat true else w.bj),w.bZ⟩,true)
  | _,_=>(w,false):=by unfold eX;rw[h1,U];rfl
 cases aA:w.b8 with
 | cons r q=>
  rw[show eX g w=(w,false) by rw[hu,aA]];exact afS ⟨cF,k,rfl,kw,rfl,tW aA,aa⟩
 | nil=>
 cases aJ:w.queue with
 | nil=>
  rw[show eX g w=(w,false) by rw[hu,aA,aJ]];exact afj ⟨cF,k,rfl,kw,rfl,jB aA,rm aJ,aa⟩
 | cons r q=>
  have st:=WS g w.cells r ax q5;have n0:=WT g r ax;obtain⟨cS,_,_,_,_,_,k6,_⟩:=ik.1 U;rw[aJ,qx]at cS;have he:=rO cS.1;obtain⟨c1,c2⟩:=r9 k6 he;cases a':cf g r with
  | true=>
   rw[a']at n0;rw[show eX g w=(⟨q,(dq g w.cells r).2.1,w.bR,(dq g w.cells r).1,w.bB,w.bL,w.bj.set r.bi.a8.toNat true,w.bZ⟩,true) by rw[hu,aA,aJ];simp only[a',gj]];have e:aK.e ⟨q,(dq g w.cells r).2.1,w.bR,(dq g w.cells r).1,w.bB,w.bL,w.bj.set r.bi.a8.toNat true,w.bZ⟩=[.J 5 ([]++((w.queue.map az.e).drop 1).take ((w.queue.map az.e).length-1)),.J 5 ((dq g w.cells r).2.1.map az.e),.J 5 (w.bR.map az.e),.J 4 ((dq g w.cells r).1.map Cell.e),.J 1 (w.bB.map bc),.J 1 (w.bL.map cv),.J 1 ((w.bj.map cv).set r.bi.a8.toNat [B true]),.J 2 (w.bZ.map cx.e)]:=by
    rw[uu aJ];simp only[aK.e,hE];rfl
   dsimp only;rw[e];exact afk ⟨cF,k,rfl,kw,rfl,jB aA,ly aJ,by decide,mw aJ,nf aJ,st,nt,nu aJ,nv,sF aJ mT,sG aJ mT,sH aJ,n0,rfl,he.1,c1,c2,aa⟩
  | false=>
   rw[a']at n0;rw[show eX g w=(⟨q,(dq g w.cells r).2.1,w.bR,(dq g w.cells r).1,w.bB,w.bL,w.bj,w.bZ⟩,true) by rw[hu,aA,aJ];simp only[a'];rfl];have e:aK.e ⟨q,(dq g w.cells r).2.1,w.bR,(dq g w.cells r).1,w.bB,w.bL,w.bj,w.bZ⟩=[.J 5 ([]++((w.queue.map az.e).drop 1).take ((w.queue.map az.e).length-1)),.J 5 ((dq g w.cells r).2.1.map az.e),.J 5 (w.bR.map az.e),.J 4 ((dq g w.cells r).1.map Cell.e),.J 1 (w.bB.map bc),.J 1 (w.bL.map cv),.J 1 (w.bj.map cv),.J 2 (w.bZ.map cx.e)]:=by
    rw[uu aJ];rfl
   dsimp only;rw[e];exact afl ⟨cF,k,rfl,kw,rfl,jB aA,ly aJ,by decide,mw aJ,nf aJ,st,nt,nu aJ,nv,sF aJ mT,sG aJ mT,sH aJ,n0,rfl,aa⟩
theorem arw(g:bV)(w:aK)(ax:g.sz<=8388608)(hw:w.sz<=8388608):aq 348 [.agg g.e,.agg w.e] [.agg (eY g w).1.e,.one (B (eY g w).2)]:=by
 have cF:=Av w hw;have k:=Az g ax;have kw:=GV g w ax hw;have aH:w.queue.length<=8388608:=by simp only[aK.sz]at hw;omega
 have ki:w.bR.length<=8388608:=by simp only[aK.sz]at hw;omega
 cases h1:eh g with
 | false=>
  rw[h1]at k;rw[show eY g w=(w,false) by unfold eY;simp[h1]];exact afK ⟨cF,k,rfl,aa⟩
 | true=>
 rw[h1]at k;cases U:e6 g w with
 | false=>
  rw[U]at kw;rw[show eY g w=(w,false) by unfold eY;simp[U]];exact afL ⟨cF,k,rfl,kw,rfl,aa⟩
 | true=>
 rw[U]at kw;have hu:eY g w=match w.b8,w.queue,w.bR with
  | [],[],r::t=>(⟨[r],[],t,w.cells,w.bB,w.bL,w.bj,w.bZ⟩,true)
  | _,_,_=>(w,false):=by unfold eY;rw[h1,U];rfl
 cases aA:w.b8 with
 | cons r q=>
  rw[show eY g w=(w,false) by rw[hu,aA]];exact afM ⟨cF,k,rfl,kw,rfl,tW aA,aa⟩
 | nil=>
 cases aJ:w.queue with
 | cons r q=>
  rw[show eY g w=(w,false) by rw[hu,aA,aJ]];exact afN ⟨cF,k,rfl,kw,rfl,jB aA,tW aJ,aa⟩
 | nil=>
 cases a':w.bR with
 | nil=>
  rw[show eY g w=(w,false) by rw[hu,aA,aJ,a']];exact afO ⟨cF,k,rfl,kw,rfl,jB aA,jB aJ,rm a',aa⟩
 | cons r t=>
  rw[show eY g w=(⟨[r],[],t,w.cells,w.bB,w.bL,w.bj,w.bZ⟩,true) by rw[hu,aA,aJ,a']];have e:aK.e ⟨[r],[],t,w.cells,w.bB,w.bL,w.bj,w.bZ⟩=[.J 5 (w.queue.map az.e++[r.e]),.J 5 (w.b8.map az.e),.J 5 ([]++((w.bR.map az.e).drop 1).take ((w.bR.map az.e).length-1)),.J 4 (w.cells.map Cell.e),.J 1 (w.bB.map bc),.J 1 (w.bL.map cv),.J 1 (w.bj.map cv),.J 2 (w.bZ.map cx.e)]:=by
   rw[uu a',aJ,aA];rfl
  dsimp only;rw[e];exact afP ⟨cF,k,rfl,kw,rfl,jB aA,jB aJ,ly a',by decide,mw a',nf a',vk aH,vl aH,fE (az.flat r),nt,nu a',nv,sF a' ki,sG a' ki,sH a',aa⟩
end Go.Proofs.YtdchjefneblpgaaGreat
namespace Go.Proofs.YtdchjefneblpgaaGreat
open Go.Sx Go.RowKit Go.Proofs.Tryz
theorem X9(l:bm)(r:az):(ef l r).1.cap=l.cap:=by grind[ef]
theorem X'(l:bm):(dG l).1.cap=l.cap:=by
 grind[dG]
theorem Ya(l:bm):(fF l).1.cap=l.cap:=by grind[fF]
structure js (c:aT):Prop where
 tok:c.tokens.length=4
 B5:1<=c.bJ.length
 cap:∀l∈c.bJ,1<=l.cap/\l.cap<=4
theorem js.dc{c:aT}{i:Int}{l m:bm}(h:js c)(al:ez c i=some l)(hm:m.cap=l.cap):js (dc c i m):=by
 refine⟨h.tok,by change 1<=(c.bJ.set i.toNat m).length;rw[hc];exact h.B5,fun x af=>?_⟩;rcases iq af with af | rfl
 ·exact h.cap x af
 rw[hm];exact h.cap l (c9 (iA al).2.2)
theorem js.setW{c:aT}{i:Int}{x:aK}(h:js c):js (setW c i x):=⟨h.tok,h.B5,h.cap⟩
variable{c:aT}
theorem js.fV{n:List bT}(h:js c):js (fV c n):=⟨h.tok,h.B5,h.cap⟩
theorem js.cJ{i:Int}{t:bP}(h:js c):js (cJ c i t):=⟨by change (c.tokens.set i.toNat t).length=4;rw[hc];exact h.tok,h.B5,h.cap⟩
theorem Step.DM{d:aT}{p:b'}(st:Step c p d)(h:js c):js d:=by
 cases st with
 | work x r q hk af ao aH=>exact h.setW
 | input x r t hk af ao aH hi=>exact h.setW
 | e3 x r t hk af ao a7=>exact h.setW
 | send x r t l hk af ao a7 al hsend=>exact (h.dc al (X9 l r)).setW
 | take l x hk eb al af bG=>exact (h.dc al (X' l)).setW
 | p0 l hk eb al ak=>exact h.dc al (Ya l)
 | token t x cE hk aDc bO aE bG af q6=>
  rcases pB c p.a t x with⟨_,k⟩ | ⟨_,_,⟨_,k⟩ | ⟨_,_,k⟩ | ⟨_,_,_,k⟩ | ⟨_,_,_,k⟩⟩<;>rw[k]
  ·exact h
  ·exact h.cJ.setW
  ·exact h.cJ.setW
  ·exact h.cJ.setW.fV
  exact h.cJ
 | p' k n x hk aZ aE af=>exact h.setW.fV
theorem arx(h:js c)(p:b'):js (cY c p).1:=by
 rcases wa c p with⟨_,k⟩ | ⟨_,_,st⟩
 ·grind
 exact st.DM h
theorem Om:∀(l:List b') {c:aT},js c->js (cU c l).1
 | [],_,h=>h
 | p::l,_,h=>Om l (arx h p)
theorem Yb:∀(n:Nat) {c:aT} (k:Nat),js c->js (eG n c k).1
 | 0,_,_,h=>h
 | n+1,c,k,h=>by
  have h1:js (gG c).1:=Om (ff c) h;unfold eG;split
  ·exact h1
  exact Yb n (k+1) h1
theorem Yc(n:Int):1<=fT n 1 4/\fT n 1 4<=4:=by
 grind[fT]
theorem ary{g:bV}{xs:List az}(h:mo g xs=true):js (eP g xs):=by
 have aZ:=iR (Aa.1 h).1;refine⟨by simp[eP],?_,fun l al=>?_⟩
 ·unfold eP;rw[List.length_replicate];exact Nat.mul_pos (by omega) (by omega)
 rw[List.eq_of_mem_replicate al];exact Yc g.cap
structure abq (x:aT):Prop where
 ay:kW x.ay
 DM:js x
 cW:fa x
 sz:x.sz<=8000
 wj:x.ar.length=x.ay.ar.toNat
theorem arz(b:List Int)(c:dW)(ak:c.ok b):∃(d:dW) (x:aT),d.ok b/\abq x/\b2 prog 166 [.cur (c.e b) (d.e b)] (.vals [.agg x.e]):=by
 obtain⟨d1,g,cC,ax,bx⟩:=Ng b c ak;obtain⟨d2,xs,cg,gP,gz,b0⟩:=Nf b d1 cC;obtain⟨d3,cz,cL,sC,_,ci⟩:=VF b d2 40 (by omega) cg;obtain⟨d4,f,fo,eA⟩:=Ax b d3 4 cL (by omega);have aZ:=Gz ax (by omega) gz;have ao:=ax.size;have bd:=Y' aZ;have nw:=Y9 g xs (by omega);rw[OI aZ]at nw;have cW:=Za g xs;have hQ:=YT (eP g xs) cz (by omega) cW;have qh:=CA cz (eP g xs);have B3:=zT cz (eP g xs);have Zu:=Om cz (ary aZ);have vg:(eP g xs).ar.length=g.ar.toNat:=z' g xs _;have u9:(eP g xs).ay=g:=rfl;have cS:=B3.ay;have bt:=B3.cW cW;have fP:=B3.wj;rw[u9]at cS;rw[vg]at fP;generalize cU (eP g xs) cz=o at*;cases f with
 | false=>exact⟨d4,o.1,fo,⟨by grind,Zu,bt,by omega,by grind⟩,XX ⟨bx,b0,nw,Gr ⟨ci,hQ,aa⟩,eA,rfl,aa⟩⟩
 | true=>
  obtain⟨d5,n,rr,ac5,j7⟩:=ek b d4 12 fo (by omega);have cZ:=DB o.1 n (by omega) bt;have aw:(fT n 0 3000).toNat<=11:=by
   grind[fT]
  have RX:=Gx (fT n 0 3000).toNat o.1 0;have KY:=DA (fT n 0 3000).toNat o.1 0;have f1:(jj o.1 n).1.ay=g:=KY.ay.trans cS;have f2:fa (jj o.1 n).1:=KY.cW bt;have f3:(jj o.1 n).1.ar.length=g.ar.toNat:=KY.wj.trans fP;have f4:(jj o.1 n).1.sz<=8000:=by grind[jj]
  have f5:js (jj o.1 n).1:=Yb _ 0 Zu;exact⟨d5,(jj o.1 n).1,rr,⟨by grind,f5,f2,f4,by grind⟩,XW ⟨bx,b0,nw,Gr ⟨ci,hQ,aa⟩,eA,rfl,XV ⟨j7,cZ,aa⟩,aa⟩⟩
structure Ex (n:Nat) (l:bm):Prop where
 sz:l.sz<=n
 cap:1<=l.cap/\l.cap<=4
 cW:l.cW<=9223372036854775807
theorem Gs(b:List Int):∀(n i:Nat) (l:bm) (c:dW),i+n=8->c.ok b->Ex i l->
  ∃(m:bm) (d:dW),d.ok b/\Ex 8 m/\c8 prog (ap f327 0) (ur (b.map hY) i l.cap (l.queue.map az.e) l.eL l.back l.eo l.cW 0 0 0 0 0 c.i c.h) (.exit 0) (OS (b.map hY) m.cap (m.queue.map az.e) m.eL m.back m.eo m.cW 0 0 0 0 0 d.i d.h)
 | n,i,l,c,iI,ak,al=>by
  obtain⟨d1,m,cC,aw,bx⟩:=ek b c 9 ak (by omega);have bd:=al.sz;by_cases h:(i:Int)<m
  ·match n with
   | 0=>omega
   | n+1=>
    obtain⟨d2,k,cg,hk,b0⟩:=ek b d1 4 cC (by omega);by_cases bE:k=0
    ·have z:=WN l;obtain⟨jZ,d,o,eB,eV⟩:=Gs b n (i+1) (dG l).1 d2 (by omega) cg ⟨by omega,by rw[X'];exact al.cap,Wi l al.cW⟩;exact⟨jZ,d,o,eB,.more (aqZ ⟨bx,lg h,b0,by simp[bE],XJ l (by omega),⟨by omega,by omega⟩,aa⟩) eV⟩
    by_cases e1:k=1
    ·have z:=WO l;obtain⟨jZ,d,o,eB,eV⟩:=Gs b n (i+1) (fF l).1 d2 (by omega) cg ⟨by omega,by rw[Ya];exact al.cap,Wh l al.cW⟩;exact⟨jZ,d,o,eB,.more (aq0 ⟨bx,lg h,b0,by simp[bE],by simp[e1],XK l (by omega),⟨by omega,by omega⟩,aa⟩) eV⟩
    obtain⟨d3,r,cL,aD,ci⟩:=GC b d2 cg;have z:=WM l r;obtain⟨jZ,d,o,eB,eV⟩:=Gs b n (i+1) (ef l r).1 d3 (by omega) cL ⟨by omega,by rw[X9];exact al.cap,Wg l r al.cW⟩;exact⟨jZ,d,o,eB,.more (aqs ⟨bx,lg h,b0,by simp[bE],by simp[e1],aqr ⟨ci,XI l r (by omega),aa⟩,⟨by omega,by omega⟩,aa⟩) eV⟩
  exact⟨l,d1,cC,⟨by omega,al.cap,al.cW⟩,.last (cn 0) (aqt ⟨bx,oL h,aa⟩)⟩
theorem arA(b:List Int)(c:dW)(ak:c.ok b):∃(d:dW) (l:bm),d.ok b/\Ex 8 l/\b2 prog 327 [.cur (c.e b) (d.e b)] (.vals [.agg l.e]):=by
 obtain⟨d1,n,cC,aZ,bx⟩:=ek b c 4 ak (by omega);obtain⟨l,d,o,eB,eV⟩:=Gs b 8 0 (kP (1+n)) d1 rfl cC ⟨by simp[kP,bm.sz],Yc _,by simp[kP]⟩;exact⟨d,l,o,eB,aqu ⟨bx,⟨by omega,by omega⟩,Y7 (1+n),eV,aa⟩⟩
theorem arB(b:List Int)(c:dW)(ak:c.ok b):∃(d:dW) (l:bm),d.ok b/\Ex 9 l/\b2 prog 278 [.cur (c.e b) (d.e b)] (.vals [.agg l.e]):=by
 obtain⟨d1,l,cC,⟨bd,fZ,u'⟩,bx⟩:=arA b c ak;obtain⟨d2,k,cg,hk,b0⟩:=ek b d1 14 cC (by omega);have mT:l.queue.length<=8:=bd;by_cases bE:k=0
 ·obtain⟨d3,v,cL,bI,ci⟩:=ek b d2 6 cg (by omega);exact⟨d3,⟨l.cap,l.queue,v-1,l.back,l.eo,l.cW⟩,cL,⟨Nat.le_succ_of_le bd,fZ,u'⟩,aqv ⟨bx,b0,by simp[bE],ci,⟨by omega,by omega⟩,aa⟩⟩
 by_cases e1:k=1
 ·obtain⟨d3,v,cL,bI,ci⟩:=ek b d2 6 cg (by omega);exact⟨d3,⟨l.cap,l.queue,l.eL,v-1,l.eo,l.cW⟩,cL,⟨Nat.le_succ_of_le bd,fZ,u'⟩,aqw ⟨bx,b0,by simp[bE],by simp[e1],ci,⟨by omega,by omega⟩,aa⟩⟩
 by_cases e2:k=2
 ·obtain⟨d3,v,cL,bI,ci⟩:=mu b d2 [-1,0,1000000000,1000000001] cg (by simp);exact⟨d3,⟨l.cap,l.queue,l.eL,l.back,v,l.cW⟩,cL,⟨Nat.le_succ_of_le bd,fZ,u'⟩,aqx ⟨bx,b0,by simp[bE],by simp[e1],by simp[e2],ci,aa⟩⟩
 by_cases cj:k=3
 ·obtain⟨d3,r,cL,aD,ci⟩:=VH b d2 cg;have:=aqz ⟨bx,b0,by simp[bE],by simp[e1],by simp[e2],by simp[cj],aqy ⟨ci,by simp;omega,by simp;omega,Ji r,aa⟩,aa⟩;refine⟨d3,⟨l.cap,l.queue++[r],l.eL,l.back,l.eo,l.cW⟩,cL,⟨by grind[bm.sz],fZ,u'⟩,?_⟩;unfold bm.e;dsimp only;rw[gi];exact this
 by_cases d':k=4
 ·have zd:((l.queue.map az.e).length:Int)=l.queue.length:=by simp
  have:=aqA ⟨bx,b0,by simp[bE],by simp[e1],by simp[e2],by simp[cj],by simp[d'],⟨by omega,by omega⟩,aa⟩;rw[zd]at this;exact⟨d2,⟨l.cap,l.queue,l.eL,l.back,1000000000,1000000000-(l.queue.length:Int)⟩,cg,⟨Nat.le_succ_of_le bd,fZ,by grind⟩,this⟩
 exact⟨d2,l,cg,⟨by omega,fZ,u'⟩,ar4 ⟨bx,b0,by simp[bE],by simp[e1],by simp[e2],by simp[cj],by simp[d'],aa⟩⟩
