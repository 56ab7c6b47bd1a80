import Derived.Test.YtdchjefneblpgaaGreatP55
import Derived.Test.YtdchjefneblpgaaGreatG3
import Derived.Test.YtdchjefneblpgaaGreatG4
import Derived.Test.YtdchjefneblpgaaGreatP50
set_option linter.unusedVariables false
set_option linter.unusedSimpArgs false
namespace Go.Proofs.YtdchjefneblpgaaGreat
open Go.Sx Go.RowKit Go.Proofs.Tryz
theorem OO{v:Int}:Flat [[I v]]:=AF [v]
theorem Cq(b:List Int)(k a e:Int):∀(n i:Nat) (xs:List Int) (c:dG),i+n=2->c.ok b->xs.length<=i->
  ∃(ys:List Int) (d:dG),d.ok b/\ys.length<=2/\c5 prog (ar f319 0) (vq (b.map gJ) i k a e (xs.map bh) 0 0 0 c.i c.h) (.exit 1) (zV (b.map gJ) k a e (ys.map bh) 0 0 0 d.i d.h)
 | n,i,xs,c,lz,aj,ap=>by
  obtain⟨d1,m,ci,av,bF⟩:=eb b c 3 aj (by omega);by_cases h:(i:Int)<m
  ·match n with
   | 0=>omega
   | n+1=>
    obtain⟨d2,v,b6,bp,bQ⟩:=eb b d1 2 ci (by omega);obtain⟨ys,d,o,eF,l⟩:=Cq b k a e n (i+1) (xs++[1+(i:Int)*2+v]) d2 (by omega) b6 (by simp;omega);refine⟨ys,d,o,eF,.more (aqb ⟨bF,jj h,aqa ⟨⟨by omega,by omega⟩,⟨by omega,by omega⟩,bQ,⟨by omega,by omega⟩,by simp;omega,by simp;omega,OO,aa⟩,⟨by omega,by omega⟩,aa⟩) ?_⟩;rw[fQ]at l;exact l
  exact⟨xs,d1,ci,by omega,.last (cH 1) (aqc ⟨bF,lQ h,aa⟩)⟩
theorem asV(b:List Int)(c:dG)(aj:c.ok b):∃(d:dG) (x:Node),d.ok b/\x.outs.length<=2/\bW prog 319 [.cur (c.e b) (d.e b)] (.vals [.agg x.e]):=by
 obtain⟨d1,n,ci,aX,bF⟩:=eb b c 8 aj (by omega);have i1:aD .i64 (1+n):=⟨by omega,by omega⟩
 by_cases e1:n=1
 ·obtain⟨d2,v,b6,bp,bQ⟩:=l5 b d1 [0,1,3,10,999] ci (by simp);obtain⟨ys,d,o,eF,l⟩:=Cq b (1+n) v 0 2 0 [] d2 rfl b6 (by simp);exact⟨d,⟨1+n,v,0,ys⟩,o,eF,aqd ⟨bF,i1,by simp[e1],bQ,by simp[e1],l,aa⟩⟩
 by_cases e2:n=2
 ·obtain⟨d2,v,b6,bp,bQ⟩:=eb b d1 4 ci (by omega);obtain⟨d3,u,ct,hu,cb⟩:=eb b d2 (1+v) b6 (by omega);obtain⟨ys,d,o,eF,l⟩:=Cq b (1+n) (1+v) u 2 0 [] d3 rfl ct (by simp);exact⟨d,⟨1+n,1+v,u,ys⟩,o,eF,arH ⟨bF,i1,by simp[e2],by simp[e2],bQ,⟨by omega,by omega⟩,cb,by simp[e2],l,aa⟩⟩
 by_cases cg:n=3
 ·obtain⟨d2,v,b6,bp,bQ⟩:=l5 b d1 [0,1,2,3,50,99] ci (by simp);obtain⟨ys,d,o,eF,l⟩:=Cq b (1+n) v 0 2 0 [] d2 rfl b6 (by simp);exact⟨d,⟨1+n,v,0,ys⟩,o,eF,arI ⟨bF,i1,by simp[cg],by simp[cg],by simp[cg],bQ,by simp[cg],l,aa⟩⟩
 have f1:(1+n==2)=false:=by simp;omega
 have f2:(1+n==3)=false:=by simp;omega
 have f3:(1+n==4)=false:=by simp;omega
 by_cases n':n=7
 ·exact⟨d1,⟨1+n,0,0,[]⟩,ci,by simp,arK ⟨bF,i1,f1,f2,f3,by simp[n'],aa⟩⟩
 obtain⟨ys,d,o,eF,l⟩:=Cq b (1+n) 0 0 2 0 [] d1 rfl ci (by simp);exact⟨d,⟨1+n,0,0,ys⟩,o,eF,arJ ⟨bF,i1,f1,f2,f3,by simp;omega,l,aa⟩⟩
theorem asW(b:List Int)(c:dG)(aj:c.ok b):∃(d:dG) (x:Node),d.ok b/\x.outs.length<=3/\bW prog 252 [.cur (c.e b) (d.e b)] (.vals [.agg x.e]):=by
 obtain⟨d1,x,ci,ah,bF⟩:=asV b c aj;obtain⟨d2,k,b6,hk,bQ⟩:=eb b d1 12 ci (by omega);by_cases bu:k=0
 ·obtain⟨d3,v,ct,bp,cb⟩:=eb b d2 11 b6 (by omega);exact⟨d3,⟨v-1,x.a,x.b,x.outs⟩,ct,by dsimp only;omega,arL ⟨bF,bQ,by simp[bu],cb,⟨by omega,by omega⟩,aa⟩⟩
 by_cases e1:k=1
 ·obtain⟨d3,v,ct,bp,cb⟩:=l5 b d2 [-1,0,1000,100,11] b6 (by simp);exact⟨d3,⟨x.kind,v,x.b,x.outs⟩,ct,by dsimp only;omega,arM ⟨bF,bQ,by simp[bu],by simp[e1],cb,aa⟩⟩
 by_cases e2:k=2
 ·obtain⟨d3,v,ct,bp,cb⟩:=l5 b d2 [-1,1,3] b6 (by simp);exact⟨d3,⟨x.kind,x.a,v,x.outs⟩,ct,by dsimp only;omega,arN ⟨bF,bQ,by simp[bu],by simp[e1],by simp[e2],cb,aa⟩⟩
 by_cases cg:k=3
 ·obtain⟨d3,v,ct,bp,cb⟩:=l5 b d2 [1,7,8,-1] b6 (by simp);have:=arP ⟨bF,bQ,by simp[bu],by simp[e1],by simp[e2],by simp[cg],arO ⟨cb,by simp;omega,by simp;omega,OO,aa⟩,aa⟩;refine⟨d3,⟨x.kind,x.a,x.b,x.outs++[v]⟩,ct,by simp;omega,?_⟩;unfold Node.e;dsimp only;rw[fQ];exact this
 exact⟨d2,x,b6,by omega,arQ ⟨bF,bQ,by simp[bu],by simp[e1],by simp[e2],by simp[cg],aa⟩⟩
theorem qOp{α:Type}{sz:α->Nat}(xs ys:List α):fs sz (xs++ys)=fs sz xs+fs sz ys:=by
 unfold fs;simp;omega
theorem Yn{α:Type}{sz:α->Nat}:∀(xs:List α) (n:Nat),fs sz (xs.take n)<=fs sz xs
 | [],n=>by simp
 | x::xs,0=>by simp[fs]
 | x::xs,n+1=>by
  have:=Yn (sz:=sz) xs n;unfold fs at*;simp only[List.take_succ_cons,eh,l',we];omega
def Yo:List D:=[I 8,I 0,I 0,.v (.slice none 0 0)]
def Cr:Node:=⟨8,0,0,[]⟩
theorem asX:lq Yo Cr.e:=.cons (.refl _) (.cons (.refl _) (.cons (.refl _) (.cons (.nil 1) .nil)))
theorem Yp:∀(xs:List Node),nr (xs.map Node.e) (xs.map Node.e)
 | []=>.nil
 | x::xs=>.cons (lq.refl _) (Yp xs)
theorem Yq:∀{es cv:List (List D)} {e e':List D},nr es cv->lq e e'->nr (es++[e]) (cv++[e'])
 | _,_,_,_,.nil,h=>.cons h .nil
 | _,_,_,_,.cons k t,h=>.cons k (Yq t h)
theorem Yr:∀{es cv:List (List D)},nr es cv->es.length=cv.length
 | _,_,.nil=>rfl
 | _,_,.cons _ t=>by simp[Yr t]
theorem Ys(b:List Int)(w p:Int):∀(n:Nat) (xs:List Node) (es:List (List D)) (c:dG),nr es (xs.map Node.e)->xs.length+n=9->fs Node.sz xs<=120-n->n<=9->c.ok b->
  ∃(ys:List Node) (eU:List (List D)) (d:dG),nr eU (ys.map Node.e)/\fs Node.sz ys<=120/\d.ok b/\c5 prog (ar f137 0) (CN (b.map gJ) es w p 0 0 c.i c.h) (.exit 1) (Nq (b.map gJ) eU w p 0 0 d.i d.h)
 | n,xs,es,c,b2,aX,ao,eu,aj=>by
  obtain⟨d1,m,ci,av,bF⟩:=eb b c 2 aj (by omega);have ap:=Yr b2;rw[bl]at ap;by_cases h:(es.length:Int)<8+m
  ·match n with
   | 0=>omega
   | n+1=>
    obtain⟨ys,eU,d,eF,eV,o,l⟩:=Ys b w p n (xs++[Cr]) (es++[Yo]) d1 (by
     rw[fQ];exact Yq b2 asX) (by simp;omega) (by
     rw[qOp];have:fs Node.sz [Cr]=1:=rfl;omega) (by omega) ci
    exact⟨ys,eU,d,eF,eV,o,.more (aod ⟨XI ⟨bF,⟨by omega,by omega⟩,aa⟩,jj h,by simp;omega,by simp;omega,aa⟩) l⟩
  exact⟨xs,es,d1,b2,by omega,ci,.last (cH 1) (aoe ⟨XI ⟨bF,⟨by omega,by omega⟩,aa⟩,lQ h,aa⟩)⟩
theorem nq.len{g:b9}(h:nq g):1<=g.nodes.length/\g.nodes.length<=8:=by
 have:=h.ok;simp only[eM,aw,cx,cV]at this;omega
theorem asY(b:List Int)(c:dG)(aj:c.ok b):∃(d:dG) (g:b9),d.ok b/\(g.sz<=120/\-1<=g.az/\g.az<=5)/\bW prog 137 [.cur (c.e b) (d.e b)] (.vals [.agg g.e]):=by
 obtain⟨d1,g,ci,ay,bF⟩:=Xk b c aj;have ao:=ay.size;have ap:=ay.len;have ab9:=ay.az;have yD:((g.nodes.map Node.e).length:Int)=g.nodes.length:=by simp
 obtain⟨d2,k,b6,hk,bQ⟩:=eb b d1 (g.nodes.length:Int) ci (by omega);rw[<-yD]at bQ;obtain⟨d3,m,ct,hm,cb⟩:=eb b d2 12 b6 (by omega);obtain⟨y,bf⟩:=c9 (xs:=g.nodes) (i:=k.toNat) (by omega);have ot:(g.nodes.map Node.e)[k.toNat]?=some y.e:=by rw[dq,bf];rfl
 have A7:k<((g.nodes.map Node.e).length:Int):=by omega
 have iL:∀x:Node,x.sz<=y.sz+3->(⟨g.nodes.set k.toNat x,g.az,g.cap⟩:b9).sz<=120:=fun x ah=>by
  have:=xO (sz:=Node.sz) x bf;unfold b9.sz at ao ⊢;dsimp only;omega
 by_cases bu:m=0
 ·obtain⟨d4,x,fB,ah,eE⟩:=asW b d3 ct;have:=aoY ⟨bF,bQ,cb,by simp[bu],aoX ⟨eE,hk.1,A7,ot,aa⟩,aa⟩;refine⟨d4,⟨g.nodes.set k.toNat x,g.az,g.cap⟩,fB,⟨iL x (by unfold Node.sz;omega),by dsimp only;omega,by dsimp only;omega⟩,?_⟩;unfold b9.e;dsimp only;rw[h6];exact this
 by_cases e1:m=1
 ·obtain⟨d4,v,fB,bp,eE⟩:=l5 b d3 [0,4,5,-1] ct (by simp);simp only[eP,nZ,or_false]at bp;exact⟨d4,⟨g.nodes,v,g.cap⟩,fB,⟨by unfold b9.sz at ao ⊢;dsimp only;omega,by dsimp only;omega,by dsimp only;omega⟩,aoZ ⟨bF,bQ,cb,by simp[bu],by simp[e1],eE,aa⟩⟩
 by_cases e2:m=2
 ·obtain⟨d4,v,fB,bp,eE⟩:=l5 b d3 [0,4,5,-1] ct (by simp);exact⟨d4,⟨g.nodes,g.az,v⟩,fB,⟨by unfold b9.sz at ao ⊢;dsimp only;omega,by dsimp only;omega,by dsimp only;omega⟩,ao0 ⟨bF,bQ,cb,by simp[bu],by simp[e1],by simp[e2],eE,aa⟩⟩
 by_cases cg:m=3
 ·obtain⟨d4,v,fB,bp,eE⟩:=eb b d3 9 ct (by omega);have RY:y.outs.length<=100:=by
   have:=xO (sz:=Node.sz) Cr bf;have bi:Node.sz Cr=0:=rfl;have:y.sz<=100:=by unfold b9.sz at ao;omega
   exact this
  have:=ao2 ⟨bF,bQ,cb,by simp[bu],by simp[e1],by simp[e2],by simp[cg],ao1 ⟨hk.1,A7,ot,eE,⟨by omega,by omega⟩,by simp;omega,by simp;omega,ot,rfl,rfl,OO,hk.1,A7,ot,rfl,aa⟩,aa⟩;refine⟨d4,⟨g.nodes.set k.toNat ⟨y.kind,y.a,y.b,y.outs++[v-1]⟩,g.az,g.cap⟩,fB,⟨iL _ (by unfold Node.sz;simp),by dsimp only;omega,by dsimp only;omega⟩,?_⟩;unfold b9.e;dsimp only;rw[h6];unfold Node.e;dsimp only;rw[fQ];exact this
 by_cases eo:m=4
 ·obtain⟨ys,eU,d,eF,eV,o,l⟩:=Ys b g.az g.cap (9-g.nodes.length) g.nodes (g.nodes.map Node.e) d3 (Yp _) (by omega) (by unfold b9.sz at ao;omega) (by omega) ct;have:=aof ⟨bF,bQ,cb,by simp[bu],by simp[e1],by simp[e2],by simp[cg],by simp[eo],l,aa⟩;exact⟨d,⟨ys,g.az,g.cap⟩,o,⟨eV,by dsimp only;omega,by dsimp only;omega⟩,this.fit (.cons (.agg (.cons (.J 4 eF) (lq.refl _))) .nil)⟩
 by_cases h9:m=5
 ·have:=aog ⟨bF,bQ,cb,by simp[bu],by simp[e1],by simp[e2],by simp[cg],by simp[eo],by simp[h9],by decide,hk.1,by change k<=_;omega,aa⟩;refine⟨d3,⟨g.nodes.take k.toNat,g.az,g.cap⟩,ct,⟨?_,by dsimp only;omega,by dsimp only;omega⟩,?_⟩
  ·have:=Yn (sz:=Node.sz) g.nodes k.toNat;unfold b9.sz at ao ⊢;dsimp only;omega
  unfold b9.e;dsimp only;rw[pJ];exact this
 exact⟨d3,g,ct,⟨by omega,by omega,by omega⟩,aoh ⟨bF,bQ,cb,by simp[bu],by simp[e1],by simp[e2],by simp[cg],by simp[eo],by simp[h9],aa⟩⟩
end Go.Proofs.YtdchjefneblpgaaGreat
namespace Go.Proofs.YtdchjefneblpgaaGreat
open Go.Sx Go.RowKit Go.Proofs.Tryz
theorem asZ(w:aP)(r:aq)(hw:w.sz<=8388608):al 376 [.agg w.e,.agg r.e] [.agg (kept w r).e]:=by
 have aK:w.queue.length<=8388608:=by simp only[aP.sz]at hw;omega
 rw[Cs];exact auz ⟨zP w hw,u7 aK,u9 aK,dD (aq.flat r),aa⟩
theorem as0(w:aP)(r:aq)(hw:w.sz<=8388608)(aF:w.bL.length=4)(av:w.bU.length=4)(he:0<=r.bq.bd/\r.bq.bd<=3)(ao:-1000000<=w.bL.getD r.bq.bd.toNat 0/\w.bL.getD r.bq.bd.toNat 0<=1000000):
  al 349 [.agg w.e,.agg r.e] [.agg (ig w r).e]:=by
 have k:=asZ w r hw;rw[Cs]at k;rw[Yg];obtain⟨s1,s2⟩:=yO aF he;obtain⟨eC,fG⟩:=rW av he;have qU:(↑(w.bL.map bh).length:Int)-1=3:=by rw[bl,aF];rfl
 exact auA ⟨k,⟨by rw[qU];omega,by rw[qU];omega⟩,gb true (by rw[qU];simp only[aw,cV];omega),rfl,dt eC,he.1,s1,s2,⟨by omega,by omega⟩,he.1,s1,s2,he.1,eC,fG,aa⟩
theorem as1(w:aP)(r:aq)(t:List aq)(hw:w.sz<=8388608)(h:w.cj=r::t):al 351 [.agg w.e] [.agg (hn w t).e,.agg r.e,.one (B true)]:=by
 have ap:w.cj.length<=8388608:=by simp only[aP.sz]at hw;omega
 have e:(hn w t).e=[.J 5 (w.queue.map aq.e),.J 5 ([]++((w.cj.map aq.e).drop 1).take ((w.cj.map aq.e).length-1)),.J 5 (w.bO.map aq.e),.J 4 (w.cells.map Cell.e),.J 1 (w.bL.map bh),.J 1 (w.bU.map cD),.J 1 (w.bx.map cD),.J 2 (w.b8.map cR.e)]:=by rw[ub h];rfl
 rw[e];exact auy ⟨zP w hw,lE h,by decide,lK h,nf h,nv,nx h,ny,sK h ap,sj h ap,sk h,aa⟩
theorem as2(w:aP)(hw:w.sz<=8388608)(h:w.cj=[]):al 351 [.agg w.e] [.agg w.e,.agg (⟨0,⟨0,0⟩,0,0⟩:aq).e,.one (B false)]:=
 auw ⟨zP w hw,q9 h,aa⟩
theorem as3(g:b9)(w:aP)(ay:g.sz<=8388608)(hw:w.sz<=8388608):al 48 [.agg g.e,.agg w.e] [.agg (e6 g w).1.e,.one (B (e6 g w).2)]:=by
 have cB:=zP w hw;have k:=y1 g ay;have kw:=Fc g w ay hw;have nE:w.cells.length<=8388608:=by simp only[aP.sz]at hw;omega
 have mM:w.queue.length<=8388608:=by simp only[aP.sz]at hw;omega
 cases h1:eM g with
 | false=>
  rw[h1]at k;rw[show e6 g w=(w,false) by unfold e6;simp[h1]];exact auH ⟨cB,k,rfl,aa⟩
 | true=>
 rw[h1]at k;cases U:fe g w with
 | false=>
  rw[U]at kw;rw[show e6 g w=(w,false) by unfold e6;simp[U]];exact auI ⟨cB,k,rfl,kw,rfl,aa⟩
 | true=>
 rw[U]at kw;have hu:e6 g w=match w.cj,w.queue with
  | [],r::q=>(⟨q,(dB g w.cells r).2.1,w.bO,(dB g w.cells r).1,w.bL,w.bU,(if du g r then w.bx.set r.bq.bd.toNat true else w.bx),w.b8⟩,true)
  | _,_=>(w,false):=by unfold e6;rw[h1,U];rfl
 cases ax:w.cj with
 | cons r q=>
  rw[show e6 g w=(w,false) by rw[hu,ax]];exact at8 ⟨cB,k,rfl,kw,rfl,tF ax,aa⟩
 | nil=>
 cases aF:w.queue with
 | nil=>
  rw[show e6 g w=(w,false) by rw[hu,ax,aF]];exact at9 ⟨cB,k,rfl,kw,rfl,jJ ax,q9 aF,aa⟩
 | cons r q=>
  have st:=MD g w.cells r ay nE;have n9:=U9 g r ay;obtain⟨cG,_,_,_,_,_,kt,_⟩:=ke.1 U;rw[aF,tX]at cG;have he:=rj cG.1;obtain⟨c1,c2⟩:=rW kt he;cases aZ:du g r with
  | true=>
   rw[aZ]at n9;rw[show e6 g w=(⟨q,(dB g w.cells r).2.1,w.bO,(dB g w.cells r).1,w.bL,w.bU,w.bx.set r.bq.bd.toNat true,w.b8⟩,true) by rw[hu,ax,aF];simp only[aZ,fX]];have e:aP.e ⟨q,(dB g w.cells r).2.1,w.bO,(dB g w.cells r).1,w.bL,w.bU,w.bx.set r.bq.bd.toNat true,w.b8⟩=[.J 5 ([]++((w.queue.map aq.e).drop 1).take ((w.queue.map aq.e).length-1)),.J 5 ((dB g w.cells r).2.1.map aq.e),.J 5 (w.bO.map aq.e),.J 4 ((dB g w.cells r).1.map Cell.e),.J 1 (w.bL.map bh),.J 1 (w.bU.map cD),.J 1 ((w.bx.map cD).set r.bq.bd.toNat [B true]),.J 2 (w.b8.map cR.e)]:=by
    rw[ub aF];simp only[aP.e,h6];rfl
   dsimp only;rw[e];exact aua ⟨cB,k,rfl,kw,rfl,jJ ax,lE aF,by decide,lK aF,nf aF,st,nv,nx aF,ny,sK aF mM,sj aF mM,sk aF,n9,rfl,he.1,c1,c2,aa⟩
  | false=>
   rw[aZ]at n9;rw[show e6 g w=(⟨q,(dB g w.cells r).2.1,w.bO,(dB g w.cells r).1,w.bL,w.bU,w.bx,w.b8⟩,true) by rw[hu,ax,aF];simp only[aZ];rfl];have e:aP.e ⟨q,(dB g w.cells r).2.1,w.bO,(dB g w.cells r).1,w.bL,w.bU,w.bx,w.b8⟩=[.J 5 ([]++((w.queue.map aq.e).drop 1).take ((w.queue.map aq.e).length-1)),.J 5 ((dB g w.cells r).2.1.map aq.e),.J 5 (w.bO.map aq.e),.J 4 ((dB g w.cells r).1.map Cell.e),.J 1 (w.bL.map bh),.J 1 (w.bU.map cD),.J 1 (w.bx.map cD),.J 2 (w.b8.map cR.e)]:=by
    rw[ub aF];rfl
   dsimp only;rw[e];exact aub ⟨cB,k,rfl,kw,rfl,jJ ax,lE aF,by decide,lK aF,nf aF,st,nv,nx aF,ny,sK aF mM,sj aF mM,sk aF,n9,rfl,aa⟩
theorem as4(g:b9)(w:aP)(ay:g.sz<=8388608)(hw:w.sz<=8388608):al 348 [.agg g.e,.agg w.e] [.agg (e5 g w).1.e,.one (B (e5 g w).2)]:=by
 have cB:=zP w hw;have k:=y1 g ay;have kw:=Fc g w ay hw;have aK:w.queue.length<=8388608:=by simp only[aP.sz]at hw;omega
 have kp:w.bO.length<=8388608:=by simp only[aP.sz]at hw;omega
 cases h1:eM g with
 | false=>
  rw[h1]at k;rw[show e5 g w=(w,false) by unfold e5;simp[h1]];exact auB ⟨cB,k,rfl,aa⟩
 | true=>
 rw[h1]at k;cases U:fe g w with
 | false=>
  rw[U]at kw;rw[show e5 g w=(w,false) by unfold e5;simp[U]];exact auC ⟨cB,k,rfl,kw,rfl,aa⟩
 | true=>
 rw[U]at kw;have hu:e5 g w=match w.cj,w.queue,w.bO with
  | [],[],r::t=>(⟨[r],[],t,w.cells,w.bL,w.bU,w.bx,w.b8⟩,true)
  | _,_,_=>(w,false):=by unfold e5;rw[h1,U];rfl
 cases ax:w.cj with
 | cons r q=>
  rw[show e5 g w=(w,false) by rw[hu,ax]];exact auD ⟨cB,k,rfl,kw,rfl,tF ax,aa⟩
 | nil=>
 cases aF:w.queue with
 | cons r q=>
  rw[show e5 g w=(w,false) by rw[hu,ax,aF]];exact auE ⟨cB,k,rfl,kw,rfl,jJ ax,tF aF,aa⟩
 | nil=>
 cases aZ:w.bO with
 | nil=>
  rw[show e5 g w=(w,false) by rw[hu,ax,aF,aZ]];exact auF ⟨cB,k,rfl,kw,rfl,jJ ax,jJ aF,q9 aZ,aa⟩
 | cons r t=>
  rw[show e5 g w=(⟨[r],[],t,w.cells,w.bL,w.bU,w.bx,w.b8⟩,true) by rw[hu,ax,aF,aZ]];have e:aP.e ⟨[r],[],t,w.cells,w.bL,w.bU,w.bx,w.b8⟩=[.J 5 (w.queue.map aq.e++[r.e]),.J 5 (w.cj.map aq.e),.J 5 ([]++((w.bO.map aq.e).drop 1).take ((w.bO.map aq.e).length-1)),.J 4 (w.cells.map Cell.e),.J 1 (w.bL.map bh),.J 1 (w.bU.map cD),.J 1 (w.bx.map cD),.J 2 (w.b8.map cR.e)]:=by
   rw[ub aZ,aF,ax];rfl
  dsimp only;rw[e];exact auG ⟨cB,k,rfl,kw,rfl,jJ ax,jJ aF,lE aZ,by decide,lK aZ,nf aZ,u7 aK,u9 aK,dD (aq.flat r),nv,nx aZ,ny,sK aZ kp,sj aZ kp,sk aZ,aa⟩
end Go.Proofs.YtdchjefneblpgaaGreat
namespace Go.Proofs.YtdchjefneblpgaaGreat
open Go.Sx Go.RowKit Go.Proofs.Tryz
theorem as5(c:a')(l:List cN)(aj:c.sz+4*l.length<=8388608):
  c5 prog (ar f15 0) (zX (l.map cN.e) 0 [] (c.aE.nodes.map Node.e) c.aE.az c.aE.cap (c.az.map aP.e) (c.bP.map bw.e) (c.tokens.map b4.e) (c.news.map b1.e) (cU c) 0 0) (.exit 0)
   (Of ((eA c l).2.map cD) ((eA c l).1.aE.nodes.map Node.e) (eA c l).1.aE.az (eA c l).1.aE.cap ((eA c l).1.az.map aP.e) ((eA c l).1.bP.map bw.e) ((eA c l).1.tokens.map b4.e) ((eA c l).1.news.map b1.e) (cU (eA c l).1) 0 0):=by
 have ap:l.length<=8388608:=by omega
 have k:=fC (P:=prog) (c:=(ar f15 0)) (cH 0) l.length (fun i:Nat=>zX (l.map cN.e) i ((eA c (l.take i)).2.map cD) ((eA c (l.take i)).1.aE.nodes.map Node.e) (eA c (l.take i)).1.aE.az (eA c (l.take i)).1.aE.cap ((eA c (l.take i)).1.az.map aP.e) ((eA c (l.take i)).1.bP.map bw.e) ((eA c (l.take i)).1.tokens.map b4.e) ((eA c (l.take i)).1.news.map b1.e) (cU (eA c (l.take i)).1) 0 0) (fun i hi=>by
  obtain⟨p,hp⟩:=c9 hi;have aX:=NV (l.take i) c;have ao:=Wi c l i;rw[Wh c hp];dsimp only;rw[NU];generalize eA c (l.take i)=o at*;exact atA ⟨b5 hi,bD,bK hi,bE cN.e hp,Oo o.1 p (by omega),by simp[aX];omega,by simp[aX];omega,AE [(dK o.1 p).2],dj hi ap,aa⟩) (atB ⟨dT,aa⟩)
 rw[k5]at k;exact k
theorem as6(c:a')(l:List cN)(aj:c.sz+4*l.length<=8388608)(hw:gl c):al 15 [.agg c.e,.one (.J 3 (l.map cN.e))] [.agg (eA c l).1.e,.one (.J 1 ((eA c l).2.map cD))]:=
 atC ⟨GL c (by omega) hw,as5 c l aj,aa⟩
def nV(c:a'):a'×Nat:=((eA c (ps c)).1,uD (eA c (ps c)).2)
theorem ash{c d:a'}(h:d.aE=c.aE):ps d=ps c:=by unfold ps;rw[h]
theorem OP(c:a'):oQ c (nV c).1:=NW _ _
theorem Yt(c:a'):(nV c).1.sz<=c.sz+400:=by
 have:=Gt (ps c) c;have:=U0 c;unfold nV;dsimp only;omega
theorem asi(c:a')(l:List cN)(aj:c.sz+4*l.length<=8388608):bW prog 131 [.ref (gd c) (gd (eA c l).1),.ro (.one (.J 3 (l.map cN.e)))] (.vals [.one (I (uD (eA c l).2))]):=by
 have ap:l.length<=8388608:=by omega
 have k:=fC (P:=prog) (c:=(ar f131 0)) (cH 0) l.length (fun i:Nat=>xU (l.map cN.e) i (uD (eA c (l.take i)).2) ((eA c (l.take i)).1.aE.nodes.map Node.e) (eA c (l.take i)).1.aE.az (eA c (l.take i)).1.aE.cap ((eA c (l.take i)).1.az.map aP.e) ((eA c (l.take i)).1.bP.map bw.e) ((eA c (l.take i)).1.tokens.map b4.e) ((eA c (l.take i)).1.news.map b1.e) (cU (eA c (l.take i)).1)) (fun i hi=>by
  obtain⟨p,hp⟩:=c9 hi;have aX:=NV (l.take i) c;have aG:=aly (eA c (l.take i)).2;have ao:=Wi c l i;have bT:=NY i l;rw[Wh c hp];dsimp only;rw[alz];generalize eA c (l.take i)=o at*;have st:=Oo o.1 p (by omega);cases av:(dK o.1 p).2 with
  | true=>
   rw[av]at st;exact aui ⟨b5 hi,bD,bK hi,bE cN.e hp,st,rfl,⟨by omega,by omega⟩,dj hi ap,aa⟩
  | false=>
   rw[av]at st;exact auj ⟨b5 hi,bD,bK hi,bE cN.e hp,st,rfl,dj hi ap,aa⟩) (auk ⟨dT,aa⟩)
 rw[k5]at k;exact aul ⟨k,aa⟩
def hT:Nat->a'->Nat->a'×Nat
 | 0,c,k=>(c,k)
 | n+1,c,k=>if (nV c).2=0 then ((nV c).1,k+1) else hT n (nV c).1 (k+1)
def sI(c:a')(wW:Int):a'×Nat:=hT (iZ wW 0 3000).toNat c 0
theorem Yu:∀(n:Nat) (c:a') (k:Nat),(hT n c k).1.sz<=c.sz+n*400
 | 0,c,k=>fI _
 | n+1,c,k=>by
  have h1:=Yt c;have U:=Yu n (nV c).1 (k+1);unfold hT;split
  ·dsimp only;omega
  omega
theorem Yv:∀(n:Nat) (c:a') (k:Nat),oQ c (hT n c k).1
 | 0,c,k=>.rfl
 | n+1,c,k=>by
  unfold hT;split
  ·exact OP c
  exact (OP c).trans (Yv n _ _)
theorem asj{n:Nat}{c:a'}{k:Nat}(bG:¬(nV c).2=0):hT (n+1) c k=hT n (nV c).1 (k+1):=by
 conv=>lhs;unfold hT
 rw[bk bG]
theorem asl(n:Int):∃k:Nat,iZ n 0 3000=k/\k<=3000:=by
 refine⟨(iZ n 0 3000).toNat,?_,?_⟩<;>(unfold iZ;simp only[show ¬(3000:Int)<0 by omega,lP];split<;>(try split)<;>omega)
theorem Kq(n:Nat):((n:Int)==0)=decide (n=0):=by
 rw[Bool.eq_iff_iff];simp only[dE,cV];omega
theorem Yw(m:Nat)(hm:m<=3000)(l:List cN):∀(n:Nat) (c:a') (k:Nat),k+n=m->ps c=l->c.sz+n*400<=8388608->
  c5 prog (ar f16 0) (vr (l.map cN.e) m ((k:Int)+1) (c.aE.nodes.map Node.e) c.aE.az c.aE.cap (c.az.map aP.e) (c.bP.map bw.e) (c.tokens.map b4.e) (c.news.map b1.e) (cU c) 0 0) .ret
    (Od (hT n c k).2 ((hT n c k).1.aE.nodes.map Node.e) (hT n c k).1.aE.az (hT n c k).1.aE.cap ((hT n c k).1.az.map aP.e) ((hT n c k).1.bP.map bw.e) ((hT n c k).1.tokens.map b4.e) ((hT n c k).1.news.map b1.e))\/
  (hT n c k).2=m/\c5 prog (ar f16 0) (vr (l.map cN.e) m ((k:Int)+1) (c.aE.nodes.map Node.e) c.aE.az c.aE.cap (c.az.map aP.e) (c.bP.map bw.e) (c.tokens.map b4.e) (c.news.map b1.e) (cU c) 0 0) (.exit 0)
    (Oe m ((hT n c k).1.aE.nodes.map Node.e) (hT n c k).1.aE.az (hT n c k).1.aE.cap ((hT n c k).1.az.map aP.e) ((hT n c k).1.bP.map bw.e) ((hT n c k).1.tokens.map b4.e) ((hT n c k).1.news.map b1.e) (cU (hT n c k).1) 0 0)
 | 0,c,k,hk,_,_=>.inr ⟨by unfold hT;omega,.last (cH 0) (atw ⟨dQ (by omega),aa⟩)⟩
 | n+1,c,k,hk,ap,aj=>by
  have r:=asi c l (by have:=U0 c;rw[ap]at this;omega);have ao:=Yt c;have ay:=(OP c).aE;have e1:nV c=((eA c l).1,uD (eA c l).2):=by unfold nV;rw[ap]
  by_cases bG:(nV c).2=0
  ·rw[show hT (n+1) c k=((nV c).1,k+1) by unfold hT;rw[bm bG]];rw[e1]at bG ⊢;exact .inl (.last e0 (atv ⟨dt (by omega),r,by rw[Kq];exact jj bG,aa⟩))
  rw[asj bG];have ee:=Yw m hm l n (nV c).1 (k+1) (by omega) ((ash ay).trans ap) (by omega);rw[e1]at bG ee ⊢;rcases ee with ee | ⟨adz,ee⟩
  ·exact .inl (.more (X1 ⟨dt (by omega),r,by rw[Kq];exact lQ bG,⟨by omega,by omega⟩,aa⟩) ee)
  exact .inr ⟨adz,.more (X1 ⟨dt (by omega),r,by rw[Kq];exact lQ bG,⟨by omega,by omega⟩,aa⟩) ee⟩
theorem asm(c:a')(wW:Int)(aj:c.sz+1200000<=8388608)(hw:gl c):al 16 [.agg c.e,.one (I wW)] [.agg (sI c wW).1.e,.one (I (sI c wW).2)]:=by
 have b:=Fq wW 0 3000;obtain⟨m,hm,av⟩:=asl wW;unfold sI;rw[hm]at b ⊢;rw[k7];rcases Yw m (by omega) (ps c) m c 0 (by omega) rfl (by omega) with k | ⟨cG,k⟩
 ·exact atx ⟨GL c (by omega) hw,U1 c,b,k,aa⟩
 rw[cG];exact aty ⟨GL c (by omega) hw,U1 c,b,k,aa⟩
end Go.Proofs.YtdchjefneblpgaaGreat
namespace Go.Proofs.YtdchjefneblpgaaGreat
open Go.Sx Go.RowKit Go.Proofs.Tryz
theorem Yx(l:bw)(r:aq):(ez l r).1.cap=l.cap:=by unfold ez;split<;>rfl
theorem Yy(l:bw):(dY l).1.cap=l.cap:=by
 unfold dY;split
 ·split<;>rfl
 rfl
theorem Yz(l:bw):(fO l).1.cap=l.cap:=by unfold fO;split<;>rfl
structure jE (c:a'):Prop where
 tok:c.tokens.length=4
 Bz:1<=c.bP.length
 cap:∀l∈c.bP,1<=l.cap/\l.cap<=4
variable{c:a'}{i:Int}
theorem jE.ec{l m:bw}(h:jE c)(ap:hN c i=some l)(hm:m.cap=l.cap):jE (ec c i m):=by
 refine⟨h.tok,by change 1<=(c.bP.set i.toNat m).length;rw[fR];exact h.Bz,fun x ah=>?_⟩;rcases pH ah with ah | rfl
 ·exact h.cap x ah
 rw[hm];exact h.cap l (eD (qk ap).2.2)
theorem jE.setW{x:aP}(h:jE c):jE (setW c i x):=⟨h.tok,h.Bz,h.cap⟩
theorem jE.iL{n:List b1}(h:jE c):jE (iL c n):=⟨h.tok,h.Bz,h.cap⟩
theorem jE.eg{t:b4}(h:jE c):jE (eg c i t):=⟨by change (c.tokens.set i.toNat t).length=4;rw[fR];exact h.tok,h.Bz,h.cap⟩
theorem Step.CV{d:a'}{p:cN}(st:Step c p d)(h:jE c):jE d:=by
 cases st with
 | work x r q hk ah ao aK=>exact h.setW
 | input x r t hk ah ao aK hi=>exact h.setW
 | fU x r t hk ah ao ba=>exact h.setW
 | send x r t l hk ah ao ba ap hsend=>exact (h.ec ap (Yx l r)).setW
 | take l x hk fk ap ah bT=>exact (h.ec ap (Yy l)).setW
 | DZ l hk fk ap aj=>exact h.ec ap (Yz l)
 | token t x ff hk acg bG aG bT ah Q9=>
  rcases CG c p.a t x with⟨_,k⟩ | ⟨_,_,⟨_,k⟩ | ⟨_,_,k⟩ | ⟨_,_,_,k⟩ | ⟨_,_,_,k⟩⟩<;>rw[k]
  ·exact h
  ·exact h.eg.setW
  ·exact h.eg.setW
  ·exact h.eg.setW.iL
  exact h.eg
 | Eh k n x hk aX aG ah=>exact h.setW.iL
theorem asn(h:jE c)(p:cN):jE (dK c p).1:=by
 rcases VO c p with⟨_,k⟩ | ⟨_,_,st⟩
 ·rw[k];exact h
 exact st.CV h
theorem OQ:∀(l:List cN) {c:a'},jE c->jE (eA c l).1
 | [],_,h=>h
 | p::l,_,h=>OQ l (asn h p)
theorem YA:∀(n:Nat) {c:a'} (k:Nat),jE c->jE (hT n c k).1
 | 0,_,_,h=>h
 | n+1,c,k,h=>by
  have h1:jE (nV c).1:=OQ (ps c) h;unfold hT;split
  ·exact h1
  exact YA n (k+1) h1
theorem YB(n:Int):1<=iZ n 1 4/\iZ n 1 4<=4:=by
 unfold iZ;split<;>(try split)<;>(try split)<;>omega
theorem aso{g:b9}{xs:List aq}(h:p9 g xs=true):jE (oG g xs):=by
 have aX:=mZ (NK.1 h).1;refine⟨by simp[oG],?_,fun l ap=>?_⟩
 ·unfold oG;rw[List.length_replicate];exact Nat.mul_pos (by omega) (by omega)
 rw[List.eq_of_mem_replicate ap];exact YB g.cap
structure aaU (x:a'):Prop where
 aE:nq x.aE
 CV:jE x
 dy:gl x
 sz:x.sz<=8000
 x4:x.az.length=x.aE.az.toNat
theorem asp(b:List Int)(c:dG)(aj:c.ok b):∃(d:dG) (x:a'),d.ok b/\aaU x/\bW prog 166 [.cur (c.e b) (d.e b)] (.vals [.agg x.e]):=by
 obtain⟨d1,g,ci,ay,bF⟩:=Xk b c aj;obtain⟨d2,xs,b6,hs,gS,bQ⟩:=Xj b d1 ci;obtain⟨d3,cr,ct,si,_,cb⟩:=aqD b d2 40 (by omega) b6;obtain⟨d4,f,fB,eE⟩:=xT b d3 4 ct (by omega);have aX:=ap6 ay (by omega) gS;have ao:=ay.size;have bi:=ap4 aX;have nw:=aqy g xs (by omega);rw[Xf aX]at nw;have dy:=ap5 g xs;have iK:=as6 (oG g xs) cr (by omega) dy;have sc:=Gt cr (oG g xs);have Kj:=NW cr (oG g xs);have YS:=OQ cr (aso aX);have Br:(oG g xs).az.length=g.az.toNat:=NG g xs _;have ab4:(oG g xs).aE=g:=rfl;have cG:=Kj.aE;have bM:=Kj.dy dy;have gj:=Kj.x4;rw[ab4]at cG;rw[Br]at gj;generalize eA (oG g xs) cr=o at*;cases f with
 | false=>exact⟨d4,o.1,fB,⟨by rw[cG];exact ay,YS,bM,by omega,by rw[cG];exact gj⟩,arE ⟨bF,bQ,nw,WT ⟨cb,iK,aa⟩,eE,rfl,aa⟩⟩
 | true=>
  obtain⟨d5,n,tC,aC1,k2⟩:=eb b d4 12 fB (by omega);have c3:=asm o.1 n (by omega) bM;have av:(iZ n 0 3000).toNat<=11:=by
   unfold iZ;split<;>(try split)<;>(try split)<;>omega
  have ads:=Yu (iZ n 0 3000).toNat o.1 0;have Kh:=Yv (iZ n 0 3000).toNat o.1 0;have f1:(sI o.1 n).1.aE=g:=Kh.aE.trans cG;have f2:gl (sI o.1 n).1:=Kh.dy bM;have f3:(sI o.1 n).1.az.length=g.az.toNat:=Kh.x4.trans gj;have f4:(sI o.1 n).1.sz<=8000:=by unfold sI;omega
  have f5:jE (sI o.1 n).1:=YA _ 0 YS;exact⟨d5,(sI o.1 n).1,tC,⟨by rw[f1];exact ay,f5,f2,f4,by rw[f1];exact f3⟩,arD ⟨bF,bQ,nw,WT ⟨cb,iK,aa⟩,eE,rfl,arC ⟨k2,c3,aa⟩,aa⟩⟩
structure DJ (n:Nat) (l:bw):Prop where
 sz:l.sz<=n
 cap:1<=l.cap/\l.cap<=4
 dy:l.dy<=9223372036854775807
theorem Ge(b:List Int):∀(n i:Nat) (l:bw) (c:dG),i+n=8->c.ok b->DJ i l->
  ∃(m:bw) (d:dG),d.ok b/\DJ 8 m/\c5 prog (ar f327 0) (ua (b.map gJ) i l.cap (l.queue.map aq.e) l.eX l.back l.fq l.dy 0 0 0 0 0 c.i c.h) (.exit 0) (Nf (b.map gJ) m.cap (m.queue.map aq.e) m.eX m.back m.fq m.dy 0 0 0 0 0 d.i d.h)
 | n,i,l,c,lz,aj,ap=>by
  obtain⟨d1,m,ci,av,bF⟩:=eb b c 9 aj (by omega);have bi:=ap.sz;by_cases h:(i:Int)<m
  ·match n with
   | 0=>omega
   | n+1=>
    obtain⟨d2,k,b6,hk,bQ⟩:=eb b d1 4 ci (by omega);by_cases bu:k=0
    ·have z:=Wb l;obtain⟨j9,d,o,eF,eV⟩:=Ge b n (i+1) (dY l).1 d2 (by omega) b6 ⟨by omega,by rw[Yy];exact ap.cap,Wf l ap.dy⟩;exact⟨j9,d,o,eF,.more (arR ⟨bF,jj h,bQ,by simp[bu],Yb l (by omega),⟨by omega,by omega⟩,aa⟩) eV⟩
    by_cases e1:k=1
    ·have z:=Wc l;obtain⟨j9,d,o,eF,eV⟩:=Ge b n (i+1) (fO l).1 d2 (by omega) b6 ⟨by omega,by rw[Yz];exact ap.cap,We l ap.dy⟩;exact⟨j9,d,o,eF,.more (arS ⟨bF,jj h,bQ,by simp[bu],by simp[e1],Yc l (by omega),⟨by omega,by omega⟩,aa⟩) eV⟩
    obtain⟨d3,r,ct,aA,cb⟩:=Gc b d2 b6;have z:=Wa l r;obtain⟨j9,d,o,eF,eV⟩:=Ge b n (i+1) (ez l r).1 d3 (by omega) ct ⟨by omega,by rw[Yx];exact ap.cap,Wd l r ap.dy⟩;exact⟨j9,d,o,eF,.more (arU ⟨bF,jj h,bQ,by simp[bu],by simp[e1],arT ⟨cb,Ya l r (by omega),aa⟩,⟨by omega,by omega⟩,aa⟩) eV⟩
  exact⟨l,d1,ci,⟨by omega,ap.cap,ap.dy⟩,.last (cH 0) (arV ⟨bF,lQ h,aa⟩)⟩
theorem asq(b:List Int)(c:dG)(aj:c.ok b):∃(d:dG) (l:bw),d.ok b/\DJ 8 l/\bW prog 327 [.cur (c.e b) (d.e b)] (.vals [.agg l.e]):=by
 obtain⟨d1,n,ci,aX,bF⟩:=eb b c 4 aj (by omega);obtain⟨l,d,o,eF,eV⟩:=Ge b 8 0 (rD (1+n)) d1 rfl ci ⟨by simp[rD,bw.sz],YB _,by simp[rD]⟩;exact⟨d,l,o,eF,arW ⟨bF,⟨by omega,by omega⟩,Xd (1+n),eV,aa⟩⟩
theorem asr(b:List Int)(c:dG)(aj:c.ok b):∃(d:dG) (l:bw),d.ok b/\DJ 9 l/\bW prog 278 [.cur (c.e b) (d.e b)] (.vals [.agg l.e]):=by
 obtain⟨d1,l,ci,⟨bi,gA,uT⟩,bF⟩:=asq b c aj;obtain⟨d2,k,b6,hk,bQ⟩:=eb b d1 14 ci (by omega);have mM:l.queue.length<=8:=bi;by_cases bu:k=0
 ·obtain⟨d3,v,ct,bp,cb⟩:=eb b d2 6 b6 (by omega);exact⟨d3,⟨l.cap,l.queue,v-1,l.back,l.fq,l.dy⟩,ct,⟨Nat.le_succ_of_le bi,gA,uT⟩,arX ⟨bF,bQ,by simp[bu],cb,⟨by omega,by omega⟩,aa⟩⟩
 by_cases e1:k=1
 ·obtain⟨d3,v,ct,bp,cb⟩:=eb b d2 6 b6 (by omega);exact⟨d3,⟨l.cap,l.queue,l.eX,v-1,l.fq,l.dy⟩,ct,⟨Nat.le_succ_of_le bi,gA,uT⟩,arY ⟨bF,bQ,by simp[bu],by simp[e1],cb,⟨by omega,by omega⟩,aa⟩⟩
 by_cases e2:k=2
 ·obtain⟨d3,v,ct,bp,cb⟩:=l5 b d2 [-1,0,1000000000,1000000001] b6 (by simp);exact⟨d3,⟨l.cap,l.queue,l.eX,l.back,v,l.dy⟩,ct,⟨Nat.le_succ_of_le bi,gA,uT⟩,arZ ⟨bF,bQ,by simp[bu],by simp[e1],by simp[e2],cb,aa⟩⟩
 by_cases cg:k=3
 ·obtain⟨d3,r,ct,aA,cb⟩:=zU b d2 b6;have:=ar1 ⟨bF,bQ,by simp[bu],by simp[e1],by simp[e2],by simp[cg],ar0 ⟨cb,by simp;omega,by simp;omega,yn r,aa⟩,aa⟩;refine⟨d3,⟨l.cap,l.queue++[r],l.eX,l.back,l.fq,l.dy⟩,ct,⟨by simp[bw.sz];omega,gA,uT⟩,?_⟩;unfold bw.e;dsimp only;rw[fQ];exact this
 by_cases eo:k=4
 ·have yD:((l.queue.map aq.e).length:Int)=l.queue.length:=by simp
  have:=ar2 ⟨bF,bQ,by simp[bu],by simp[e1],by simp[e2],by simp[cg],by simp[eo],⟨by omega,by omega⟩,aa⟩;rw[yD]at this;exact⟨d2,⟨l.cap,l.queue,l.eX,l.back,1000000000,1000000000-(l.queue.length:Int)⟩,b6,⟨Nat.le_succ_of_le bi,gA,by dsimp only;omega⟩,this⟩
 exact⟨d2,l,b6,⟨by omega,gA,uT⟩,ar3 ⟨bF,bQ,by simp[bu],by simp[e1],by simp[e2],by simp[cg],by simp[eo],aa⟩⟩
end Go.Proofs.YtdchjefneblpgaaGreat
namespace Go.Proofs.YtdchjefneblpgaaGreat
open Go.Sx Go.RowKit Go.Proofs.Tryz
theorem ass(b:List Int)(c:dG)(g:b9)(aj:c.ok b)(ay:g.nodes.length<=1000):∃(d:dG) (r:aq),d.ok b/\(0<=r.bq.bd/\r.bq.bd<=3)/\bW prog 350 [.cur (c.e b) (d.e b),.ro (.agg g.e)] (.vals [.agg r.e]):=by
 obtain⟨d1,r,ci,⟨_,U,_,_,_⟩,bF⟩:=Gc b c aj;have yD:((g.nodes.map Node.e).length:Int)=g.nodes.length:=by simp
 by_cases bG:0<g.nodes.length
 ·have aG:decide (((g.nodes.map Node.e).length:Int)>0)=true:=dt (by omega);obtain⟨d2,k,b6,hk,bQ⟩:=eb b d1 (g.nodes.length:Int) ci (by omega);rw[<-yD]at bQ;obtain⟨d3,x,ct,cb⟩:=xT b d2 4 b6 (by omega);cases x with
  | true=>
   obtain⟨d4,t,fB,bT,eE⟩:=eb b d3 2 ct (by omega);exact⟨d4,⟨k,⟨r.bq.bd,5+t⟩,r.key,r.val⟩,fB,by dsimp only;omega,ar4 ⟨bF,aG,bQ,cb,rfl,eE,⟨by omega,by omega⟩,aa⟩⟩
  | false=>exact⟨d3,⟨k,r.bq,r.key,r.val⟩,ct,by dsimp only;omega,ar5 ⟨bF,aG,bQ,cb,rfl,aa⟩⟩
 have aG:decide (((g.nodes.map Node.e).length:Int)>0)=false:=dQ (by omega);obtain⟨d3,x,ct,cb⟩:=xT b d1 4 ci (by omega);cases x with
 | true=>
  obtain⟨d4,t,fB,bT,eE⟩:=eb b d3 2 ct (by omega);exact⟨d4,⟨r.op,⟨r.bq.bd,5+t⟩,r.key,r.val⟩,fB,by dsimp only;omega,ar6 ⟨bF,aG,cb,rfl,eE,⟨by omega,by omega⟩,aa⟩⟩
 | false=>exact⟨d3,r,ct,by omega,arf ⟨bF,aG,cb,rfl,aa⟩⟩
structure sZ (i:Nat) (w:aP):Prop where
 sz:w.sz<=40+2*i
 bL:w.bL.length=4
 bU:w.bU.length=4
 AB:∀k:Nat,-(i:Int)<=w.bL.getD k 0/\w.bL.getD k 0<=0
theorem sZ.mono{i:Nat}{w v:aP}(h:sZ i w)(ao:v.sz<=w.sz+2)(h1:v.bL=w.bL)(U:v.bU=w.bU):sZ (i+1) v:=by
 refine⟨by have:=h.sz;omega,by rw[h1];exact h.bL,by rw[U];exact h.bU,fun k=>?_⟩;rw[h1];have:=h.AB k;omega
theorem sZ.ig{i:Nat}{w:aP}{r:aq}(h:sZ i w)(he:0<=r.bq.bd/\r.bq.bd<=3):sZ (i+1) (ig w r):=by
 have aF:=h.bL;refine⟨?_,?_,?_,fun k=>?_⟩
 ·have:=V9 w r;have:=h.sz;omega
 ·unfold Go.Proofs.YtdchjefneblpgaaGreat.ig nM;dsimp only;rw[fR];exact aF
 ·unfold Go.Proofs.YtdchjefneblpgaaGreat.ig;dsimp only;rw[fR];exact h.bU
 unfold Go.Proofs.YtdchjefneblpgaaGreat.ig nM;dsimp only;by_cases hk:r.bq.bd.toNat=k
 ·subst hk;rw[N6 (by omega)];have:=h.AB r.bq.bd.toNat;omega
 rw[CI hk];have:=h.AB k;omega
theorem ast(g:b9)(w:aP):(e6 g w).1.bL=w.bL/\(e6 g w).1.bU=w.bU:=by
 rcases Wj g w with⟨_,k⟩ | ⟨_,r,q,_,_,k⟩<;>rw[k]<;>exact⟨rfl,rfl⟩
theorem asu(g:b9)(w:aP):(e5 g w).1.bL=w.bL/\(e5 g w).1.bU=w.bU:=by
 rcases Wk g w with⟨_,k⟩ | ⟨_,r,q,_,_,_,k⟩<;>rw[k]<;>exact⟨rfl,rfl⟩
theorem zW(b:List Int)(g:b9)(ay:g.sz<=1000):∀(n i:Nat) (w:aP) (c:dG),i+n=7->c.ok b->sZ i w->
  ∃(v:aP) (d:dG),d.ok b/\sZ 7 v/\c5 prog (ar f326 0) (rE (b.map gJ) i (w.queue.map aq.e) (w.cj.map aq.e) (w.bO.map aq.e) (w.cells.map Cell.e) (w.bL.map bh) (w.bU.map cD) (w.bx.map cD) (w.b8.map cR.e) (g.nodes.map Node.e) g.az g.cap c.i c.h) (.exit 0)
   (Nk (b.map gJ) (v.queue.map aq.e) (v.cj.map aq.e) (v.bO.map aq.e) (v.cells.map Cell.e) (v.bL.map bh) (v.bU.map cD) (v.bx.map cD) (v.b8.map cR.e) d.i d.h)
 | n,i,w,c,lz,aj,hw=>by
  obtain⟨d1,m,ci,av,bF⟩:=eb b c 8 aj (by omega);have bi:=hw.sz;have ab8:g.nodes.length<=1000:=by have:=UC (sz:=Node.sz) (xs:=g.nodes) (m:=1000) ay;exact this
  by_cases h:(i:Int)<m
  ·match n with
   | 0=>omega
   | n+1=>
    obtain⟨d2,k,b6,hk,bQ⟩:=eb b d1 5 ci (by omega);by_cases bu:k=0
    ·have z:=V8 g w;obtain⟨q1,iv⟩:=asu g w;obtain⟨j9,d,o,eF,eV⟩:=zW b g ay n (i+1) (e5 g w).1 d2 (by omega) b6 (hw.mono (by omega) q1 iv);exact⟨j9,d,o,eF,.more (arh ⟨bF,jj h,bQ,by simp[bu],as4 g w (by omega) (by omega),⟨by omega,by omega⟩,aa⟩) eV⟩
    by_cases e1:k=1
    ·obtain⟨d3,r,ct,he,cb⟩:=ass b d2 g b6 ab8;obtain⟨j9,d,o,eF,eV⟩:=zW b g ay n (i+1) (ig w r) d3 (by omega) ct (hw.ig he);have aCO:=hw.AB r.bq.bd.toNat;have aBp:=as0 w r (by omega) hw.bL hw.bU he ⟨by omega,by omega⟩;exact⟨j9,d,o,eF,.more (arj ⟨bF,jj h,bQ,by simp[bu],by simp[e1],ari ⟨cb,aBp,aa⟩,⟨by omega,by omega⟩,aa⟩) eV⟩
    by_cases e2:k=2
    ·have pX:w.cj=[]\/∃r t,w.cj=r::t:=by
      cases w.cj with
      | nil=>exact .inl rfl
      | cons r t=>exact .inr ⟨r,t,rfl⟩
     rcases pX with fb | ⟨r,t0,fb⟩
     ·obtain⟨j9,d,o,eF,eV⟩:=zW b g ay n (i+1) w d2 (by omega) b6 (hw.mono (by omega) rfl rfl);have us:=as2 w (by omega) fb;exact⟨j9,d,o,eF,.more (WR ⟨bF,jj h,bQ,by simp[bu],by simp[e1],by simp[e2],us,⟨by omega,by omega⟩,aa⟩) eV⟩
     have z:=NS fb;obtain⟨j9,d,o,eF,eV⟩:=zW b g ay n (i+1) (hn w t0) d2 (by omega) b6 (hw.mono (by omega) rfl rfl);have us:=as1 w r t0 (by omega) fb;exact⟨j9,d,o,eF,.more (WR ⟨bF,jj h,bQ,by simp[bu],by simp[e1],by simp[e2],us,⟨by omega,by omega⟩,aa⟩) eV⟩
    have z:=V7 g w;obtain⟨q1,iv⟩:=ast g w;obtain⟨j9,d,o,eF,eV⟩:=zW b g ay n (i+1) (e6 g w).1 d2 (by omega) b6 (hw.mono (by omega) q1 iv);exact⟨j9,d,o,eF,.more (ark ⟨bF,jj h,bQ,by simp[bu],by simp[e1],by simp[e2],as3 g w (by omega) (by omega),⟨by omega,by omega⟩,aa⟩) eV⟩
  refine⟨w,d1,ci,⟨by omega,hw.bL,hw.bU,fun k=>?_⟩,.last (cH 0) (arl ⟨bF,lQ h,aa⟩)⟩;have:=hw.AB k;omega
theorem asv(b:List Int)(c:dG)(g:b9)(ay:g.sz<=1000)(aj:c.ok b):∃(d:dG) (w:aP),d.ok b/\sZ 7 w/\bW prog 326 [.cur (c.e b) (d.e b),.ro (.agg g.e)] (.vals [.agg w.e]):=by
 obtain⟨d1,xs,ci,hs,gS,bF⟩:=Xj b c aj;obtain⟨w,d,o,eF,eV⟩:=zW b g ay 7 0 (t' xs) d1 rfl ci (by
  refine⟨by simp[t',aP.sz];omega,by simp[t'],by simp[t'],fun k=>?_⟩;have:(t' xs).bL.getD k 0=0:=by
   change ([0,0,0,0]:List Int).getD k 0=0;rcases k with _ | _ | _ | _ | k<;>simp
  omega)
 exact⟨d,w,o,eF,arm ⟨bF,Xe xs (by omega),eV,aa⟩⟩
theorem asw(v:Bool):Flat [[B v]]:=dD (by intro d aG;simp only[eP,nZ,or_false]at aG;subst aG;exact⟨_,rfl⟩)
theorem asx(b:List Int)(c:dG)(g:b9)(ay:g.sz<=1000)(aj:c.ok b):∃(d:dG) (w:aP),d.ok b/\w.sz<=100/\bW prog 277 [.cur (c.e b) (d.e b),.ro (.agg g.e)] (.vals [.agg w.e]):=by
 obtain⟨d1,w,ci,hw,bF⟩:=asv b c g ay aj;obtain⟨d2,k,b6,hk,bQ⟩:=eb b d1 16 ci (by omega);have bi:=hw.sz;have aF:=hw.bL;have Kc:=bi;simp only[aP.sz]at Kc;have aDc:w.queue.length<=1000:=by omega
 by_cases bu:k=0
 ·obtain⟨d3,r,ct,aA,cb⟩:=zU b d2 b6;have:=aro ⟨bF,bQ,by simp[bu],arn ⟨cb,by simp;omega,by simp;omega,yn r,aa⟩,aa⟩;refine⟨d3,⟨w.queue++[r],w.cj,w.bO,w.cells,w.bL,w.bU,w.bx,w.b8⟩,ct,by simp[aP.sz];omega,?_⟩;unfold aP.e;dsimp only;rw[fQ];exact this
 by_cases e1:k=1
 ·obtain⟨d3,r,ct,aA,cb⟩:=Gc b d2 b6;have:=arq ⟨bF,bQ,by simp[bu],by simp[e1],arp ⟨cb,by simp;omega,by simp;omega,yn r,aa⟩,aa⟩;refine⟨d3,⟨w.queue,w.cj,w.bO++[r],w.cells,w.bL,w.bU,w.bx,w.b8⟩,ct,by simp[aP.sz];omega,?_⟩;unfold aP.e;dsimp only;rw[fQ];exact this
 by_cases e2:k=2
 ·obtain⟨d3,v,ct,bp,cb⟩:=eb b d2 4 b6 (by omega);have yD:((w.bL.map bh).length:Int)=4:=by simp[aF]
  have:=art ⟨bF,bQ,by simp[bu],by simp[e1],by simp[e2],ars ⟨cb,by decide,bp.1,by change v<=_;omega,aa⟩,aa⟩;refine⟨d3,⟨w.queue,w.cj,w.bO,w.cells,w.bL.take v.toNat,w.bU,w.bx,w.b8⟩,ct,by simp[aP.sz];omega,?_⟩;unfold aP.e;dsimp only;rw[pJ];exact this
 by_cases cg:k=3
 ·obtain⟨d3,v,ct,bp,cb⟩:=l5 b d2 [1000000,1000001,-1000001] b6 (by simp);obtain⟨y,bf⟩:=c9 (xs:=w.bL) (i:=0) (by omega);have ot:(w.bL.map bh)[0]?=some [I y]:=by rw[dq,bf];rfl
  have:=arv ⟨bF,bQ,by simp[bu],by simp[e1],by simp[e2],by simp[cg],aru ⟨cb,by decide,by simp[aF],ot,aa⟩,aa⟩;refine⟨d3,⟨w.queue,w.cj,w.bO,w.cells,w.bL.set 0 v,w.bU,w.bx,w.b8⟩,ct,by simp[aP.sz];omega,?_⟩;unfold aP.e;dsimp only;rw[h6];exact this
 by_cases eo:k=4
 ·obtain⟨d3,v,ct,bp,cb⟩:=eb b d2 6 b6 (by omega);have:=arx ⟨bF,bQ,by simp[bu],by simp[e1],by simp[e2],by simp[cg],by simp[eo],arw ⟨cb,⟨by omega,by omega⟩,by simp;omega,by simp;omega,dD (cR.flat ⟨v-1,false⟩),aa⟩,aa⟩;refine⟨d3,⟨w.queue,w.cj,w.bO,w.cells,w.bL,w.bU,w.bx,w.b8++[⟨v-1,false⟩]⟩,ct,by simp[aP.sz];omega,?_⟩;unfold aP.e;dsimp only;rw[fQ];exact this
 by_cases h9:k=5
 ·obtain⟨d3,v,ct,bp,cb⟩:=eb b d2 2 b6 (by omega);have:=ary ⟨bF,bQ,by simp[bu],by simp[e1],by simp[e2],by simp[cg],by simp[eo],by simp[h9],cb,aa⟩;exact⟨d3,⟨w.queue,w.cj,w.bO,w.cells,w.bL,w.bU,w.bx,[⟨1,false⟩,⟨v,true⟩]⟩,ct,by simp[aP.sz];omega,this⟩
 by_cases nA:k=6
 ·have:=arz ⟨bF,bQ,by simp[bu],by simp[e1],by simp[e2],by simp[cg],by simp[eo],by simp[h9],by simp[nA],by simp;omega,by simp;omega,asw true,aa⟩;refine⟨d2,⟨w.queue,w.cj,w.bO,w.cells,w.bL,w.bU++[true],w.bx,w.b8⟩,b6,by simp[aP.sz];omega,?_⟩;unfold aP.e;dsimp only;rw[fQ];exact this
 by_cases n':k=7
 ·have:=arA ⟨bF,bQ,by simp[bu],by simp[e1],by simp[e2],by simp[cg],by simp[eo],by simp[h9],by simp[nA],by simp[n'],by simp;omega,by simp;omega,dD (Cell.flat ⟨0,0,0,0⟩),aa⟩;refine⟨d2,⟨w.queue,w.cj,w.bO,w.cells++[⟨0,0,0,0⟩],w.bL,w.bU,w.bx,w.b8⟩,b6,by simp[aP.sz];omega,?_⟩;unfold aP.e;dsimp only;rw[fQ];exact this
 exact⟨d2,w,b6,by omega,arB ⟨bF,bQ,by simp[bu],by simp[e1],by simp[e2],by simp[cg],by simp[eo],by simp[h9],by simp[nA],by simp[n'],aa⟩⟩
end Go.Proofs.YtdchjefneblpgaaGreat
namespace Go.Proofs.YtdchjefneblpgaaGreat
open Go.Sx Go.RowKit Go.Proofs.Tryz
theorem YC{α:Type}{sz:α->Nat}{xs:List α}{i:Nat}{x y:α}(h:xs[i]?=some y):fs sz (xs.set i x)<=fs sz xs+sz x:=by
 have:=xO (sz:=sz) x h;omega
theorem OR(b:List Int)(c:dG)(aj:c.ok b):∃(d:dG) (x:a'),d.ok b/\(DL x/\x.sz<=8400)/\bW prog 185 [.cur (c.e b) (d.e b)] (.vals [.agg x.e]):=by
 obtain⟨d1,x,ci,vT,bF⟩:=asp b c aj;have bi:=vT.sz;have Kc:=bi;simp only[a'.sz]at Kc;have aCT:=vT.aE.size;have ab9:=vT.aE.az;have Br:=vT.x4;have En:=vT.CV.Bz;have Bj:=vT.CV.tok;have gA:=vT.CV.cap;have uT:=vT.dy;have nums:∀l∈x.bP,aD .i64 l.cap/\l.dy<=9223372036854775807:=fun l ap=>⟨⟨by have:=gA l ap;omega,by have:=gA l ap;omega⟩,uT l ap⟩
 have wx:aD .i64 x.aE.az:=⟨by omega,by omega⟩
 have acB:((x.az.map aP.e).length:Int)=x.az.length:=by simp
 have qX:((x.bP.map bw.e).length:Int)=x.bP.length:=by simp
 have bz:((x.tokens.map b4.e).length:Int)=4:=by simp[Bj]
 have aCY:x.bP.length<=8000:=by have:=UC (sz:=bw.sz) (xs:=x.bP) (m:=8000) (by omega);exact this
 obtain⟨d2,k,b6,hk,bQ⟩:=eb b d1 (x.az.length:Int) ci (by omega);rw[<-acB]at bQ;obtain⟨d3,m,ct,hm,cb⟩:=eb b d2 20 b6 (by omega);by_cases bu:m=0
 ·obtain⟨d4,w,fB,hw,eE⟩:=asx b d3 x.aE (by omega) ct;obtain⟨y,bf⟩:=c9 (xs:=x.az) (i:=k.toNat) (by omega);have ot:(x.az.map aP.e)[k.toNat]?=some y.e:=by rw[dq,bf];rfl
  have:=arG ⟨bF,bQ,cb,by simp[bu],arF ⟨eE,hk.1,by omega,ot,aa⟩,aa⟩;refine⟨d4,⟨x.aE,x.az.set k.toNat w,x.bP,x.tokens,x.news⟩,fB,⟨⟨wx,nums⟩,?_⟩,?_⟩
  ·have:=YC (sz:=aP.sz) (x:=w) bf;simp only[a'.sz];omega
  unfold a'.e;dsimp only;rw[h6];exact this
 by_cases e1:m=1
 ·obtain⟨d4,i,fB,hi,eE⟩:=eb b d3 (x.bP.length:Int) ct (by omega);rw[<-qX]at eE;obtain⟨d5,l,tC,ap,k2⟩:=asr b d4 fB;obtain⟨y,bf⟩:=c9 (xs:=x.bP) (i:=i.toNat) (by omega);have ot:(x.bP.map bw.e)[i.toNat]?=some y.e:=by rw[dq,bf];rfl
  have:=aq5 ⟨bF,bQ,cb,by simp[bu],by simp[e1],aq4 ⟨eE,k2,hi.1,by omega,ot,aa⟩,aa⟩;refine⟨d5,⟨x.aE,x.az,x.bP.set i.toNat l,x.tokens,x.news⟩,tC,⟨⟨wx,fun z bi=>?_⟩,?_⟩,?_⟩
  ·rcases pH bi with bi | rfl
   ·exact nums z bi
   exact⟨⟨by have:=ap.cap;omega,by have:=ap.cap;omega⟩,ap.dy⟩
  ·have:=YC (sz:=bw.sz) (x:=l) bf;have:=ap.sz;simp only[a'.sz];omega
  unfold a'.e;dsimp only;rw[h6];exact this
 by_cases e2:m=2
 ·obtain⟨d4,i,fB,hi,eE⟩:=eb b d3 4 ct (by omega);obtain⟨d5,v,tC,bp,k2⟩:=eb b d4 6 fB (by omega);obtain⟨y,bf⟩:=c9 (xs:=x.tokens) (i:=i.toNat) (by omega);have ot:(x.tokens.map b4.e)[i.toNat]?=some y.e:=by rw[dq,bf];rfl
  have:=aq7 ⟨bF,bQ,cb,by simp[bu],by simp[e1],by simp[e2],aq6 ⟨eE,k2,⟨by omega,by omega⟩,hi.1,by omega,ot,aa⟩,aa⟩;refine⟨d5,⟨x.aE,x.az,x.bP,x.tokens.set i.toNat ⟨y.going,v-1,y.sum,y.bU,y.du⟩,x.news⟩,tC,⟨⟨wx,nums⟩,?_⟩,?_⟩
  ·simp only[a'.sz,fR];omega
  unfold a'.e;dsimp only;rw[h6];exact this
 by_cases cg:m=3
 ·obtain⟨d4,v,fB,bp,eE⟩:=l5 b d3 [1000000,1000001,-1000001,3] ct (by simp);obtain⟨y,bf⟩:=c9 (xs:=x.tokens) (i:=0) (by omega);have ot:(x.tokens.map b4.e)[0]?=some y.e:=by rw[dq,bf];rfl
  have:=aq9 ⟨bF,bQ,cb,by simp[bu],by simp[e1],by simp[e2],by simp[cg],aq8 ⟨eE,by decide,by omega,ot,aa⟩,aa⟩;refine⟨d4,⟨x.aE,x.az,x.bP,x.tokens.set 0 ⟨y.going,y.place,v,y.bU,y.du⟩,x.news⟩,fB,⟨⟨wx,nums⟩,?_⟩,?_⟩
  ·simp only[a'.sz,fR];omega
  unfold a'.e;dsimp only;rw[h6];exact this
 by_cases eo:m=4
 ·obtain⟨d4,u,fB,hu,eE⟩:=eb b d3 6 ct (by omega);obtain⟨d5,v,tC,bp,k2⟩:=eb b d4 6 fB (by omega);have pZ:x.news.length<=8000:=by omega
  have:=arb ⟨bF,bQ,cb,by simp[bu],by simp[e1],by simp[e2],by simp[cg],by simp[eo],ara ⟨eE,⟨by omega,by omega⟩,k2,⟨by omega,by omega⟩,by simp;omega,by simp;omega,dD (b1.flat ⟨u-1,v-1,false⟩),aa⟩,aa⟩;refine⟨d5,⟨x.aE,x.az,x.bP,x.tokens,x.news++[⟨u-1,v-1,false⟩]⟩,tC,⟨⟨wx,nums⟩,?_⟩,?_⟩
  ·simp only[a'.sz,fF,List.length_singleton];omega
  unfold a'.e;dsimp only;rw[fQ];exact this
 by_cases h9:m=5
 ·obtain⟨d4,g,fB,ay,eE⟩:=asY b d3 ct;have:=arc ⟨bF,bQ,cb,by simp[bu],by simp[e1],by simp[e2],by simp[cg],by simp[eo],by simp[h9],eE,aa⟩;refine⟨d4,⟨g,x.az,x.bP,x.tokens,x.news⟩,fB,⟨⟨⟨by dsimp only;omega,by dsimp only;omega⟩,nums⟩,?_⟩,this⟩;simp only[a'.sz];omega
 by_cases nA:m=6
 ·have:=ard ⟨bF,bQ,cb,by simp[bu],by simp[e1],by simp[e2],by simp[cg],by simp[eo],by simp[h9],by simp[nA],by decide,by change (0:Int)<=3;decide,by change (3:Int)<=_;omega,aa⟩;refine⟨d3,⟨x.aE,x.az,x.bP,x.tokens.take 3,x.news⟩,ct,⟨⟨wx,nums⟩,?_⟩,?_⟩
  ·simp only[a'.sz,ma];omega
  unfold a'.e;dsimp only;rw[pJ];exact this
 exact⟨d3,x,ct,⟨⟨wx,nums⟩,by omega⟩,asI ⟨bF,bQ,cb,by simp[bu],by simp[e1],by simp[e2],by simp[cg],by simp[eo],by simp[h9],by simp[nA],aa⟩⟩
