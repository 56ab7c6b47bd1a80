import Derived.Test.YtdchjefneblpgaaGreatP108
set_option linter.unusedVariables false
set_option linter.unusedSimpArgs false
namespace Go.Proofs.YtdchjefneblpgaaGreat
open Go.Sx Go.RowKit Go.Proofs.Tryz
theorem auR(b:List Int)(c:dW)(g:bV)(ak:c.ok b)(ax:g.nodes.length<=1000):∃(d:dW) (r:az),d.ok b/\(0<=r.bi.a8/\r.bi.a8<=3)/\b2 prog 350 [.cur (c.e b) (d.e b),.ro (.agg g.e)] (.vals [.agg r.e]):=by
 obtain⟨d1,r,cC,⟨_,U,_,_,_⟩,bx⟩:=GC b c ak;have zd:((g.nodes.map Node.e).length:Int)=g.nodes.length:=by simp
 by_cases bO:0<g.nodes.length
 ·have aE:decide (((g.nodes.map Node.e).length:Int)>0)=true:=dh (by omega);obtain⟨d2,k,cg,hk,b0⟩:=ek b d1 (g.nodes.length:Int) cC (by omega);rw[<-zd]at b0;obtain⟨d3,x,cL,ci⟩:=Ax b d2 4 cg (by omega);cases x with
  | true=>
   obtain⟨d4,t,fo,bG,eA⟩:=ek b d3 2 cL (by omega);exact⟨d4,⟨k,⟨r.bi.a8,5+t⟩,r.key,r.val⟩,fo,by grind,ar5 ⟨bx,aE,b0,ci,rfl,eA,⟨by omega,by omega⟩,aa⟩⟩
  | false=>exact⟨d3,⟨k,r.bi,r.key,r.val⟩,cL,by grind,ar6 ⟨bx,aE,b0,ci,rfl,aa⟩⟩
 have aE:decide (((g.nodes.map Node.e).length:Int)>0)=false:=ea (by omega);obtain⟨d3,x,cL,ci⟩:=Ax b d1 4 cC (by omega);cases x with
 | true=>
  obtain⟨d4,t,fo,bG,eA⟩:=ek b d3 2 cL (by omega);exact⟨d4,⟨r.op,⟨r.bi.a8,5+t⟩,r.key,r.val⟩,fo,by grind,ar7 ⟨bx,aE,ci,rfl,eA,⟨by omega,by omega⟩,aa⟩⟩
 | false=>exact⟨d3,r,cL,by omega,ar8 ⟨bx,aE,ci,rfl,aa⟩⟩
structure th (i:Nat) (w:aK):Prop where
 sz:w.sz<=40+2*i
 bB:w.bB.length=4
 bL:w.bL.length=4
 A8:∀k:Nat,-(i:Int)<=w.bB.getD k 0/\w.bB.getD k 0<=0
theorem th.mono{i:Nat}{w v:aK}(h:th i w)(ao:v.sz<=w.sz+2)(h1:v.bB=w.bB)(U:v.bL=w.bL):th (i+1) v:=by
 refine⟨by have:=h.sz;omega,by rw[h1];exact h.bB,by rw[U];exact h.bL,fun k=>?_⟩;rw[h1];have:=h.A8 k;omega
theorem th.h8{i:Nat}{w:aK}{r:az}(h:th i w)(he:0<=r.bi.a8/\r.bi.a8<=3):th (i+1) (h8 w r):=by
 have aJ:=h.bB;refine⟨?_,?_,?_,fun k=>?_⟩
 ·have:=WK w r;have:=h.sz;omega
 ·unfold Go.Proofs.YtdchjefneblpgaaGreat.h8 lY;dsimp only;rw[hc];exact aJ
 ·unfold Go.Proofs.YtdchjefneblpgaaGreat.h8;dsimp only;rw[hc];exact h.bL
 unfold Go.Proofs.YtdchjefneblpgaaGreat.h8 lY;dsimp only;by_cases hk:r.bi.a8.toNat=k
 ·subst hk;rw[Hv (by omega)];have:=h.A8 r.bi.a8.toNat;omega
 rw[xQ hk];have:=h.A8 k;omega
theorem auS(g:bV)(w:aK):(eX g w).1.bB=w.bB/\(eX g w).1.bL=w.bL:=by
 grind[Wm]
theorem auT(g:bV)(w:aK):(eY g w).1.bB=w.bB/\(eY g w).1.bL=w.bL:=by
 grind[Wn]
theorem Ab(b:List Int)(g:bV)(ax:g.sz<=1000):∀(n i:Nat) (w:aK) (c:dW),i+n=7->c.ok b->th i w->
  ∃(v:aK) (d:dW),d.ok b/\th 7 v/\c8 prog (ap f326 0) (rQ (b.map hY) i (w.queue.map az.e) (w.b8.map az.e) (w.bR.map az.e) (w.cells.map Cell.e) (w.bB.map bc) (w.bL.map cv) (w.bj.map cv) (w.bZ.map cx.e) (g.nodes.map Node.e) g.ar g.cap c.i c.h) (.exit 0)
   (OX (b.map hY) (v.queue.map az.e) (v.b8.map az.e) (v.bR.map az.e) (v.cells.map Cell.e) (v.bB.map bc) (v.bL.map cv) (v.bj.map cv) (v.bZ.map cx.e) d.i d.h)
 | n,i,w,c,iI,ak,hw=>by
  obtain⟨d1,m,cC,aw,bx⟩:=ek b c 8 ak (by omega);have bd:=hw.sz;have acz:g.nodes.length<=1000:=by have:=Da (sz:=Node.sz) (xs:=g.nodes) (m:=1000) ax;exact this
  by_cases h:(i:Int)<m
  ·match n with
   | 0=>omega
   | n+1=>
    obtain⟨d2,k,cg,hk,b0⟩:=ek b d1 5 cC (by omega);by_cases bE:k=0
    ·have z:=WJ g w;obtain⟨q1,jb⟩:=auT g w;obtain⟨jZ,d,o,eB,eV⟩:=Ab b g ax n (i+1) (eY g w).1 d2 (by omega) cg (hw.mono (by omega) q1 jb);exact⟨jZ,d,o,eB,.more (ar9 ⟨bx,lg h,b0,by simp[bE],arw g w (by omega) (by omega),⟨by omega,by omega⟩,aa⟩) eV⟩
    by_cases e1:k=1
    ·obtain⟨d3,r,cL,he,ci⟩:=auR b d2 g cg acz;obtain⟨jZ,d,o,eB,eV⟩:=Ab b g ax n (i+1) (h8 w r) d3 (by omega) cL (hw.h8 he);have aC1:=hw.A8 r.bi.a8.toNat;have aBj:=ar2 w r (by omega) hw.bB hw.bL he ⟨by omega,by omega⟩;exact⟨jZ,d,o,eB,.more (asb ⟨bx,lg h,b0,by simp[bE],by simp[e1],asa ⟨ci,aBj,aa⟩,⟨by omega,by omega⟩,aa⟩) eV⟩
    by_cases e2:k=2
    ·have ob:w.b8=[]\/∃r t,w.b8=r::t:=by
      cases w.b8 with
      | nil=>grind
      | cons r t=>grind
     rcases ob with fm | ⟨r,t0,fm⟩
     ·obtain⟨jZ,d,o,eB,eV⟩:=Ab b g ax n (i+1) w d2 (by omega) cg (hw.mono (by omega) rfl rfl);have us:=aru w (by omega) fm;exact⟨jZ,d,o,eB,.more (XT ⟨bx,lg h,b0,by simp[bE],by simp[e1],by simp[e2],us,⟨by omega,by omega⟩,aa⟩) eV⟩
     have z:=Nb fm;obtain⟨jZ,d,o,eB,eV⟩:=Ab b g ax n (i+1) (hP w t0) d2 (by omega) cg (hw.mono (by omega) rfl rfl);have us:=ar3 w r t0 (by omega) fm;exact⟨jZ,d,o,eB,.more (XT ⟨bx,lg h,b0,by simp[bE],by simp[e1],by simp[e2],us,⟨by omega,by omega⟩,aa⟩) eV⟩
    have z:=WI g w;obtain⟨q1,jb⟩:=auS g w;obtain⟨jZ,d,o,eB,eV⟩:=Ab b g ax n (i+1) (eX g w).1 d2 (by omega) cg (hw.mono (by omega) q1 jb);exact⟨jZ,d,o,eB,.more (asc ⟨bx,lg h,b0,by simp[bE],by simp[e1],by simp[e2],arv g w (by omega) (by omega),⟨by omega,by omega⟩,aa⟩) eV⟩
  refine⟨w,d1,cC,⟨by omega,hw.bB,hw.bL,fun k=>?_⟩,.last (cn 0) (asd ⟨bx,oL h,aa⟩)⟩;have:=hw.A8 k;omega
theorem auU(b:List Int)(c:dW)(g:bV)(ax:g.sz<=1000)(ak:c.ok b):∃(d:dW) (w:aK),d.ok b/\th 7 w/\b2 prog 326 [.cur (c.e b) (d.e b),.ro (.agg g.e)] (.vals [.agg w.e]):=by
 obtain⟨d1,xs,cC,gP,gz,bx⟩:=Nf b c ak;obtain⟨w,d,o,eB,eV⟩:=Ab b g ax 7 0 (lb xs) d1 rfl cC (by
  refine⟨by grind[lb,aK.sz],by simp[lb],by simp[lb],fun k=>?_⟩;grind[lb,List,Int])
 exact⟨d,w,o,eB,ase ⟨bx,Y8 xs (by omega),eV,aa⟩⟩
theorem auV(v:Bool):Flat [[B v]]:=fE (by grind)
theorem auW(b:List Int)(c:dW)(g:bV)(ax:g.sz<=1000)(ak:c.ok b):∃(d:dW) (w:aK),d.ok b/\w.sz<=100/\b2 prog 277 [.cur (c.e b) (d.e b),.ro (.agg g.e)] (.vals [.agg w.e]):=by
 obtain⟨d1,w,cC,hw,bx⟩:=auU b c g ax ak;obtain⟨d2,k,cg,hk,b0⟩:=ek b d1 16 cC (by omega);have bd:=hw.sz;have aJ:=hw.bB;have KU:=bd;simp only[aK.sz]at KU;have aDM:w.queue.length<=1000:=by omega
 by_cases bE:k=0
 ·obtain⟨d3,r,cL,aD,ci⟩:=VH b d2 cg;have:=asg ⟨bx,b0,by simp[bE],asf ⟨ci,by simp;omega,by simp;omega,Ji r,aa⟩,aa⟩;refine⟨d3,⟨w.queue++[r],w.b8,w.bR,w.cells,w.bB,w.bL,w.bj,w.bZ⟩,cL,by grind[aK.sz],?_⟩;unfold aK.e;dsimp only;rw[gi];exact this
 by_cases e1:k=1
 ·obtain⟨d3,r,cL,aD,ci⟩:=GC b d2 cg;have:=asi ⟨bx,b0,by simp[bE],by simp[e1],ash ⟨ci,by simp;omega,by simp;omega,Ji r,aa⟩,aa⟩;refine⟨d3,⟨w.queue,w.b8,w.bR++[r],w.cells,w.bB,w.bL,w.bj,w.bZ⟩,cL,by grind[aK.sz],?_⟩;unfold aK.e;dsimp only;rw[gi];exact this
 by_cases e2:k=2
 ·obtain⟨d3,v,cL,bI,ci⟩:=ek b d2 4 cg (by omega);have zd:((w.bB.map bc).length:Int)=4:=by simp[aJ]
  have:=asl ⟨bx,b0,by simp[bE],by simp[e1],by simp[e2],asj ⟨ci,by decide,bI.1,by grind,aa⟩,aa⟩;refine⟨d3,⟨w.queue,w.b8,w.bR,w.cells,w.bB.take v.toNat,w.bL,w.bj,w.bZ⟩,cL,by grind[aK.sz],?_⟩;unfold aK.e;dsimp only;rw[qJ];exact this
 by_cases cj:k=3
 ·obtain⟨d3,v,cL,bI,ci⟩:=mu b d2 [1000000,1000001,-1000001] cg (by simp);obtain⟨y,bD⟩:=c4 (xs:=w.bB) (i:=0) (by omega);have oj:(w.bB.map bc)[0]?=some [I y]:=by rw[dK,bD];rfl
  have:=asn ⟨bx,b0,by simp[bE],by simp[e1],by simp[e2],by simp[cj],asm ⟨ci,by decide,by simp[aJ],oj,aa⟩,aa⟩;refine⟨d3,⟨w.queue,w.b8,w.bR,w.cells,w.bB.set 0 v,w.bL,w.bj,w.bZ⟩,cL,by grind[aK.sz],?_⟩;unfold aK.e;dsimp only;rw[hE];exact this
 by_cases d':k=4
 ·obtain⟨d3,v,cL,bI,ci⟩:=ek b d2 6 cg (by omega);have:=asp ⟨bx,b0,by simp[bE],by simp[e1],by simp[e2],by simp[cj],by simp[d'],aso ⟨ci,⟨by omega,by omega⟩,by simp;omega,by simp;omega,fE (cx.flat ⟨v-1,false⟩),aa⟩,aa⟩;refine⟨d3,⟨w.queue,w.b8,w.bR,w.cells,w.bB,w.bL,w.bj,w.bZ++[⟨v-1,false⟩]⟩,cL,by grind[aK.sz],?_⟩;unfold aK.e;dsimp only;rw[gi];exact this
 by_cases hj:k=5
 ·obtain⟨d3,v,cL,bI,ci⟩:=ek b d2 2 cg (by omega);have:=asq ⟨bx,b0,by simp[bE],by simp[e1],by simp[e2],by simp[cj],by simp[d'],by simp[hj],ci,aa⟩;exact⟨d3,⟨w.queue,w.b8,w.bR,w.cells,w.bB,w.bL,w.bj,[⟨1,false⟩,⟨v,true⟩]⟩,cL,by grind[aK.sz],this⟩
 by_cases k2:k=6
 ·have:=asr ⟨bx,b0,by simp[bE],by simp[e1],by simp[e2],by simp[cj],by simp[d'],by simp[hj],by simp[k2],by simp;omega,by simp;omega,auV true,aa⟩;refine⟨d2,⟨w.queue,w.b8,w.bR,w.cells,w.bB,w.bL++[true],w.bj,w.bZ⟩,cg,by grind[aK.sz],?_⟩;unfold aK.e;dsimp only;rw[gi];exact this
 by_cases p1:k=7
 ·have:=ass ⟨bx,b0,by simp[bE],by simp[e1],by simp[e2],by simp[cj],by simp[d'],by simp[hj],by simp[k2],by simp[p1],by simp;omega,by simp;omega,fE (Cell.flat ⟨0,0,0,0⟩),aa⟩;refine⟨d2,⟨w.queue,w.b8,w.bR,w.cells++[⟨0,0,0,0⟩],w.bB,w.bL,w.bj,w.bZ⟩,cg,by grind[aK.sz],?_⟩;unfold aK.e;dsimp only;rw[gi];exact this
 exact⟨d2,w,cg,by omega,ast ⟨bx,b0,by simp[bE],by simp[e1],by simp[e2],by simp[cj],by simp[d'],by simp[hj],by simp[k2],by simp[p1],aa⟩⟩
end Go.Proofs.YtdchjefneblpgaaGreat
namespace Go.Proofs.YtdchjefneblpgaaGreat
open Go.Sx Go.RowKit Go.Proofs.Tryz
theorem Yo{α:Type}{sz:α->Nat}{xs:List α}{i:Nat}{x y:α}(h:xs[i]?=some y):fs sz (xs.set i x)<=fs sz xs+sz x:=by
 have:=xJ (sz:=sz) x h;omega
theorem OJ(b:List Int)(c:dW)(ak:c.ok b):∃(d:dW) (x:aT),d.ok b/\(wF x/\x.sz<=8400)/\b2 prog 185 [.cur (c.e b) (d.e b)] (.vals [.agg x.e]):=by
 obtain⟨d1,x,cC,pL,bx⟩:=arz b c ak;have bd:=pL.sz;have KU:=bd;simp only[aT.sz]at KU;have aDa:=pL.ay.size;have acA:=pL.ay.ar;have vg:=pL.wj;have BE:=pL.DM.B5;have BQ:=pL.DM.tok;have fZ:=pL.DM.cap;have u':=pL.cW;have nums:∀l∈x.bJ,aL .i64 l.cap/\l.cW<=9223372036854775807:=fun l al=>⟨⟨by have:=fZ l al;omega,by have:=fZ l al;omega⟩,u' l al⟩
 have wP:aL .i64 x.ay.ar:=⟨by omega,by omega⟩
 have acY:((x.ar.map aK.e).length:Int)=x.ar.length:=by simp
 have lp:((x.bJ.map bm.e).length:Int)=x.bJ.length:=by simp
 have bS:((x.tokens.map bP.e).length:Int)=4:=by simp[BQ]
 have aDi:x.bJ.length<=8000:=by have:=Da (sz:=bm.sz) (xs:=x.bJ) (m:=8000) (by omega);exact this
 obtain⟨d2,k,cg,hk,b0⟩:=ek b d1 (x.ar.length:Int) cC (by omega);rw[<-acY]at b0;obtain⟨d3,m,cL,hm,ci⟩:=ek b d2 20 cg (by omega);by_cases bE:m=0
 ·obtain⟨d4,w,fo,hw,eA⟩:=auW b d3 x.ay (by omega) cL;obtain⟨y,bD⟩:=c4 (xs:=x.ar) (i:=k.toNat) (by omega);have oj:(x.ar.map aK.e)[k.toNat]?=some y.e:=by rw[dK,bD];rfl
  have:=arE ⟨bx,b0,ci,by simp[bE],asu ⟨eA,hk.1,by omega,oj,aa⟩,aa⟩;refine⟨d4,⟨x.ay,x.ar.set k.toNat w,x.bJ,x.tokens,x.news⟩,fo,⟨⟨wP,nums⟩,?_⟩,?_⟩
  ·have:=Yo (sz:=aK.sz) (x:=w) bD;simp only[aT.sz];omega
  unfold aT.e;dsimp only;rw[hE];exact this
 by_cases e1:m=1
 ·obtain⟨d4,i,fo,hi,eA⟩:=ek b d3 (x.bJ.length:Int) cL (by omega);rw[<-lp]at eA;obtain⟨d5,l,rr,al,j7⟩:=arB b d4 fo;obtain⟨y,bD⟩:=c4 (xs:=x.bJ) (i:=i.toNat) (by omega);have oj:(x.bJ.map bm.e)[i.toNat]?=some y.e:=by rw[dK,bD];rfl
  have:=arG ⟨bx,b0,ci,by simp[bE],by simp[e1],arF ⟨eA,j7,hi.1,by omega,oj,aa⟩,aa⟩;refine⟨d5,⟨x.ay,x.ar,x.bJ.set i.toNat l,x.tokens,x.news⟩,rr,⟨⟨wP,fun z bd=>?_⟩,?_⟩,?_⟩
  ·rcases iq bd with bd | rfl
   ·exact nums z bd
   exact⟨⟨by have:=al.cap;omega,by have:=al.cap;omega⟩,al.cW⟩
  ·have:=Yo (sz:=bm.sz) (x:=l) bD;have:=al.sz;simp only[aT.sz];omega
  unfold aT.e;dsimp only;rw[hE];exact this
 by_cases e2:m=2
 ·obtain⟨d4,i,fo,hi,eA⟩:=ek b d3 4 cL (by omega);obtain⟨d5,v,rr,bI,j7⟩:=ek b d4 6 fo (by omega);obtain⟨y,bD⟩:=c4 (xs:=x.tokens) (i:=i.toNat) (by omega);have oj:(x.tokens.map bP.e)[i.toNat]?=some y.e:=by rw[dK,bD];rfl
  have:=arI ⟨bx,b0,ci,by simp[bE],by simp[e1],by simp[e2],arH ⟨eA,j7,⟨by omega,by omega⟩,hi.1,by omega,oj,aa⟩,aa⟩;refine⟨d5,⟨x.ay,x.ar,x.bJ,x.tokens.set i.toNat ⟨y.going,v-1,y.sum,y.bL,y.cf⟩,x.news⟩,rr,⟨⟨wP,nums⟩,?_⟩,?_⟩
  ·simp only[aT.sz,hc];omega
  unfold aT.e;dsimp only;rw[hE];exact this
 by_cases cj:m=3
 ·obtain⟨d4,v,fo,bI,eA⟩:=mu b d3 [1000000,1000001,-1000001,3] cL (by simp);obtain⟨y,bD⟩:=c4 (xs:=x.tokens) (i:=0) (by omega);have oj:(x.tokens.map bP.e)[0]?=some y.e:=by rw[dK,bD];rfl
  have:=arK ⟨bx,b0,ci,by simp[bE],by simp[e1],by simp[e2],by simp[cj],arJ ⟨eA,by decide,by omega,oj,aa⟩,aa⟩;refine⟨d4,⟨x.ay,x.ar,x.bJ,x.tokens.set 0 ⟨y.going,y.place,v,y.bL,y.cf⟩,x.news⟩,fo,⟨⟨wP,nums⟩,?_⟩,?_⟩
  ·simp only[aT.sz,hc];omega
  unfold aT.e;dsimp only;rw[hE];exact this
 by_cases d':m=4
 ·obtain⟨d4,u,fo,hu,eA⟩:=ek b d3 6 cL (by omega);obtain⟨d5,v,rr,bI,j7⟩:=ek b d4 6 fo (by omega);have ve:x.news.length<=8000:=by omega
  have:=arM ⟨bx,b0,ci,by simp[bE],by simp[e1],by simp[e2],by simp[cj],by simp[d'],arL ⟨eA,⟨by omega,by omega⟩,j7,⟨by omega,by omega⟩,by simp;omega,by simp;omega,fE (bT.flat ⟨u-1,v-1,false⟩),aa⟩,aa⟩;refine⟨d5,⟨x.ay,x.ar,x.bJ,x.tokens,x.news++[⟨u-1,v-1,false⟩]⟩,rr,⟨⟨wP,nums⟩,?_⟩,?_⟩
  ·simp only[aT.sz,hs,List.length_singleton];omega
  unfold aT.e;dsimp only;rw[gi];exact this
 by_cases hj:m=5
 ·obtain⟨d4,g,fo,ax,eA⟩:=ar0 b d3 cL;have:=arN ⟨bx,b0,ci,by simp[bE],by simp[e1],by simp[e2],by simp[cj],by simp[d'],by simp[hj],eA,aa⟩;refine⟨d4,⟨g,x.ar,x.bJ,x.tokens,x.news⟩,fo,⟨⟨⟨by dsimp only;omega,by dsimp only;omega⟩,nums⟩,?_⟩,this⟩;simp only[aT.sz];omega
 by_cases k2:m=6
 ·have:=arO ⟨bx,b0,ci,by simp[bE],by simp[e1],by simp[e2],by simp[cj],by simp[d'],by simp[hj],by simp[k2],by decide,by change (0:Int)<=3;decide,by change (3:Int)<=_;omega,aa⟩;refine⟨d3,⟨x.ay,x.ar,x.bJ,x.tokens.take 3,x.news⟩,cL,⟨⟨wP,nums⟩,?_⟩,?_⟩
  ·simp only[aT.sz,nS];omega
  unfold aT.e;dsimp only;rw[qJ];exact this
 exact⟨d3,x,cL,⟨⟨wP,nums⟩,by omega⟩,arP ⟨bx,b0,ci,by simp[bE],by simp[e1],by simp[e2],by simp[cj],by simp[d'],by simp[hj],by simp[k2],aa⟩⟩
end Go.Proofs.YtdchjefneblpgaaGreat
namespace Go.Proofs.YtdchjefneblpgaaGreat
open Go.Sx Go.RowKit Go.Proofs.Tryz
def vE(op ep key:Int)(a:Cell):Bool:=decide (a.op=op/\a.a8=ep/\a.key=key)
theorem Yp(op ep key:Int):∀(xs:List Cell) (s:Int×Bool),
  ((s.2=true->(xs.foldl (fp op ep key) s).2=true/\(xs.foldl (fp op ep key) s).1<=s.1))/\
  (∀a∈xs,vE op ep key a=true->(xs.foldl (fp op ep key) s).2=true/\(xs.foldl (fp op ep key) s).1<=a.val)
 | [],s=>⟨fun h=>⟨h,Int.le_refl _⟩,by simp⟩
 | x::xs,s=>by
  obtain⟨h1,U⟩:=Yp op ep key xs (fp op ep key s x);rw[List.foldl_cons];have ao:s.2=true->(fp op ep key s x).2=true/\(fp op ep key s x).1<=s.1:=by
   intro h;unfold fp;split
   ·rename_i ak;obtain⟨_,_,_,ak⟩:=ak;refine⟨rfl,?_⟩;rcases ak with ak | ak
    ·rw[h]at ak;cases ak
    show x.val<=s.1;omega
   exact⟨h,Int.le_refl _⟩
  have af:vE op ep key x=true->(fp op ep key s x).2=true/\(fp op ep key s x).1<=x.val:=by
   intro h;simp only[vE,ck]at h;unfold fp;split
   ·exact⟨rfl,Int.le_refl _⟩
   rename_i ak;have aA:¬(s.2=false\/x.val<s.1):=fun aJ=>ak ⟨h.1,h.2.1,h.2.2,aJ⟩
   have aJ:s.2=true:=by
    cases e:s.2 with
    | true=>rfl
    | false=>exact absurd (.inl e) aA
   exact⟨aJ,by have:¬x.val<s.1:=fun a'=>aA (.inr a');omega⟩
  refine⟨fun h=>?_,fun a ai nA=>?_⟩
  ·obtain⟨aA,aJ⟩:=ao h;obtain⟨a',bu⟩:=h1 aA;exact⟨a',abj bu aJ⟩
  rcases eH.1 ai with rfl | ai
  ·obtain⟨aA,aJ⟩:=af nA;obtain⟨a',bu⟩:=h1 aA;exact⟨a',abj bu aJ⟩
  exact U a ai nA
theorem auX{xs:List Cell}{op ep key:Int}{a:Cell}(ai:a∈xs)(h:vE op ep key a=true):(px xs op ep key).2=true/\(px xs op ep key).1<=a.val:=
 (Yp op ep key xs (0,false)).2 a ai h
def auY(e:Int)(a:Cell):Prop:=a.a8=e/\0<=a.op/\a.op<8/\0<=a.key/\a.key<=99/\0<=a.val/\a.val<=999
def auZ(a:Cell):Nat:=a.op.toNat*100+a.key.toNat
structure aB4 (e:Int) (xs:List Cell):Prop where
 uO:∀a∈xs,auY e a
 apart:(xs.map auZ).Nodup
theorem Yq(xs:List Cell)(x:Cell):nK xs x=true<->x∈xs:=by
 simp only[nK,oK,ck];constructor
 ·rintro⟨a,ai,rfl⟩;exact ai
 exact fun h=>⟨x,h,rfl⟩
theorem au0{xs:List Cell}{x:Cell}(aw:(h7 xs x).2=false):(h7 xs x).1=xs:=by
 unfold h7 at aw ⊢;split
 ·rfl
 rename_i ak;rw[bw ak]at aw;cases aw
def cellsOf(e:Int)(r:az):Cell:=⟨0,e,r.key,r.val⟩
def rounds(n:Nat):Nat:=2400000+n
end Go.Proofs.YtdchjefneblpgaaGreat
namespace Go.Proofs.YtdchjefneblpgaaGreat
open Go.Sx Go.RowKit Go.Proofs.Tryz
variable{xs:List Cell}
theorem Yr{x z:Cell}:z∈kq xs x<->z=x\/z∈xs:=by
 unfold kq;split
 ·grind[Yq,id]
 generalize mB xs x=n;have e:z∈xs<->z∈xs.take n\/z∈xs.drop n:=by rw[<-ia,Ep]
 grind
theorem Ys(op ep key:Int):∀(xs:List Cell) (s:Int×Bool),(xs.foldl (fp op ep key) s).2=true->
  (s.2=true/\(xs.foldl (fp op ep key) s).1=s.1)\/∃a∈xs,vE op ep key a=true/\a.val=(xs.foldl (fp op ep key) s).1
 | [],s,h=>.inl ⟨h,rfl⟩
 | x::xs,s,h=>by
  rw[List.foldl_cons]at h ⊢;rcases Ys op ep key xs (fp op ep key s x) h with⟨h1,U⟩ | ⟨a,ai,h1,U⟩
  ·rw[U];unfold fp at h1 ⊢;split
   ·simp_all[hU,vE,ck]
   grind
  grind
variable{u:Cell}
theorem xR{a:Cell}:eT u a=true<->a.op=u.op/\a.a8=u.a8/\a.key=u.key:=by
 simp only[eT,cw,ka];grind
def uv(k:Int)(xs:List Cell)(u:Cell):Prop:=if k=6 then u∈xs else ∃a∈xs,eT u a=true/\a.val<=u.val
theorem au1(xs:List Cell)(u:Cell):(h7 xs u).2=false<->∃a∈xs,eT u a=true/\a.val<=u.val:=by
 unfold h7;constructor
 ·intro h;split at h
  ·rename_i ak;simp only[cw,ck]at ak;rcases Ys u.op u.a8 u.key xs (0,false) ak.1 with⟨h1,_⟩ | ⟨a,ai,h1,U⟩
   ·cases h1
   simp only[vE,ck]at h1;exact⟨a,ai,xR.2 h1,by rw[U];exact ak.2⟩
  cases h
 rintro⟨a,ai,h1,U⟩;obtain⟨cS,bt⟩:=auX ai (op:=u.op) (ep:=u.a8) (key:=u.key) (by simp only[vE,ck];exact xR.1 h1);grind
variable{k:Int}
theorem N7(hk:k=5\/k=6\/k=8)(xs:List Cell)(u:Cell):(cA k xs u).2=false<->uv k xs u:=by
 unfold cA uv;by_cases bu:k=6
 ·rw[bn bu,bn bu,<-Yq];grind
 simp_all[bw,bn,au1]
theorem xS(a':k≠5)(bu:k≠6)(dy:k≠8)(xs:List Cell)(u:Cell):cA k xs u=(xs,true):=by
 simp_all[cA,bw]
theorem au2(h:(cA k xs u).2=false):(cA k xs u).1=xs:=by
 unfold cA at h ⊢;split
 ·grind
 rename_i bu;rw[bw bu]at h;split
 ·simp_all[bn,au0]
 rfl
theorem HF(hk:k=5\/k=6\/k=8){z:Cell}(h:(cA k xs u).2=true):z∈(cA k xs u).1<->z=u\/(z∈xs/\(k≠6->eT u z=false)):=by
 unfold cA at h ⊢;by_cases bu:k=6
 ·rw[bn bu]at h ⊢;split
  ·grind
  grind[Yr,id,absurd]
 rw[bw bu,bn (by omega)]at h ⊢;unfold h7 at h ⊢;split
 ·grind
 grind[Yr,hb,id]
theorem au3{ch:Int}(hk:k=5\/k=6\/k=8){y:Cell}(kE:y.op=u.op->ch=k)(h:uv k xs u):uv k (cA ch xs y).1 u:=by
 cases aD:(cA ch xs y).2 with
 | false=>grind[au2]
 | true=>
  by_cases jT:ch=5\/ch=6\/ch=8
  case neg=>grind[xS]
  unfold uv at h ⊢;by_cases bu:k=6
  ·rw[bn bu]at h ⊢;rw[HF jT aD];refine .inr ⟨h,fun cX=>?_⟩;rw[uF];intro ao;exact cX ((kE (xR.1 ao).1.symm).trans bu)
  rw[bw bu]at h ⊢;obtain⟨a,ai,ao,bI⟩:=h;obtain⟨s1,s2,HU⟩:=xR.1 ao;by_cases adn:ch≠6/\eT y a=true
  ·obtain⟨t1,t2,t3⟩:=xR.1 adn.2;refine⟨y,(HF jT aD).2 (.inl rfl),xR.2 ⟨by omega,by omega,by omega⟩,?_⟩;have nb:¬uv ch xs y:=fun q=>by grind[N7]
   unfold uv at nb;grind
  refine⟨a,(HF jT aD).2 (.inr ⟨ai,fun cX=>?_⟩),ao,bI⟩;grind
theorem au4(hk:k=5\/k=6\/k=8)(h:(cA k xs u).2=true):uv k (cA k xs u).1 u:=by
 have hm:=(HF hk (z:=u) h).2 (.inl rfl);unfold uv;split
 ·exact hm
 exact⟨u,hm,xR.2 ⟨rfl,rfl,rfl⟩,Int.le_refl _⟩
variable{x:Node}{g:bV}
theorem au5{op:Int}(h:fS g op=some x):0<=op/\g.nodes[op.toNat]?=some x:=by
 grind[fS]
theorem Yt(ax:eh g=true){op:Int}(h:fS g op=some x):aQ x=true:=by
 simp only[eh,cw,hb]at ax;have:=C' ax.2 op.toNat x (au5 h).2;simp_all[dV,jD,gl,kd]
variable{r:az}
theorem DE(h:eJ r=true):fy r.key r.val=true:=by
 simp_all[eJ,cw]
theorem auv{cs:List Cell}(ax:eh g=true)(aD:eJ r=true)(af:fS g r.op=some x):(dq g cs r).1=(cA x.kind cs (cellOf r)).1:=by
 have aZ:=Yt ax af;have hi:=DE aD;unfold dq;rw[af];simp only[dU,ax,aD,Bool.and_self,gj];split
 ·rename_i ak;simp only[cw,hb,bne_iff_ne,l6]at ak;have aA:x.kind=3:=by
   refine Classical.byContradiction fun aA=>?_
   have:=ak.1;unfold cI at this;grind
  grind[xS]
 split
 ·rfl
 ·split<;>rfl
theorem auw{cs:List Cell}(ax:eh g=true)(aD:eJ r=true)(af:fS g r.op=some x):(dq g cs r).2.1=
  if (!(cI x r.key r.val).2.2&&x.kind != 8)=true then [] else if (cA x.kind cs (cellOf r)).2=false then []
  else if x.kind=7 then (if (e9 r.bi).2=true then fq x (e9 r.bi).1 (cI x r.key r.val).1 (cI x r.key r.val).2.1 else []) else fq x r.bi (cI x r.key r.val).1 (cI x r.key r.val).2.1:=by
 unfold dq;rw[af];simp only[dU,ax,aD,Bool.and_self,gj];split
 ·rfl
 rw[show (⟨r.op,r.bi.a8,r.key,r.val⟩:Cell)=cellOf r from rfl];grind
end Go.Proofs.YtdchjefneblpgaaGreat
namespace Go.Proofs.YtdchjefneblpgaaGreat
open Go.Sx Go.RowKit Go.Proofs.Tryz
structure lk (F I:az->Prop) (c:aT):Prop where
 w:∀x∈c.ar,∀r,r∈x.queue\/r∈x.b8->F r
 l:∀l∈c.bJ,∀r∈l.queue,F r
 i:∀x∈c.ar,∀r∈x.bR,I r
variable{F I:az->Prop}
theorem lk.setW{c:aT}{i:Int}{y:aK}(h:lk F I c)(h1:∀r,r∈y.queue\/r∈y.b8->F r)(U:∀r∈y.bR,I r):lk F I (setW c i y):=
 ⟨fun x af=>by
  rcases iq af with af | rfl
  ·exact h.w x af
  ·exact h1,h.l,fun x af=>by
  rcases iq af with af | rfl
  ·exact h.i x af
  exact U⟩
theorem lk.dc{c:aT}{i:Int}{m:bm}(h:lk F I c)(h1:∀r∈m.queue,F r):lk F I (dc c i m):=
 ⟨h.w,fun l al=>by
  rcases iq al with al | rfl
  ·exact h.l l al
  exact h1,h.i⟩
variable{c:aT}
theorem lk.at{i:Int}{x:aK}(h:lk F I c)(af:cc c i=some x):(∀r,r∈x.queue\/r∈x.b8->F r)/\∀r∈x.bR,I r:=
 ⟨h.w x (c9 (eO af).2.2),h.i x (c9 (eO af).2.2)⟩
theorem lk.cJ{i:Int}{u:bP}(h:lk F I c):lk F I (cJ c i u):=⟨h.w,h.l,h.i⟩
theorem lk.dE{e:Int}{t:bP}{x:aK}(h:lk F I c)(af:cc c t.place=some x):lk F I (dE c e t x).1:=by
 obtain⟨h1,U⟩:=h.at af;rcases pB c e t x with⟨_,k⟩ | ⟨_,_,⟨_,k⟩ | ⟨_,_,k⟩ | ⟨_,bO,_,k⟩ | ⟨_,_,_,k⟩⟩
 ·grind
 ·rw[k];exact h.cJ.setW h1 U
 ·rw[k];exact h.cJ.setW h1 U
 ·rw[k];have bt:=(h.cJ (i:=e) (u:=⟨false,t.place,t.sum,t.bL,t.cf⟩)).setW (i:=0) (y:=told x e (t.cf||x.bj.getD e.toNat false)) h1 U;exact⟨bt.w,bt.l,bt.i⟩
 rw[k];exact⟨h.w,h.l,h.i⟩
theorem lk.step{d:aT}{p:b'}(h:lk F I c)(aCI:∀r,I r->F r)(aCE:∀r cs,F r->j6 c.ay r=false->∀q∈(dq c.ay cs r).2.1,F q)(bW:cB c=true)(st:Step c p d):lk F I d:=by
 cases st with
 | work x r q hk af ao aH=>
  obtain⟨h1,U⟩:=h.at af;have aw:=(ik.1 (j4 bW af)).1;rw[aH,qx]at aw;refine h.setW (fun a ai=>?_) U;grind
 | input x r t hk af ao aH hi=>
  obtain⟨h1,U⟩:=h.at af;rw[hi]at U;refine h.setW (fun a ai=>?_) (fun a ai=>U a (gI _ ai));grind
 | e3 x r t hk af ao a7=>
  obtain⟨h1,U⟩:=h.at af;rw[ao]at h1;refine h.setW (fun a ai=>?_) U;rcases ai with ai | ai
  ·rcases ia.1 ai with ai | ai
   ·exact h1 a (.inl ai)
   grind
  exact h1 a (.inr (gI _ ai))
 | send x r t l hk af ao a7 al hsend=>
  obtain⟨_,_,_,e1⟩:=CB hsend;obtain⟨h1,U⟩:=h.at af;rw[ao]at h1;refine (h.dc (i:=dZ c.ay p.a (eU r.key c.ay.ar)) (m:=(ef l r).1) fun a ai=>?_).setW (c:=Go.Proofs.YtdchjefneblpgaaGreat.dc c _ _) (fun a ai=>h1 a (ai.imp id (gI _))) U;rw[e1]at ai;rcases ia.1 ai with ai | ai
  ·exact h.l l (c9 (iA al).2.2) a ai
  grind
 | take l x hk eb al af bG=>
  obtain⟨_,r,q,aH,e2,e1⟩:=xK bG;obtain⟨h1,U⟩:=h.at af;have aA:=h.l l (c9 (iA al).2.2);rw[aH]at aA;refine (h.dc (i:=dZ c.ay p.a p.b) (m:=(dG l).1) fun a ai=>?_).setW (c:=Go.Proofs.YtdchjefneblpgaaGreat.dc c _ _) (fun a ai=>?_) U
  ·grind
  rcases ai with ai | ai
  ·rcases ia.1 ai with ai | ai
   ·grind
   grind
  exact h1 a (.inr ai)
 | p0 l hk eb al ak=>
  rcases xL l with⟨k,_⟩ | ⟨_,_,_,e1⟩
  ·grind
  refine h.dc fun a ai=>?_
  rw[e1]at ai;exact h.l l (c9 (iA al).2.2) a ai
 | token t x cE hk iI bO aE bG af q6=>exact h.dE af
 | p' k n x hk aZ aE af=>
  have:lk F I (Go.Proofs.YtdchjefneblpgaaGreat.setW c p.a (ee x n)):=by
   obtain⟨h1,U⟩:=h.at af;unfold ee;split
   ·exact h.setW h1 U
   exact h.setW h1 U
  exact⟨this.w,this.l,this.i⟩
theorem Yu{g:bV}{k a b c:Int}{v:Nat}(bI:v<=4)(aZ:g.nodes=la k a b c v){op:Int}(bO:0<=op)(h1:op<g.nodes.length):
  ∃y,fS g op=some y/\((op=0/\y.kind=1/\(y.outs=[1]\/y.outs=[1,6]))\/(op=1/\y.kind=k/\y.outs=[2,5])\/(op=2/\y.kind=4/\y.a=1+a/\(y.outs=[3]\/y.outs=[3,4]))\/
   (op=3/\((y.kind=2/\y.a=b)\/y.kind=3)/\y.outs=[4])\/(op=4/\((y.kind=7/\y.outs=[1])\/(y.kind=8/\y.outs=[])))\/((op=5\/op=6)/\y.kind=8/\y.outs=[])):=by
 unfold fS;rw[bn bO];rw[aZ]at h1 ⊢;have e:op=0\/op=1\/op=2\/op=3\/op=4\/op=5\/op=6:=by
  have:(la k a b c v).length<=7:=by
   have qf:v=0\/v=1\/v=2\/v=3\/v=4:=by omega
   rcases qf with rfl | rfl | rfl | rfl | rfl<;>exact Nat.le_of_ble_eq_true rfl
  omega
 have qf:v=0\/v=1\/v=2\/v=3\/v=4:=by omega
 rcases e with rfl | rfl | rfl | rfl | rfl | rfl | rfl
 ·rcases qf with rfl | rfl | rfl | rfl | rfl
  all_goals exact⟨_,rfl,.inl ⟨rfl,rfl,by grind⟩⟩
 ·rcases qf with rfl | rfl | rfl | rfl | rfl
  all_goals exact⟨_,rfl,.inr (.inl ⟨rfl,rfl,rfl⟩)⟩
 ·rcases qf with rfl | rfl | rfl | rfl | rfl
  all_goals exact⟨_,rfl,.inr (.inr (.inl ⟨rfl,rfl,rfl,by grind⟩))⟩
 ·rcases qf with rfl | rfl | rfl | rfl | rfl
  all_goals exact⟨_,rfl,.inr (.inr (.inr (.inl ⟨rfl,by grind,rfl⟩)))⟩
 ·rcases qf with rfl | rfl | rfl | rfl | rfl
  all_goals exact⟨_,rfl,.inr (.inr (.inr (.inr (.inl ⟨rfl,by grind⟩))))⟩
 ·rcases qf with rfl | rfl | rfl | rfl | rfl
  all_goals exact⟨_,rfl,.inr (.inr (.inr (.inr (.inr ⟨.inl rfl,rfl,rfl⟩))))⟩
 rcases qf with rfl | rfl | rfl | rfl | rfl
 ·simp_all[absurd,la,sT]
 ·simp_all[absurd,la,sT]
 ·simp_all[absurd,la,sT]
 ·exact⟨_,rfl,.inr (.inr (.inr (.inr (.inr ⟨.inr rfl,rfl,rfl⟩))))⟩
 simp_all[absurd,la,sT]
structure yG (A B:Int) (x r:az) (j:Nat):Prop where
 a8:r.bi.a8=x.bi.a8
 dg:0<=r.bi.dg/\r.bi.dg<=6
 aB9:(j:Int)<=r.bi.dg+(if r.op=4 then 1 else 0)
 val:r.val=x.val+B*j
 key:r.key=(x.key+A*(r.bi.dg+(if r.op=3\/r.op=4 then 1 else 0))) % 100
def Form(A B:Int)(xs:List az)(r:az):Prop:=∃x∈xs,∃j,yG A B x r j
def nP(op dg:Int):Nat:=
 if op=0 then 7 else if op=1 then 1 else if op=2 then (if dg<6 then 16 else 10) else if op=3 then (if dg<6 then 7 else 4) else if op=4 then (if dg<6 then 4 else 1) else 1
def wt(r:az):Nat:=nP r.op r.bi.dg
def uT(t:Int):Nat:=if t<6 then 21 else 15
theorem N8{x:Node}{r:az}(aZ:aQ x=true)(aD:eJ r=true)(U:x.kind≠2)(aA:x.kind≠3)(aJ:x.kind≠4):cI x r.key r.val=(r.key,r.val,x.kind != 8):=by
 simp_all[cI,DE,Bool.and_self,gj,bw]
theorem Yv{B:Int}{j:Nat}(sc:0<=B/\B<4)(bk:j<=7):0<=B*j/\B*j<=21:=by
 have h:B=0\/B=1\/B=2\/B=3:=by omega
 grind
theorem Yw{g:bV}{k a b c:Int}{v:Nat}(hk:k=5\/k=6)(aw:0<=b/\b<4)(ai:0<=a/\a<3)(bI:v<=4)(aZ:g.nodes=la k a b c v)(ax:eh g=true){x r:az}{j:Nat}(af:Input x)(bF:yG (1+a) b x r j)
  (aD:j6 g r=false) (cs:List Cell):
  dd (fun q=>wt q+2) (dq g cs r).2.1+1<=wt r+(if r.op=1/\(cA k cs (cellOf r)).2=true then uT r.bi.dg else 0)/\∀q∈(dq g cs r).2.1,∃i,yG (1+a) b x q i:=by
 simp only[j6,gl,kd,mG]at aD;obtain⟨bW,bS⟩:=aD;have bO:0<=r.op:=by
  simp_all[eJ,av,cw,ck]
 obtain⟨f1,f2,f3,f4,f5⟩:=bF;obtain⟨y,bD,ak⟩:=Yu bI aZ bO (by omega);have nk:=Yt ax bD;rw[auw ax bW bD];rcases ak with⟨a7,kE,lr⟩ | ⟨a7,kE,lr⟩ | ⟨a7,kE,BX,lr⟩ | ⟨a7,kE,lr⟩ | ⟨a7,kE⟩ | ⟨a7,kE,lr⟩
 ·
  rw[N8 nk bW (by omega) (by omega) (by omega),xS (by omega) (by omega) (by omega),kE];simp[a7]at f3 f5;rcases lr with lr | lr
  ·refine⟨by grind[fq,dd,wt,nP],fun q aH=>?_⟩;simp[fq,lr]at aH;subst aH;exact⟨j,f1,f2,by grind,f4,by grind⟩
  refine⟨by grind[fq,dd,wt,nP],fun q aH=>?_⟩;simp[fq,lr]at aH;rcases aH with rfl | rfl
  ·exact⟨j,f1,f2,by grind,f4,by grind⟩
  exact⟨j,f1,f2,by grind,f4,by grind⟩
 ·
  rw[N8 nk bW (by omega) (by omega) (by omega),kE];simp[a7]at f3 f5;have Rp:(k != 8)=true:=by grind
  have Ro:k≠7:=by omega
  cases aDv:(cA k cs (cellOf r)).2 with
  | false=>grind[dd,wt,nP]
  | true=>
   refine⟨?_,fun q aH=>?_⟩
   ·simp only[Rp,iU,Bool.false_and,nR,l7,Ro,fq,lr,a7,and_self,gj,reduceCtorEq];simp only[lN,List.map_nil,dd,wx,List.sum_nil,wt,nP,uT];grind
   simp[Rp,Ro,fq,lr]at aH;rcases aH with rfl | rfl
   ·exact⟨j,f1,f2,by grind,f4,by grind⟩
   exact⟨j,f1,f2,by grind,f4,by grind⟩
 ·
  have tE:cI y r.key r.val=((r.key+y.a).tmod 100,r.val,true):=by
   grind[cI,DE]
  rw[tE,xS (by omega) (by omega) (by omega),kE];simp[a7]at f3 f5;have acQ:(r.key+y.a).tmod 100=(x.key+(1+a)*(r.bi.dg+1)) % 100:=by
   grind
  rw[acQ];have fP:∃i,yG (1+a) b x ⟨3,r.bi,(x.key+(1+a)*(r.bi.dg+1)) % 100,r.val⟩ i:=⟨j,f1,f2,by grind,f4,by simp⟩
  have pa:∃i,yG (1+a) b x ⟨4,r.bi,(x.key+(1+a)*(r.bi.dg+1)) % 100,r.val⟩ i:=⟨j,f1,f2,by grind,f4,by simp⟩
  rcases lr with lr | lr
  ·grind[fq,dd,wt,nP]
  grind[fq,dd,wt,nP]
 ·
  simp[a7]at f3 f5;have hm:=Yv aw (j:=j) (by omega);have sk:=Yv aw (j:=j+1) (by omega);obtain⟨_,_,_,_,tL⟩:=af;rcases kE with⟨kE,BX⟩ | kE
  ·have tE:cI y r.key r.val=(r.key,r.val+b,true):=by
    unfold cI;rw[nk,DE bW,kE];simp only[Bool.and_self,gj,BX];rw[show less (r.val+b) 999=r.val+b by unfold less;grind]
   rw[tE,xS (by omega) (by omega) (by omega),kE];refine⟨?_,fun q aH=>?_⟩
   ·grind[fq,dd,wt,nP]
   simp[fq,lr]at aH;subst aH;refine⟨j+1,f1,f2,by grind,?_,by grind⟩;grind
  have tE:∃z,cI y r.key r.val=(r.key,r.val,z):=by
   unfold cI;rw[nk,DE bW,kE];grind
  obtain⟨z,tE⟩:=tE;rw[tE,xS (by omega) (by omega) (by omega),kE];cases z with
  | false=>
   grind[dd,wt,nP]
  | true=>
   refine⟨?_,fun q aH=>?_⟩
   ·grind[fq,dd,wt,nP]
   simp[fq,lr]at aH;subst aH;exact⟨j,f1,f2,by grind,f4,by grind⟩
 ·
  simp[a7]at f3 f5;rcases kE with⟨kE,lr⟩ | ⟨kE,lr⟩
  ·rw[N8 nk bW (by omega) (by omega) (by omega),xS (by omega) (by omega) (by omega),kE];unfold e9;by_cases bu:r.bi.dg<6
   ·have fm:(h6 r.bi&&decide (r.bi.dg<6))=true:=by
     simp_all[eJ,cw,lg]
    rw[bn fm];refine⟨?_,fun q aH=>?_⟩
    ·grind[fq,dd,wt,nP]
    simp[fq,lr]at aH;subst aH;exact⟨j,f1,⟨by grind,by grind⟩,by grind,f4,by grind⟩
   rw[bw (by simp[bu])];grind[dd,wt,nP]
  have bd:∀s ch kR,fq y s ch kR=[]:=fun s ch kR=>by grind[fq]
  simp only[bd,ite_self];grind[dd,wt,nP]
 -- out
 have bd:∀s ch kR,fq y s ch kR=[]:=fun s ch kR=>by grind[fq]
 simp only[bd,ite_self];grind[dd,wt,nP]
end Go.Proofs.YtdchjefneblpgaaGreat
namespace Go.Proofs.YtdchjefneblpgaaGreat
open Go.Sx Go.RowKit Go.Proofs.Tryz
theorem HG{α:Type}{f g:α->Nat}:∀{xs:List α},(∀u∈xs,f u<=g u)->dd f xs<=dd g xs
 | [],_=>fg _
 | x::xs,h=>by
  have h1:=h x (hU ..);have U:=HG (f:=f) (g:=g) (xs:=xs) fun u hu=>h u (gI _ hu)
  grind[dd]
theorem Yx{α:Type}{f g:α->Nat}{m:Nat}{u:α}:∀{xs:List α},(∀u∈xs,f u<=g u)->u∈xs->f u+m<=g u->dd f xs+m<=dd g xs
 | [],_,h,_=>by cases h
 | x::xs,h,hu,hm=>by
  have h1:=h x (hU ..);have U:∀u∈xs,f u<=g u:=fun u hu=>h u (gI _ hu)
  simp only[dd,lN,wx];rcases eH.1 hu with rfl | hu
  ·have:=HG U;grind[dd]
  have:=Yx U hu hm;grind[dd]
theorem DF{α:Type}{f:α->Nat}{xs ys:List α}:dd f (xs++ys)=dd f xs+dd f ys:=by
 simp[dd]
theorem ng{α:Type}{f:α->Nat}{x:α}{xs:List α}:dd f (x::xs)=f x+dd f xs:=by simp[dd]
theorem xT{α:Type}{f:α->Nat}:dd f []=0:=rfl
def I8(A B:Int)(x:az)(t j:Nat):Cell:=⟨1,x.bi.a8,(x.key+A*t) % 100,x.val+B*j⟩
def univ(A B:Int)(xs:List az):List (Nat×Cell):=xs.flatMap fun x=>(List.range 7).flatMap fun t=>(List.range (t+1)).map fun j=>(t,I8 A B x t j)
def sJ(k n:Int)(kA:List (List Cell))(u:Cell):Bool:=match kA[(eU u.key n).toNat]? with | some cs=>(cA k cs u).2 | none=>false
def Bb(k n:Int)(kA:List (List Cell))(u:Nat×Cell):Nat:=if sJ k n kA u.2=true then uT u.1 else 0
def zu(k n:Int)(kA:List (List Cell))(ba:List (Nat×Cell)):Nat:=dd (Bb k n kA) ba
theorem Yy(A B:Int):∀xs:List az,dd (fun u=>uT u.1) (univ A B xs)=xs.length*546
 | []=>rfl
 | x::xs=>by
  have eg:=Yy A B xs;unfold univ at eg ⊢;rw[List.flatMap_cons,DF,eg,gQ];have:dd (fun u:Nat×Cell=>uT u.1) ((List.range 7).flatMap fun t=>(List.range (t+1)).map fun j=>(t,I8 A B x t j))=546:=by
   simp[dd,List.range_succ,uT]
  omega
theorem auy(k n A B:Int)(kA:List (List Cell))(xs:List az):zu k n kA (univ A B xs)<=xs.length*546:=by
 rw[<-Yy A B xs];refine HG fun u _=>?_
 unfold Bb;grind
theorem auz{A B:Int}{xs:List az}{x r:az}{j:Nat}(af:x∈xs)(h:yG A B x r j)(a7:r.op=1):(r.bi.dg.toNat,cellOf r)∈univ A B xs:=by
 obtain⟨f1,f2,f3,f4,f5⟩:=h;simp[a7]at f3 f5;unfold univ;refine l5.2 ⟨x,af,l5.2 ⟨r.bi.dg.toNat,List.mem_range.2 (by omega),lh.2 ⟨j,List.mem_range.2 (by omega),?_⟩⟩⟩;grind[I8,cellOf,Int.toNat_of_nonneg]
variable{k:Int}{kA:List (List Cell)}{i:Nat}{cs r':List Cell}
theorem Yz{n:Int}(hi:kA[i]?=some cs){u:Cell}(h:(cA k r' u).2=true->(cA k cs u).2=true):sJ k n (kA.set i r') u=true->sJ k n kA u=true:=by
 unfold sJ;grind
theorem auA{n:Int}(hi:kA[i]?=some cs){ba:List (Nat×Cell)}(h:∀u∈ba,(cA k r' u.2).2=true->(cA k cs u.2).2=true):zu k n (kA.set i r') ba<=zu k n kA ba:=by
 refine HG fun u hu=>?_
 unfold Bb;by_cases ax:sJ k n (kA.set i r') u.2=true
 ·rw[bn ax,bn (Yz hi (h u hu) ax)];grind
 grind
theorem auB{n:Int}(hi:kA[i]?=some cs){ba:List (Nat×Cell)}(h:∀u∈ba,(cA k r' u.2).2=true->(cA k cs u.2).2=true)
  {u:Nat×Cell} (hu:u∈ba) (a7:(eU u.2.key n).toNat=i) (h1:(cA k cs u.2).2=true) (U:(cA k r' u.2).2=false):zu k n (kA.set i r') ba+uT u.1<=zu k n kA ba:=by
 refine Yx (fun u hu=>?_) hu ?_
 ·unfold Bb;by_cases ax:sJ k n (kA.set i r') u.2=true
  ·rw[bn ax,bn (Yz hi (h u hu) ax)];grind
  grind
 have g1:sJ k n kA u.2=true:=by grind[sJ]
 have g2:sJ k n (kA.set i r') u.2=false:=by grind[sJ,vB]
 simp_all[Bb,bn,bw,decide]
def ii(x:aK):Nat:=dd wt x.queue+dd (fun r=>wt r+2) x.b8+dd (fun r=>wt r+1) x.bR
def tV(l:bm):Nat:=dd (fun r=>wt r+1) l.queue+l.back.toNat
structure kv where
 k:Int
 a:Int
 b:Int
 c:Int
 v:Nat
 xs:List az
def kv.ba(P:kv):List (Nat×Cell):=univ (1+P.a) P.b P.xs
def fR(P:kv)(c:aT):Nat:=dd ii c.ar+dd tV c.bJ+zu P.k c.ay.ar (c.ar.map aK.cells) P.ba
structure kv.AX (P:kv) (c:aT):Prop where
 k:P.k=5\/P.k=6
 a:0<=P.a/\P.a<3
 b:0<=P.b/\P.b<4
 v:P.v<=4
 nodes:c.ay.nodes=la P.k P.a P.b P.c P.v
 bR:∀r∈P.xs,Input r
 Zn:lk (Form (1+P.a) P.b P.xs) (fun r=>r∈P.xs) c
variable{P:kv}{c:aT}
theorem kv.AX.step{d:aT}{p:b'}(h:P.AX c)(bW:cB c=true)(st:Step c p d)(ax:d.ay=c.ay):P.AX d:=by
 refine⟨h.k,h.a,h.b,h.v,by rw[ax];exact h.nodes,h.bR,h.Zn.step (fun r aD=>?_) (fun r cs bF aw q aH=>?_) bW st⟩
 ·obtain⟨i1,i2,i3,i4,i5⟩:=h.bR r aD;refine⟨r,aD,0,rfl,by omega,by grind,by omega,?_⟩;grind
 obtain⟨x,af,j,bF⟩:=bF;obtain⟨i,hi⟩:=(Yw h.k h.b h.a h.v h.nodes (fz.1 bW).1 (h.bR x af) bF aw cs).2 q aH;exact⟨x,af,i,hi⟩
theorem xU{P:kv}{c:aT}{i:Int}{x y:aK}(af:cc c i=some x)(ak:y.cells=x.cells):fR P (setW c i y)+ii x=fR P c+ii y:=by
 obtain⟨_,_,U⟩:=eO af;have h:=Gp (f:=ii) y U;have e:(c.ar.set i.toNat y).map aK.cells=c.ar.map aK.cells:=by
  grind[hE,DC]
 grind[fR,setW]
theorem N9{P:kv}{i:Int}{l m:bm}(al:ez c i=some l):fR P (dc c i m)+tV l=fR P c+tV m:=by
 have h:=Gp (f:=tV) m (iA al).2.2;grind[fR,dc]
theorem auC{e:Int}{t:bP}{x:aK}(af:cc c t.place=some x):fR P (dE c e t x).1=fR P c:=by
 have hw:∀u:bP,fR P (setW (cJ c e u) t.place (ew x e))=fR P c:=fun u=>by
  have:=xU (P:=P) (c:=cJ c e u) (y:=ew x e) af rfl;grind[fR,cJ,ii,ew]
 rcases pB c e t x with⟨_,k⟩ | ⟨_,_,⟨_,k⟩ | ⟨_,_,k⟩ | ⟨_,bO,_,k⟩ | ⟨_,_,_,k⟩⟩
 ·rw[k]
 ·grind
 ·grind
 ·rw[k];have bd:t.place=0:=by have:=(eO af).1;omega
  rw[bd]at af;have:=xU (P:=P) (c:=cJ c e ⟨false,t.place,t.sum,t.bL,t.cf⟩) (y:=told x e (t.cf||x.bj.getD e.toNat false)) af rfl;have e1:fR P (cJ c e ⟨false,t.place,t.sum,t.bL,t.cf⟩)=fR P c:=rfl;have e2:ii (told x e (t.cf||x.bj.getD e.toNat false))=ii x:=rfl;change fR P (setW (cJ c e ⟨false,t.place,t.sum,t.bL,t.cf⟩) 0 (told x e (t.cf||x.bj.getD e.toNat false)))=_;omega
 rw[k];rfl
theorem YA{d:aT}{p:b'}(h:P.AX c)(oq:jK c)(bW:cB c=true)(st:Step c p d):fR P d+(if p.kind<=5/\p.kind≠4 then 1 else 0)<=fR P c:=by
 have ax:=(fz.1 bW).1;cases st with
 | work x r q hk af ao aH=>
  rw[bn (show p.kind<=5/\p.kind≠4 by omega)];obtain⟨cE,gP,gz⟩:=eO af;have aW:=j4 bW af;have aw:=(ik.1 aW).1;rw[aH,qx]at aw;obtain⟨aBG,zm,j,bF⟩:=(h.Zn.at af).1 r (.inl (by grind));obtain⟨Rb,_⟩:=Yw h.k h.b h.a h.v h.nodes ax (h.bR aBG zm) bF aw.1 x.cells;have aD:=aw.1;simp only[j6,gl,kd,mG]at aD;have rh:0<=r.op:=by
   simp_all[eJ,av,cw,ck]
  obtain⟨y,bD,aDH⟩:=Yu h.v h.nodes rh (by omega);have fw:=auv (cs:=x.cells) ax aD.1 bD;have ob:(c.ar.map aK.cells)[p.a.toNat]?=some x.cells:=by grind
  have mS:(eU (cellOf r).key c.ay.ar).toNat=p.a.toNat:=by
   have:=(oq.at af).1 r (by grind);change (eU r.key c.ay.ar).toNat=_;omega
  have mono:∀u∈P.ba,(cA P.k (dq c.ay x.cells r).1 u.2).2=true->(cA P.k x.cells u.2).2=true:=by
   intro u hu h1;have gU:u.2.op=1:=by
    unfold kv.ba univ at hu;obtain⟨ha,_,hu⟩:=l5.1 hu;obtain⟨t,_,hu⟩:=l5.1 hu;obtain⟨kH,_,rfl⟩:=lh.1 hu;rfl
   have acO:P.k=5\/P.k=6\/P.k=8:=by have:=h.k;omega
   cases U:(cA P.k x.cells u.2).2 with
   | true=>rfl
   | false=>
    grind[au3,cellOf,N7]
  have hw:=Gp (f:=ii) (⟨q,(dq c.ay x.cells r).2.1,x.bR,(dq c.ay x.cells r).1,x.bB,x.bL,(if cf c.ay r then x.bj.set r.bi.a8.toNat true else x.bj),x.bZ⟩:aK) gz;have J8:ii x=wt r+dd wt q+dd (fun r=>wt r+1) x.bR:=by
   grind[ii,ng,xT]
  have aDt:ii ⟨q,(dq c.ay x.cells r).2.1,x.bR,(dq c.ay x.cells r).1,x.bB,x.bL,(if cf c.ay r then x.bj.set r.bi.a8.toNat true else x.bj),x.bZ⟩=dd wt q+dd (fun r=>wt r+2) (dq c.ay x.cells r).2.1+dd (fun r=>wt r+1) x.bR:=rfl;unfold fR;simp only[setW,hE];by_cases hp:r.op=1/\(cA P.k x.cells (cellOf r)).2=true
  ·rw[bn hp]at Rb;have hn:y.kind=P.k:=by
    grind
   have al:=auB (n:=c.ay.ar) ob mono (auz zm bF hp.1) mS hp.2 (by
    rw[fw,hn];have acO:P.k=5\/P.k=6\/P.k=8:=by have:=h.k;omega
    grind[N7,au4])
   grind[uT,Nat,Int.toNat_of_nonneg]
  rw[bw hp]at Rb;grind[auA]
 | input x r t hk af ao aH hi=>
  rw[bn (show p.kind<=5/\p.kind≠4 by omega)];have:=xU (P:=P) (y:=⟨[r],[],t,x.cells,x.bB,x.bL,x.bj,x.bZ⟩) af rfl;grind[ii,ng,xT]
 | e3 x r t hk af ao a7=>
  rw[bn (show p.kind<=5/\p.kind≠4 by omega)];have:=xU (P:=P) (y:=kept (hP x t) r) af rfl;have e1:ii x=dd wt x.queue+(wt r+2+dd (fun r=>wt r+2) t)+dd (fun r=>wt r+1) x.bR:=by grind[ii,ng]
  have e2:ii (kept (hP x t) r)=dd wt x.queue+(wt r+0)+dd (fun r=>wt r+2) t+dd (fun r=>wt r+1) x.bR:=by grind[ii,kept,hP,DF,ng,xT]
  omega
 | send x r t l hk af ao a7 al hsend=>
  rw[bn (show p.kind<=5/\p.kind≠4 by omega)];obtain⟨_,_,_,e1⟩:=CB hsend;have h1:=N9 (P:=P) (m:=(ef l r).1) al;have U:=xU (P:=P) (c:=dc c (dZ c.ay p.a (eU r.key c.ay.ar)) (ef l r).1) (y:=mv (hP x t) r.bi.a8) af rfl;have cS:ii x=dd wt x.queue+(wt r+2+dd (fun r=>wt r+2) t)+dd (fun r=>wt r+1) x.bR:=by grind[ii,ng]
  have bt:ii (mv (hP x t) r.bi.a8)=dd wt x.queue+dd (fun r=>wt r+2) t+dd (fun r=>wt r+1) x.bR:=rfl;grind[tV,ef,wt,DF,ng,xT]
 | take l x hk eb al af bG=>
  rw[bw (show ¬(p.kind<=5/\p.kind≠4) by omega)];obtain⟨lp,r,q,aH,e2,e1⟩:=xK bG;have aw:=(pz.1 lp).2.2.1;simp only[av,ck]at aw;have h1:=N9 (P:=P) (m:=(dG l).1) al;have U:=xU (P:=P) (c:=dc c (dZ c.ay p.a p.b) (dG l).1) (y:=h8 x (dG l).2.1) af rfl;have bt:ii (h8 x (dG l).2.1)=ii x+wt r:=by
   grind[ii,h8,DF,ng,xT]
  grind[tV,dG,wt,ng]
 | p0 l hk eb al ak=>
  rw[bn (show p.kind<=5/\p.kind≠4 by omega)];rcases xL l with⟨k,_⟩ | ⟨_,lp,ih,e1⟩
  ·grind
  have aw:=(pz.1 lp).2.2.1;simp only[av,ck]at aw;have h1:=N9 (P:=P) (m:=(fF l).1) al;grind[tV]
 | token t x cE hk iI bO aE bG af q6=>
  simp_all[bw,auC,fg]
 | p' k n x hk aZ aE af=>
  rw[bw (show ¬(p.kind<=5/\p.kind≠4) by omega)];have:fR P (setW c p.a (ee x n))+ii x=fR P c+ii (ee x n):=xU af (by unfold ee;split<;>rfl);have e:ii (ee x n)=ii x:=by unfold ee;split<;>rfl
  change fR P (setW c p.a (ee x n))+0<=_;omega
theorem N'{α:Type}{f g:α->Nat}:∀xs:List α,dd (fun x=>f x+g x) xs=dd f xs+dd g xs
 | []=>rfl
 | x::xs=>by rw[ng,ng,ng,N' xs];omega
theorem DG{α:Type}:∀xs:List α,dd (fun _=>0) xs=0
 | []=>rfl
 | x::xs=>by rw[ng,DG xs]
theorem xV{α:Type}{f g:α->Nat}:∀{xs:List α},(∀u∈xs,f u=g u)->dd f xs=dd g xs
 | [],_=>rfl
 | x::xs,h=>by rw[ng,ng,h x (hU ..),xV fun u hu=>h u (gI _ hu)]
theorem Oa(o:Int)(m:Nat):∀n:Nat,dd (fun w:Nat=>if o=(w:Int) then m else 0) (List.range n)=if 0<=o/\o<n then m else 0
 | 0=>by
  simp_all[yE,xT,bw]
 | n+1=>by
  rw[List.range_succ,DF,Oa o m n,ng,xT];grind
def B0(g:bV)(w e:Int)(r:az):Bool:=r.bi.a8==e&&eU r.key g.ar==w
theorem Ob(g:bV)(xs:List az)(w:Int):(own g xs w).length=dd (fun e:Nat=>xs.countP (B0 g w e)) (List.range 4):=by
 unfold own po;rw[List.length_flatMap];unfold dd
 congr 1
 refine lM fun e _=>?_
 rw[List.countP_eq_length_filter];rfl
theorem auD(g:bV)(x:az)(xs:List az)(w:Int):(own g (x::xs) w).length=(own g xs w).length+(if eU x.key g.ar=w then (if 0<=x.bi.a8/\x.bi.a8<4 then 1 else 0) else 0):=by
 rw[Ob,Ob];have h:∀e:Nat,(x::xs).countP (B0 g w e)=xs.countP (B0 g w e)+(if eU x.key g.ar=w then (if x.bi.a8=(e:Int) then 1 else 0) else 0):=fun e=>by
  rw[List.countP_cons]
  congr 1
  grind[B0,eU,Int]
 rw[xV (g:=fun e:Nat=>xs.countP (B0 g w e)+(if eU x.key g.ar=w then (if x.bi.a8=(e:Int) then 1 else 0) else 0)) fun e _=>h e,N']
 congr 1
 by_cases h1:eU x.key g.ar=w
 ·simp_all[bn,Oa]
 simp_all[bw,DG]
theorem YB{g:bV}(aZ:1<=g.ar):∀xs:List az,(∀r∈xs,0<=r.bi.a8/\r.bi.a8<4)->dd (fun w:Nat=>(own g xs w).length) (List.range g.ar.toNat)=xs.length
 | [],_=>by
  grind[xV,Ob,DG]
 | x::xs,h=>by
  have af:=h x (hU ..);have a7:=Cw x.key aZ;simp only[av,ck]at a7;rw[xV (g:=fun w:Nat=>(own g xs w).length+(if eU x.key g.ar=(w:Int) then 1 else 0)) fun w _=>by rw[auD,bn af],N',YB aZ xs fun r aD=>h r (gI _ aD),Oa,bn (by omega)];rfl
theorem YC{g:bV}(h:mo g P.xs=true)(hi:∀r∈P.xs,Input r):fR P (eP g P.xs)<=P.xs.length*554:=by
 have aZ:=iR (Aa.1 h).1;have h1:dd ii (eP g P.xs).ar=P.xs.length*8:=by
  have e:dd ii (eP g P.xs).ar=dd (fun w:Nat=>8*(own g P.xs w).length) (List.range g.ar.toNat):=by
   unfold eP pD dd;rw[List.map_map]
   congr 1
   refine lM fun w _=>?_
   change 0+0+dd (fun r=>wt r+1) (own g P.xs w)=_;have:dd (fun r=>wt r+1) (own g P.xs w)=dd (fun _=>8) (own g P.xs w):=xV fun r aD=>by
    have:=(hi r (HD aD).1).1;simp_all[wt,nP,bn]
   rw[this];simp only[dd,List.map_const',List.sum_replicate_nat];omega
  have e2:∀ws:List Nat,dd (fun w:Nat=>8*(own g P.xs w).length) ws=8*dd (fun w:Nat=>(own g P.xs w).length) ws:=fun ws=>by
   induction ws with
   | nil=>rfl
   | cons w ws eg=>grind[ng]
  rw[e,e2,YB aZ.1 P.xs fun r aD=>by have:=(hi r aD).2.2.1;omega];omega
 have U:dd tV (eP g P.xs).bJ=0:=by
  have:dd tV (eP g P.xs).bJ=dd (fun _=>0) (eP g P.xs).bJ:=xV fun l al=>by
   rw[List.eq_of_mem_replicate al];rfl
  rw[this,DG]
 have aA:=auy P.k (eP g P.xs).ay.ar (1+P.a) P.b ((eP g P.xs).ar.map aK.cells) P.xs;grind[fR,kv.ba]
