import Derived.Test.YthfnndblgbjniaaGreatP108
set_option linter.unusedVariables false
set_option linter.unusedSimpArgs false
namespace Go.Proofs.YthfnndblgbjniaaGreat
open Go.Sx Go.RowKit Go.Proofs.Tryz
theorem ayR(b:List Int)(c:dY)(g:bX)(ai:c.ok b)(ay:g.nodes.length<=1000):∃(d:dY) (r:az),d.ok b/\(0<=r.bl.ba/\r.bl.ba<=3)/\b4 prog 154 [.cur (c.e b) (d.e b),.ro (.agg g.e)] (.vals [.agg r.e]):=by
 obtain⟨d1,r,cy,⟨_,U,_,_,_⟩,bC⟩:=GU b c ai;have uc:((g.nodes.map Node.e).length:Int)=g.nodes.length:=by simp
 by_cases bJ:0<g.nodes.length
 ·have aE:decide (((g.nodes.map Node.e).length:Int)>0)=true:=dh (by omega);obtain⟨d2,k,ci,hk,b2⟩:=ei b d1 (g.nodes.length:Int) cy (by omega);rw[<-uc]at b2;obtain⟨d3,x,cI,cg⟩:=AS b d2 4 ci (by omega);cases x with
  | true=>
   obtain⟨d4,t,fs,bK,eG⟩:=ei b d3 2 cI (by omega);exact⟨d4,⟨k,⟨r.bl.ba,5+t⟩,r.key,r.val⟩,fs,by grind,auc ⟨bC,aE,b2,cg,rfl,eG,⟨by omega,by omega⟩,aa⟩⟩
  | false=>exact⟨d3,⟨k,r.bl,r.key,r.val⟩,cI,by grind,aud ⟨bC,aE,b2,cg,rfl,aa⟩⟩
 have aE:decide (((g.nodes.map Node.e).length:Int)>0)=false:=ea (by omega);obtain⟨d3,x,cI,cg⟩:=AS b d1 4 cy (by omega);cases x with
 | true=>
  obtain⟨d4,t,fs,bK,eG⟩:=ei b d3 2 cI (by omega);exact⟨d4,⟨r.op,⟨r.bl.ba,5+t⟩,r.key,r.val⟩,fs,by grind,aue ⟨bC,aE,cg,rfl,eG,⟨by omega,by omega⟩,aa⟩⟩
 | false=>exact⟨d3,r,cI,by omega,auf ⟨bC,aE,cg,rfl,aa⟩⟩
structure tF (i:Nat) (w:aK):Prop where
 sz:w.sz<=40+2*i
 bB:w.bB.length=4
 bN:w.bN.length=4
 Bs:∀k:Nat,-(i:Int)<=w.bB.getD k 0/\w.bB.getD k 0<=0
 b0:w.b0=[]
theorem tF.mono{i:Nat}{w v:aK}(h:tF i w)(ao:v.sz<=w.sz+2)(h1:v.bB=w.bB)(U:v.bN=w.bN)(aA:v.b0=w.b0):tF (i+1) v:=by
 refine⟨by have:=h.sz;omega,by rw[h1];exact h.bB,by rw[U];exact h.bN,fun k=>?_,aA.trans h.b0⟩;rw[h1];have:=h.Bs k;omega
theorem tF.ii{i:Nat}{w:aK}{r:az}(h:tF i w)(he:0<=r.bl.ba/\r.bl.ba<=3):tF (i+1) (ii w r):=by
 have aJ:=h.bB;refine⟨?_,?_,?_,fun k=>?_,h.b0⟩
 ·have:=YJ w r;have:=h.sz;omega
 ·unfold Go.Proofs.YthfnndblgbjniaaGreat.ii l7;dsimp only;rw[ho];exact aJ
 ·unfold Go.Proofs.YthfnndblgbjniaaGreat.ii;dsimp only;rw[ho];exact h.bN
 unfold Go.Proofs.YthfnndblgbjniaaGreat.ii l7;dsimp only;by_cases hk:r.bl.ba.toNat=k
 ·subst hk;rw[HE (by omega)];have:=h.Bs r.bl.ba.toNat;omega
 rw[xM hk];have:=h.Bs k;omega
theorem ayS(g:bX)(w:aK):(e0 g w).1.bB=w.bB/\(e0 g w).1.bN=w.bN/\(e0 g w).1.b0=w.b0:=by
 grind[WX]
theorem ayT(g:bX)(w:aK):(e3 g w).1.bB=w.bB/\(e3 g w).1.bN=w.bN/\(e3 g w).1.b0=w.b0:=by
 grind[WY]
theorem AX(b:List Int)(g:bX)(ay:g.sz<=1000):∀(n i:Nat) (w:aK) (c:dY),i+n=7->c.ok b->tF i w->
  ∃(v:aK) (d:dY),d.ok b/\tF 7 v/\c8 prog (ap f107 0) (r' (b.map h6) i (w.queue.map az.e) (w.b9.map az.e) (w.bM.map az.e) (w.cells.map Cell.e) (w.bB.map bd) (w.bN.map cG) (w.bk.map cG) (w.b0.map cS.e) (g.nodes.map Node.e) g.aq g.cap c.i c.h) (.exit 0)
   (On (b.map h6) (v.queue.map az.e) (v.b9.map az.e) (v.bM.map az.e) (v.cells.map Cell.e) (v.bB.map bd) (v.bN.map cG) (v.bk.map cG) (v.b0.map cS.e) d.i d.h)
 | n,i,w,c,iU,ai,hw=>by
  obtain⟨d1,m,cy,aw,bC⟩:=ei b c 8 ai (by omega);have bb:=hw.sz;have adT:g.nodes.length<=1000:=by have:=N3 (sz:=Node.sz) (xs:=g.nodes) (m:=1000) ay;exact this
  by_cases h:(i:Int)<m
  ·match n with
   | 0=>omega
   | n+1=>
    obtain⟨d2,k,ci,hk,b2⟩:=ei b d1 5 cy (by omega);by_cases bE:k=0
    ·have z:=YI g w;obtain⟨q1,ie,rT⟩:=ayT g w;obtain⟨kh,d,o,eH,e4⟩:=AX b g ay n (i+1) (e3 g w).1 d2 (by omega) ci (hw.mono (by omega) q1 ie rT);exact⟨kh,d,o,eH,.more (aug ⟨bC,k' h,b2,by simp[bE],au7 g w (by omega) (by omega),⟨by omega,by omega⟩,aa⟩) e4⟩
    by_cases e1:k=1
    ·obtain⟨d3,r,cI,he,cg⟩:=ayR b d2 g ci adT;obtain⟨kh,d,o,eH,e4⟩:=AX b g ay n (i+1) (ii w r) d3 (by omega) cI (hw.ii he);have aFz:=hw.Bs r.bl.ba.toNat;have aDN:=avT w r (by omega) hw.bB hw.bN he ⟨by omega,by omega⟩;exact⟨kh,d,o,eH,.more (aui ⟨bC,k' h,b2,by simp[bE],by simp[e1],auh ⟨cg,aDN,aa⟩,⟨by omega,by omega⟩,aa⟩) e4⟩
    by_cases e2:k=2
    ·have oz:w.b9=[]\/∃r t,w.b9=r::t:=by
      cases w.b9 with
      | nil=>grind
      | cons r t=>grind
     rcases oz with fr | ⟨r,t0,fr⟩
     ·obtain⟨kh,d,o,eH,e4⟩:=AX b g ay n (i+1) w d2 (by omega) ci (hw.mono (by omega) rfl rfl rfl);have us:=avV w (by omega) fr;exact⟨kh,d,o,eH,.more (XP ⟨bC,k' h,b2,by simp[bE],by simp[e1],by simp[e2],us,⟨by omega,by omega⟩,aa⟩) e4⟩
     have z:=OC fr;obtain⟨kh,d,o,eH,e4⟩:=AX b g ay n (i+1) (hX w t0) d2 (by omega) ci (hw.mono (by omega) rfl rfl rfl);have us:=avU w r t0 (by omega) fr;exact⟨kh,d,o,eH,.more (XP ⟨bC,k' h,b2,by simp[bE],by simp[e1],by simp[e2],us,⟨by omega,by omega⟩,aa⟩) e4⟩
    have z:=YH g w;obtain⟨q1,ie,rT⟩:=ayS g w;obtain⟨kh,d,o,eH,e4⟩:=AX b g ay n (i+1) (e0 g w).1 d2 (by omega) ci (hw.mono (by omega) q1 ie rT);exact⟨kh,d,o,eH,.more (auj ⟨bC,k' h,b2,by simp[bE],by simp[e1],by simp[e2],au6 g w (by omega) (by omega),⟨by omega,by omega⟩,aa⟩) e4⟩
  refine⟨w,d1,cy,⟨by omega,hw.bB,hw.bN,fun k=>?_,hw.b0⟩,.last (cn 0) (auk ⟨bC,o8 h,aa⟩)⟩;have:=hw.Bs k;omega
theorem ayU(b:List Int)(c:dY)(g:bX)(ay:g.sz<=1000)(ai:c.ok b):∃(d:dY) (w:aK),d.ok b/\tF 7 w/\b4 prog 107 [.cur (c.e b) (d.e b),.ro (.agg g.e)] (.vals [.agg w.e]):=by
 obtain⟨d1,xs,cy,gY,gN,bC⟩:=Oi b c ai;obtain⟨w,d,o,eH,e4⟩:=AX b g ay 7 0 (lu xs) d1 rfl cy (by
  refine⟨by grind[lu,aK.sz],by simp[lu],by simp[lu],fun k=>?_,rfl⟩;grind[lu,List,Int])
 exact⟨d,w,o,eH,aul ⟨bC,Z8 xs (by omega),e4,aa⟩⟩
theorem ayV(v:Bool):Flat [[B v]]:=gb (by grind)
theorem ax6(b:List Int)(c:dY)(g:bX)(ay:g.sz<=1000)(ai:c.ok b):∃(d:dY) (w:aK),d.ok b/\(w.sz<=100/\∀d∈w.b0,d.wf)/\b4 prog 62 [.cur (c.e b) (d.e b),.ro (.agg g.e)] (.vals [.agg w.e]):=by
 obtain⟨d1,w,cy,hw,bC⟩:=ayU b c g ay ai;obtain⟨d2,k,ci,hk,b2⟩:=ei b d1 16 cy (by omega);have bb:=hw.sz;have aJ:=hw.bB;have lj:=hw.b0;have Lt:=bb;simp only[aK.sz]at Lt;have br:∀d∈w.b0,d.wf:=by rw[lj];exact fun _ h=>(by cases h)
 have aGj:w.queue.length<=1000:=by omega
 by_cases bE:k=0
 ·obtain⟨d3,r,cI,aC,cg⟩:=UQ b d2 ci;have:=aun ⟨bC,b2,by simp[bE],aum ⟨cg,by simp;omega,by simp;omega,JQ r,aa⟩,aa⟩;refine⟨d3,⟨w.queue++[r],w.b9,w.bM,w.cells,w.bB,w.bN,w.bk,w.b0⟩,cI,⟨by grind[aK.sz],br⟩,?_⟩;unfold aK.e;dsimp only;rw[gi];exact this
 by_cases e1:k=1
 ·obtain⟨d3,r,cI,aC,cg⟩:=GU b d2 ci;have:=aup ⟨bC,b2,by simp[bE],by simp[e1],auo ⟨cg,by simp;omega,by simp;omega,JQ r,aa⟩,aa⟩;refine⟨d3,⟨w.queue,w.b9,w.bM++[r],w.cells,w.bB,w.bN,w.bk,w.b0⟩,cI,⟨by grind[aK.sz],br⟩,?_⟩;unfold aK.e;dsimp only;rw[gi];exact this
 by_cases e2:k=2
 ·obtain⟨d3,v,cI,bF,cg⟩:=ei b d2 4 ci (by omega);have uc:((w.bB.map bd).length:Int)=4:=by simp[aJ]
  have:=aur ⟨bC,b2,by simp[bE],by simp[e1],by simp[e2],auq ⟨cg,by decide,bF.1,by grind,aa⟩,aa⟩;refine⟨d3,⟨w.queue,w.b9,w.bM,w.cells,w.bB.take v.toNat,w.bN,w.bk,w.b0⟩,cI,⟨by grind[aK.sz],br⟩,?_⟩;unfold aK.e;dsimp only;rw[q3];exact this
 by_cases ch:k=3
 ·obtain⟨d3,v,cI,bF,cg⟩:=ni b d2 [1000000,1000001,-1000001] ci (by simp);obtain⟨y,bu⟩:=c5 (xs:=w.bB) (i:=0) (by omega);have oI:(w.bB.map bd)[0]?=some [I y]:=by rw[dI,bu];rfl
  have:=aut ⟨bC,b2,by simp[bE],by simp[e1],by simp[e2],by simp[ch],aus ⟨cg,by decide,by simp[aJ],oI,aa⟩,aa⟩;refine⟨d3,⟨w.queue,w.b9,w.bM,w.cells,w.bB.set 0 v,w.bN,w.bk,w.b0⟩,cI,⟨by grind[aK.sz],br⟩,?_⟩;unfold aK.e;dsimp only;rw[hL];exact this
 by_cases dS:k=4
 ·obtain⟨d3,v,cI,bF,cg⟩:=ei b d2 6 ci (by omega);have:=auv ⟨bC,b2,by simp[bE],by simp[e1],by simp[e2],by simp[ch],by simp[dS],auu ⟨cg,⟨by omega,by omega⟩,by simp;omega,by simp;omega,gb (cS.flat ⟨v-1,false⟩),aa⟩,aa⟩;refine⟨d3,⟨w.queue,w.b9,w.bM,w.cells,w.bB,w.bN,w.bk,w.b0++[⟨v-1,false⟩]⟩,cI,⟨by grind[aK.sz],fun d aE=>?_⟩,?_⟩
  ·rw[lj]at aE;obtain rfl:=List.mem_singleton.1 aE;exact⟨⟨by dsimp only;omega,by dsimp only;omega⟩⟩
  unfold aK.e;dsimp only;rw[gi];exact this
 by_cases hz:k=5
 ·obtain⟨d3,v,cI,bF,cg⟩:=ei b d2 2 ci (by omega);have:=atW ⟨bC,b2,by simp[bE],by simp[e1],by simp[e2],by simp[ch],by simp[dS],by simp[hz],cg,aa⟩;exact⟨d3,⟨w.queue,w.b9,w.bM,w.cells,w.bB,w.bN,w.bk,[⟨1,false⟩,⟨v,true⟩]⟩,cI,⟨by grind[aK.sz],fun d aE=>by
   simp only[ev,od,or_false]at aE;rcases aE with rfl | rfl
   ·exact⟨⟨by decide,by decide⟩⟩
   exact⟨⟨by dsimp only;omega,by dsimp only;omega⟩⟩⟩,this⟩
 by_cases lg:k=6
 ·have:=atX ⟨bC,b2,by simp[bE],by simp[e1],by simp[e2],by simp[ch],by simp[dS],by simp[hz],by simp[lg],by simp;omega,by simp;omega,ayV true,aa⟩;refine⟨d2,⟨w.queue,w.b9,w.bM,w.cells,w.bB,w.bN++[true],w.bk,w.b0⟩,ci,⟨by grind[aK.sz],br⟩,?_⟩;unfold aK.e;dsimp only;rw[gi];exact this
 by_cases qe:k=7
 ·have:=atY ⟨bC,b2,by simp[bE],by simp[e1],by simp[e2],by simp[ch],by simp[dS],by simp[hz],by simp[lg],by simp[qe],by simp;omega,by simp;omega,gb (Cell.flat ⟨0,0,0,0⟩),aa⟩;refine⟨d2,⟨w.queue,w.b9,w.bM,w.cells++[⟨0,0,0,0⟩],w.bB,w.bN,w.bk,w.b0⟩,ci,⟨by grind[aK.sz],br⟩,?_⟩;unfold aK.e;dsimp only;rw[gi];exact this
 exact⟨d2,w,ci,⟨by omega,br⟩,atZ ⟨bC,b2,by simp[bE],by simp[e1],by simp[e2],by simp[ch],by simp[dS],by simp[hz],by simp[lg],by simp[qe],aa⟩⟩
end Go.Proofs.YthfnndblgbjniaaGreat
namespace Go.Proofs.YthfnndblgbjniaaGreat
open Go.Sx Go.RowKit Go.Proofs.Tryz
theorem aab{α:Type}{sz:α->Nat}{xs:List α}{i:Nat}{x y:α}(h:xs[i]?=some y):fw sz (xs.set i x)<=fw sz xs+sz x:=by
 have:=ya (sz:=sz) x h;omega
theorem Px(b:List Int)(c:dY)(ai:c.ok b):∃(d:dY) (x:aO),d.ok b/\(nH x/\x.sz<=8400)/\b4 prog 23 [.cur (c.e b) (d.e b)] (.vals [.agg x.e]):=by
 obtain⟨d1,x,cy,p4,bC⟩:=ava b c ai;have bb:=p4.sz;have Lt:=bb;simp only[aO.sz]at Lt;have aFI:=p4.au.size;have adU:=p4.au.aq;have ui:=p4.qX;have B4:=p4.D7.Cq;have Cf:=p4.D7.tok;have ff:=p4.D7.cap;have vA:=p4.db;have nums:∀l∈x.bn,aL .i64 l.cap/\l.db<=9223372036854775807:=fun l al=>⟨⟨by have:=ff l al;omega,by have:=ff l al;omega⟩,vA l al⟩
 have xe:aL .i64 x.au.aq:=⟨by omega,by omega⟩
 have aej:((x.aq.map aK.e).length:Int)=x.aq.length:=by simp
 have jn:((x.bn.map bj.e).length:Int)=x.bn.length:=by simp
 have bR:((x.tokens.map bQ.e).length:Int)=4:=by simp[Cf]
 have aFR:x.bn.length<=8000:=by have:=N3 (sz:=bj.sz) (xs:=x.bn) (m:=8000) (by omega);exact this
 obtain⟨d2,k,ci,hk,b2⟩:=ei b d1 (x.aq.length:Int) cy (by omega);rw[<-aej]at b2;obtain⟨d3,m,cI,hm,cg⟩:=ei b d2 20 ci (by omega);by_cases bE:m=0
 ·obtain⟨d4,w,fs,⟨hw,_⟩,eG⟩:=ax6 b d3 x.au (by omega) cI;obtain⟨y,bu⟩:=c5 (xs:=x.aq) (i:=k.toNat) (by omega);have oI:(x.aq.map aK.e)[k.toNat]?=some y.e:=by rw[dI,bu];rfl
  have:=at1 ⟨bC,b2,cg,by simp[bE],at0 ⟨eG,hk.1,by omega,oI,aa⟩,aa⟩;refine⟨d4,⟨x.au,x.aq.set k.toNat w,x.bn,x.tokens,x.news⟩,fs,⟨⟨xe,nums⟩,?_⟩,?_⟩
  ·have:=aab (sz:=aK.sz) (x:=w) bu;simp only[aO.sz];omega
  unfold aO.e;dsimp only;rw[hL];exact this
 by_cases e1:m=1
 ·obtain⟨d4,i,fs,hi,eG⟩:=ei b d3 (x.bn.length:Int) cI (by omega);rw[<-jn]at eG;obtain⟨d5,l,rO,al,km⟩:=avc b d4 fs;obtain⟨y,bu⟩:=c5 (xs:=x.bn) (i:=i.toNat) (by omega);have oI:(x.bn.map bj.e)[i.toNat]?=some y.e:=by rw[dI,bu];rfl
  have:=at3 ⟨bC,b2,cg,by simp[bE],by simp[e1],at2 ⟨eG,km,hi.1,by omega,oI,aa⟩,aa⟩;refine⟨d5,⟨x.au,x.aq,x.bn.set i.toNat l,x.tokens,x.news⟩,rO,⟨⟨xe,fun z bb=>?_⟩,?_⟩,?_⟩
  ·rcases iD bb with bb | rfl
   ·exact nums z bb
   exact⟨⟨by have:=al.cap;omega,by have:=al.cap;omega⟩,al.db⟩
  ·have:=aab (sz:=bj.sz) (x:=l) bu;have:=al.sz;simp only[aO.sz];omega
  unfold aO.e;dsimp only;rw[hL];exact this
 by_cases e2:m=2
 ·obtain⟨d4,i,fs,hi,eG⟩:=ei b d3 4 cI (by omega);obtain⟨d5,v,rO,bF,km⟩:=ei b d4 6 fs (by omega);obtain⟨y,bu⟩:=c5 (xs:=x.tokens) (i:=i.toNat) (by omega);have oI:(x.tokens.map bQ.e)[i.toNat]?=some y.e:=by rw[dI,bu];rfl
  have:=at5 ⟨bC,b2,cg,by simp[bE],by simp[e1],by simp[e2],at4 ⟨eG,km,⟨by omega,by omega⟩,hi.1,by omega,oI,aa⟩,aa⟩;refine⟨d5,⟨x.au,x.aq,x.bn,x.tokens.set i.toNat ⟨y.going,v-1,y.sum,y.bN,y.cr⟩,x.news⟩,rO,⟨⟨xe,nums⟩,?_⟩,?_⟩
  ·simp only[aO.sz,ho];omega
  unfold aO.e;dsimp only;rw[hL];exact this
 by_cases ch:m=3
 ·obtain⟨d4,v,fs,bF,eG⟩:=ni b d3 [1000000,1000001,-1000001,3] cI (by simp);obtain⟨y,bu⟩:=c5 (xs:=x.tokens) (i:=0) (by omega);have oI:(x.tokens.map bQ.e)[0]?=some y.e:=by rw[dI,bu];rfl
  have:=avx ⟨bC,b2,cg,by simp[bE],by simp[e1],by simp[e2],by simp[ch],avw ⟨eG,by decide,by omega,oI,aa⟩,aa⟩;refine⟨d4,⟨x.au,x.aq,x.bn,x.tokens.set 0 ⟨y.going,y.place,v,y.bN,y.cr⟩,x.news⟩,fs,⟨⟨xe,nums⟩,?_⟩,?_⟩
  ·simp only[aO.sz,ho];omega
  unfold aO.e;dsimp only;rw[hL];exact this
 by_cases dS:m=4
 ·obtain⟨d4,u,fs,hu,eG⟩:=ei b d3 6 cI (by omega);obtain⟨d5,v,rO,bF,km⟩:=ei b d4 6 fs (by omega);have vD:x.news.length<=8000:=by omega
  have:=avz ⟨bC,b2,cg,by simp[bE],by simp[e1],by simp[e2],by simp[ch],by simp[dS],avy ⟨eG,⟨by omega,by omega⟩,km,⟨by omega,by omega⟩,by simp;omega,by simp;omega,gb (bT.flat ⟨u-1,v-1,false⟩),aa⟩,aa⟩;refine⟨d5,⟨x.au,x.aq,x.bn,x.tokens,x.news++[⟨u-1,v-1,false⟩]⟩,rO,⟨⟨xe,nums⟩,?_⟩,?_⟩
  ·simp only[aO.sz,f',List.length_singleton];omega
  unfold aO.e;dsimp only;rw[gi];exact this
 by_cases hz:m=5
 ·obtain⟨d4,g,fs,ay,eG⟩:=avR b d3 cI;have:=avA ⟨bC,b2,cg,by simp[bE],by simp[e1],by simp[e2],by simp[ch],by simp[dS],by simp[hz],eG,aa⟩;refine⟨d4,⟨g,x.aq,x.bn,x.tokens,x.news⟩,fs,⟨⟨⟨by dsimp only;omega,by dsimp only;omega⟩,nums⟩,?_⟩,this⟩;simp only[aO.sz];omega
 by_cases lg:m=6
 ·have:=avB ⟨bC,b2,cg,by simp[bE],by simp[e1],by simp[e2],by simp[ch],by simp[dS],by simp[hz],by simp[lg],by decide,by change (0:Int)<=3;decide,by change (3:Int)<=_;omega,aa⟩;refine⟨d3,⟨x.au,x.aq,x.bn,x.tokens.take 3,x.news⟩,cI,⟨⟨xe,nums⟩,?_⟩,?_⟩
  ·simp only[aO.sz,nC];omega
  unfold aO.e;dsimp only;rw[q3];exact this
 exact⟨d3,x,cI,⟨⟨xe,nums⟩,by omega⟩,avC ⟨bC,b2,cg,by simp[bE],by simp[e1],by simp[e2],by simp[ch],by simp[dS],by simp[hz],by simp[lg],aa⟩⟩
end Go.Proofs.YthfnndblgbjniaaGreat
namespace Go.Proofs.YthfnndblgbjniaaGreat
open Go.Sx Go.RowKit Go.Proofs.Tryz
end Go.Proofs.YthfnndblgbjniaaGreat
namespace Go.Proofs.YthfnndblgbjniaaGreat
open Go.Sx Go.RowKit Go.Proofs.Tryz
theorem ax7(c:aO)(sX:Int):(lr c sX).1.sz<=c.sz+1200000:=by
 obtain⟨m,hm,aw⟩:=YP sX;unfold lr;rw[hm,lz];have:=Il m c 0;omega
end Go.Proofs.YthfnndblgbjniaaGreat
namespace Go.Proofs.YthfnndblgbjniaaGreat
open Go.Sx Go.RowKit Go.Proofs.Tryz
theorem nH.db{c:aO}(h:nH c):fE c:=fun l al=>(h.l l al).2
theorem ax8(b:List Int)(aw:Bytes b):∃(x:aO) (e:Int),x.sz<=1300000/\ar 25 [.one (.J 1 (b.map h6))] [.agg x.e,.one (I e)]:=by
 obtain⟨c,ai,gw⟩:=GN b aw;obtain⟨d1,x,cy,⟨aW,bb⟩,bC⟩:=Px b c ai;obtain⟨d2,f,ci,b2⟩:=AS b d1 2 cy (by omega);obtain⟨d3,v,cI,bF,cg⟩:=ei b d2 6 ci (by omega);cases f with
 | true=>
  have cY:=Qc x 200 (by omega) aW.db;have qy:=ax7 x 200;exact⟨_,v-1,by omega,avG ⟨gw,bC,b2,rfl,cY,avF ⟨cg,⟨by omega,by omega⟩,aa⟩,aa⟩⟩
 | false=>exact⟨x,v-1,by omega,avI ⟨gw,bC,b2,rfl,avH ⟨cg,⟨by omega,by omega⟩,aa⟩,aa⟩⟩
end Go.Proofs.YthfnndblgbjniaaGreat
namespace Go.Proofs.YthfnndblgbjniaaGreat
open Go.Sx Go.RowKit Go.Proofs.Tryz
def wi(op ep key:Int)(a:Cell):Bool:=decide (a.op=op/\a.ba=ep/\a.key=key)
theorem aac(op ep key:Int):∀(xs:List Cell) (s:Int×Bool),
  ((s.2=true->(xs.foldl (ft op ep key) s).2=true/\(xs.foldl (ft op ep key) s).1<=s.1))/\
  (∀a∈xs,wi op ep key a=true->(xs.foldl (ft op ep key) s).2=true/\(xs.foldl (ft op ep key) s).1<=a.val)
 | [],s=>⟨fun h=>⟨h,Int.le_refl _⟩,by simp⟩
 | x::xs,s=>by
  obtain⟨h1,U⟩:=aac op ep key xs (ft op ep key s x);rw[List.foldl_cons];have ao:s.2=true->(ft op ep key s x).2=true/\(ft op ep key s x).1<=s.1:=by
   intro h;unfold ft;split
   ·rename_i ai;obtain⟨_,_,_,ai⟩:=ai;refine⟨rfl,?_⟩;rcases ai with ai | ai
    ·rw[h]at ai;cases ai
    show x.val<=s.1;omega
   exact⟨h,Int.le_refl _⟩
  have ag:wi op ep key x=true->(ft op ep key s x).2=true/\(ft op ep key s x).1<=x.val:=by
   intro h;simp only[wi,cj]at h;unfold ft;split
   ·exact⟨rfl,Int.le_refl _⟩
   rename_i ai;have aA:¬(s.2=false\/x.val<s.1):=fun aJ=>ai ⟨h.1,h.2.1,h.2.2,aJ⟩
   have aJ:s.2=true:=by
    cases e:s.2 with
    | true=>rfl
    | false=>exact absurd (.inl e) aA
   exact⟨aJ,by have:¬x.val<s.1:=fun a7=>aA (.inr a7);omega⟩
  refine⟨fun h=>?_,fun a ah nQ=>?_⟩
  ·obtain⟨aA,aJ⟩:=ao h;obtain⟨a7,bw⟩:=h1 aA;exact⟨a7,acC bw aJ⟩
  rcases ev.1 ah with rfl | ah
  ·obtain⟨aA,aJ⟩:=ag nQ;obtain⟨a7,bw⟩:=h1 aA;exact⟨a7,acC bw aJ⟩
  exact U a ah nQ
theorem ax9{xs:List Cell}{op ep key:Int}{a:Cell}(ah:a∈xs)(h:wi op ep key a=true):(pW xs op ep key).2=true/\(pW xs op ep key).1<=a.val:=
 (aac op ep key xs (0,false)).2 a ah h
def aya(e:Int)(a:Cell):Prop:=a.ba=e/\0<=a.op/\a.op<8/\0<=a.key/\a.key<=99/\0<=a.val/\a.val<=999
def ayb(a:Cell):Nat:=a.op.toNat*100+a.key.toNat
structure aEA (e:Int) (xs:List Cell):Prop where
 sx:∀a∈xs,aya e a
 apart:(xs.map ayb).Nodup
theorem aad(xs:List Cell)(x:Cell):n0 xs x=true<->x∈xs:=by
 simp only[n0,o7,cj];constructor
 ·rintro⟨a,ah,rfl⟩;exact ah
 exact fun h=>⟨x,h,rfl⟩
theorem ayc{xs:List Cell}{x:Cell}(aw:(ih xs x).2=false):(ih xs x).1=xs:=by
 unfold ih at aw ⊢;split
 ·rfl
 rename_i ai;rw[bD ai]at aw;cases aw
def cellsOf(e:Int)(r:az):Cell:=⟨0,e,r.key,r.val⟩
def rounds(n:Nat):Nat:=2400000+n
end Go.Proofs.YthfnndblgbjniaaGreat
namespace Go.Proofs.YthfnndblgbjniaaGreat
open Go.Sx Go.RowKit Go.Proofs.Tryz
variable{xs:List Cell}
theorem aae{x z:Cell}:z∈kE xs x<->z=x\/z∈xs:=by
 unfold kE;split
 ·grind[aad,id]
 generalize mD xs x=n;have e:z∈xs<->z∈xs.take n\/z∈xs.drop n:=by rw[<-hM,yX]
 grind
theorem aaf(op ep key:Int):∀(xs:List Cell) (s:Int×Bool),(xs.foldl (ft op ep key) s).2=true->
  (s.2=true/\(xs.foldl (ft op ep key) s).1=s.1)\/∃a∈xs,wi op ep key a=true/\a.val=(xs.foldl (ft op ep key) s).1
 | [],s,h=>.inl ⟨h,rfl⟩
 | x::xs,s,h=>by
  rw[List.foldl_cons]at h ⊢;rcases aaf op ep key xs (ft op ep key s x) h with⟨h1,U⟩ | ⟨a,ah,h1,U⟩
  ·rw[U];unfold ft at h1 ⊢;split
   ·simp_all[h2,wi,cj]
   grind
  grind
variable{u:Cell}
theorem xN{a:Cell}:eY u a=true<->a.op=u.op/\a.ba=u.ba/\a.key=u.key:=by
 simp only[eY,cu,kq];grind
def uJ(k:Int)(xs:List Cell)(u:Cell):Prop:=if k=6 then u∈xs else ∃a∈xs,eY u a=true/\a.val<=u.val
theorem ayd(xs:List Cell)(u:Cell):(ih xs u).2=false<->∃a∈xs,eY u a=true/\a.val<=u.val:=by
 unfold ih;constructor
 ·intro h;split at h
  ·rename_i ai;simp only[cu,cj]at ai;rcases aaf u.op u.ba u.key xs (0,false) ai.1 with⟨h1,_⟩ | ⟨a,ah,h1,U⟩
   ·cases h1
   simp only[wi,cj]at h1;exact⟨a,ah,xN.2 h1,by rw[U];exact ai.2⟩
  cases h
 rintro⟨a,ah,h1,U⟩;obtain⟨cA,bm⟩:=ax9 ah (op:=u.op) (ep:=u.ba) (key:=u.key) (by simp only[wi,cj];exact xN.1 h1);grind
variable{k:Int}
theorem Py(hk:k=5\/k=6\/k=8)(xs:List Cell)(u:Cell):(cB k xs u).2=false<->uJ k xs u:=by
 unfold cB uJ;by_cases bw:k=6
 ·rw[bq bw,bq bw,<-aad];grind
 simp_all[bD,bq,ayd]
theorem xO(a7:k≠5)(bw:k≠6)(dA:k≠8)(xs:List Cell)(u:Cell):cB k xs u=(xs,true):=by
 simp_all[cB,bD]
theorem aye(h:(cB k xs u).2=false):(cB k xs u).1=xs:=by
 unfold cB at h ⊢;split
 ·grind
 rename_i bw;rw[bD bw]at h;split
 ·simp_all[bq,ayc]
 rfl
theorem HM(hk:k=5\/k=6\/k=8){z:Cell}(h:(cB k xs u).2=true):z∈(cB k xs u).1<->z=u\/(z∈xs/\(k≠6->eY u z=false)):=by
 unfold cB at h ⊢;by_cases bw:k=6
 ·rw[bq bw]at h ⊢;split
  ·grind
  grind[aae,id,absurd]
 rw[bD bw,bq (by omega)]at h ⊢;unfold ih at h ⊢;split
 ·grind
 grind[aae,gp,id]
theorem ayf{ck:Int}(hk:k=5\/k=6\/k=8){y:Cell}(kV:y.op=u.op->ck=k)(h:uJ k xs u):uJ k (cB ck xs y).1 u:=by
 cases aC:(cB ck xs y).2 with
 | false=>grind[aye]
 | true=>
  by_cases j':ck=5\/ck=6\/ck=8
  case neg=>grind[xO]
  unfold uJ at h ⊢;by_cases bw:k=6
  ·rw[bq bw]at h ⊢;rw[HM j' aC];refine .inr ⟨h,fun cZ=>?_⟩;rw[wW];intro ao;exact cZ ((kV (xN.1 ao).1.symm).trans bw)
  rw[bD bw]at h ⊢;obtain⟨a,ah,ao,bF⟩:=h;obtain⟨s1,s2,Is⟩:=xN.1 ao;by_cases aeI:ck≠6/\eY y a=true
  ·obtain⟨t1,t2,t3⟩:=xN.1 aeI.2;refine⟨y,(HM j' aC).2 (.inl rfl),xN.2 ⟨by omega,by omega,by omega⟩,?_⟩;have nb:¬uJ ck xs y:=fun q=>by grind[Py]
   unfold uJ at nb;grind
  refine⟨a,(HM j' aC).2 (.inr ⟨ah,fun cZ=>?_⟩),ao,bF⟩;grind
theorem ayg(hk:k=5\/k=6\/k=8)(h:(cB k xs u).2=true):uJ k (cB k xs u).1 u:=by
 have hm:=(HM hk (z:=u) h).2 (.inl rfl);unfold uJ;split
 ·exact hm
 exact⟨u,hm,xN.2 ⟨rfl,rfl,rfl⟩,Int.le_refl _⟩
variable{x:Node}{g:bX}
theorem ayh{op:Int}(h:fZ g op=some x):0<=op/\g.nodes[op.toNat]?=some x:=by
 grind[fZ]
theorem aag(ay:ej g=true){op:Int}(h:fZ g op=some x):aU x=true:=by
 simp only[ej,cu,gp]at ay;have:=AO ay.2 op.toNat x (ayh h).2;simp_all[dX,jR,fC,jC]
variable{r:az}
theorem Dz(h:eO r=true):fI r.key r.val=true:=by
 simp_all[eO,cu]
theorem ayi{cs:List Cell}(ay:ej g=true)(aC:eO r=true)(ag:fZ g r.op=some x):(du g cs r).1=(cB x.kind cs (cellOf r)).1:=by
 have aW:=aag ay ag;have hi:=Dz aC;unfold du;rw[ag];simp only[dV,ay,aC,Bool.and_self,gy];split
 ·rename_i ai;simp only[cu,gp,bne_iff_ne,lZ]at ai;have aA:x.kind=3:=by
   refine Classical.byContradiction fun aA=>?_
   have:=ai.1;unfold cK at this;grind
  grind[xO]
 split
 ·rfl
 ·split<;>rfl
theorem ayj{cs:List Cell}(ay:ej g=true)(aC:eO r=true)(ag:fZ g r.op=some x):(du g cs r).2.1=
  if (!(cK x r.key r.val).2.2&&x.kind != 8)=true then [] else if (cB x.kind cs (cellOf r)).2=false then []
  else if x.kind=7 then (if (fg r.bl).2=true then fu x (fg r.bl).1 (cK x r.key r.val).1 (cK x r.key r.val).2.1 else []) else fu x r.bl (cK x r.key r.val).1 (cK x r.key r.val).2.1:=by
 unfold du;rw[ag];simp only[dV,ay,aC,Bool.and_self,gy];split
 ·rfl
 rw[show (⟨r.op,r.bl.ba,r.key,r.val⟩:Cell)=cellOf r from rfl];grind
end Go.Proofs.YthfnndblgbjniaaGreat
namespace Go.Proofs.YthfnndblgbjniaaGreat
open Go.Sx Go.RowKit Go.Proofs.Tryz
structure lC (F I:az->Prop) (c:aO):Prop where
 w:∀x∈c.aq,∀r,r∈x.queue\/r∈x.b9->F r
 l:∀l∈c.bn,∀r∈l.queue,F r
 i:∀x∈c.aq,∀r∈x.bM,I r
variable{F I:az->Prop}
theorem lC.setW{c:aO}{i:Int}{y:aK}(h:lC F I c)(h1:∀r,r∈y.queue\/r∈y.b9->F r)(U:∀r∈y.bM,I r):lC F I (setW c i y):=
 ⟨fun x ag=>by
  rcases iD ag with ag | rfl
  ·exact h.w x ag
  ·exact h1,h.l,fun x ag=>by
  rcases iD ag with ag | rfl
  ·exact h.i x ag
  exact U⟩
theorem lC.dd{c:aO}{i:Int}{m:bj}(h:lC F I c)(h1:∀r∈m.queue,F r):lC F I (dd c i m):=
 ⟨h.w,fun l al=>by
  rcases iD al with al | rfl
  ·exact h.l l al
  exact h1,h.i⟩
variable{c:aO}
theorem lC.at{i:Int}{x:aK}(h:lC F I c)(ag:cd c i=some x):(∀r,r∈x.queue\/r∈x.b9->F r)/\∀r∈x.bM,I r:=
 ⟨h.w x (cD (eR ag).2.2),h.i x (cD (eR ag).2.2)⟩
theorem lC.cL{i:Int}{u:bQ}(h:lC F I c):lC F I (cL c i u):=⟨h.w,h.l,h.i⟩
theorem lC.dF{e:Int}{t:bQ}{x:aK}(h:lC F I c)(ag:cd c t.place=some x):lC F I (dF c e t x).1:=by
 obtain⟨h1,U⟩:=h.at ag;rcases pZ c e t x with⟨_,k⟩ | ⟨_,_,⟨_,k⟩ | ⟨_,_,k⟩ | ⟨_,bJ,_,k⟩ | ⟨_,_,_,k⟩⟩
 ·grind
 ·rw[k];exact h.cL.setW h1 U
 ·rw[k];exact h.cL.setW h1 U
 ·rw[k];have bm:=(h.cL (i:=e) (u:=⟨false,t.place,t.sum,t.bN,t.cr⟩)).setW (i:=0) (y:=told x e (t.cr||x.bk.getD e.toNat false)) h1 U;exact⟨bm.w,bm.l,bm.i⟩
 rw[k];exact⟨h.w,h.l,h.i⟩
theorem lC.step{d:aO}{p:b7}(h:lC F I c)(aFf:∀r,I r->F r)(aFb:∀r cs,F r->kl c.au r=false->∀q∈(du c.au cs r).2.1,F q)(bY:cx c=true)(st:Step c p d):lC F I d:=by
 cases st with
 | work x r q hk ag ao aH=>
  obtain⟨h1,U⟩:=h.at ag;have aw:=(iB.1 (jU bY ag)).1;rw[aH,qI]at aw;refine h.setW (fun a ah=>?_) U;grind
 | input x r t hk ag ao aH hi=>
  obtain⟨h1,U⟩:=h.at ag;rw[hi]at U;refine h.setW (fun a ah=>?_) (fun a ah=>U a (gE _ ah));grind
 | e9 x r t hk ag ao a8=>
  obtain⟨h1,U⟩:=h.at ag;rw[ao]at h1;refine h.setW (fun a ah=>?_) U;rcases ah with ah | ah
  ·rcases hM.1 ah with ah | ah
   ·exact h1 a (.inl ah)
   grind
  exact h1 a (.inr (gE _ ah))
 | send x r t l hk ag ao a8 al hsend=>
  obtain⟨_,_,_,e1⟩:=DP hsend;obtain⟨h1,U⟩:=h.at ag;rw[ao]at h1;refine (h.dd (i:=d' c.au p.a (eZ r.key c.au.aq)) (m:=(eh l r).1) fun a ah=>?_).setW (c:=Go.Proofs.YthfnndblgbjniaaGreat.dd c _ _) (fun a ah=>h1 a (ah.imp id (gE _))) U;rw[e1]at ah;rcases hM.1 ah with ah | ah
  ·exact h.l l (cD (iK al).2.2) a ah
  grind
 | take l x hk ec al ag bK=>
  obtain⟨_,r,q,aH,e2,e1⟩:=yb bK;obtain⟨h1,U⟩:=h.at ag;have aA:=h.l l (cD (iK al).2.2);rw[aH]at aA;refine (h.dd (i:=d' c.au p.a p.b) (m:=(dH l).1) fun a ah=>?_).setW (c:=Go.Proofs.YthfnndblgbjniaaGreat.dd c _ _) (fun a ah=>?_) U
  ·grind
  rcases ah with ah | ah
  ·rcases hM.1 ah with ah | ah
   ·grind
   grind
  exact h1 a (.inr ah)
 | qc l hk ec al ai=>
  rcases yc l with⟨k,_⟩ | ⟨_,_,_,e1⟩
  ·grind
  refine h.dd fun a ah=>?_
  rw[e1]at ah;exact h.l l (cD (iK al).2.2) a ah
 | token t x cE hk iU bJ aE bK ag rq=>exact h.dF ag
 | qo k n x hk aW aE ag=>
  have:lC F I (Go.Proofs.YthfnndblgbjniaaGreat.setW c p.a (eg x n)):=by
   obtain⟨h1,U⟩:=h.at ag;unfold eg;split
   ·exact h.setW h1 U
   exact h.setW h1 U
  exact⟨this.w,this.l,this.i⟩
theorem aah{g:bX}{k a b c:Int}{v:Nat}(bF:v<=4)(aW:g.nodes=lq k a b c v){op:Int}(bJ:0<=op)(h1:op<g.nodes.length):
  ∃y,fZ g op=some y/\((op=0/\y.kind=1/\(y.outs=[1]\/y.outs=[1,6]))\/(op=1/\y.kind=k/\y.outs=[2,5])\/(op=2/\y.kind=4/\y.a=1+a/\(y.outs=[3]\/y.outs=[3,4]))\/
   (op=3/\((y.kind=2/\y.a=b)\/y.kind=3)/\y.outs=[4])\/(op=4/\((y.kind=7/\y.outs=[1])\/(y.kind=8/\y.outs=[])))\/((op=5\/op=6)/\y.kind=8/\y.outs=[])):=by
 unfold fZ;rw[bq bJ];rw[aW]at h1 ⊢;have e:op=0\/op=1\/op=2\/op=3\/op=4\/op=5\/op=6:=by
  have:(lq k a b c v).length<=7:=by
   have qv:v=0\/v=1\/v=2\/v=3\/v=4:=by omega
   rcases qv with rfl | rfl | rfl | rfl | rfl<;>exact Nat.le_of_ble_eq_true rfl
  omega
 have qv:v=0\/v=1\/v=2\/v=3\/v=4:=by omega
 rcases e with rfl | rfl | rfl | rfl | rfl | rfl | rfl
 ·rcases qv with rfl | rfl | rfl | rfl | rfl
  all_goals exact⟨_,rfl,.inl ⟨rfl,rfl,by grind⟩⟩
 ·rcases qv with rfl | rfl | rfl | rfl | rfl
  all_goals exact⟨_,rfl,.inr (.inl ⟨rfl,rfl,rfl⟩)⟩
 ·rcases qv with rfl | rfl | rfl | rfl | rfl
  all_goals exact⟨_,rfl,.inr (.inr (.inl ⟨rfl,rfl,rfl,by grind⟩))⟩
 ·rcases qv with rfl | rfl | rfl | rfl | rfl
  all_goals exact⟨_,rfl,.inr (.inr (.inr (.inl ⟨rfl,by grind,rfl⟩)))⟩
 ·rcases qv with rfl | rfl | rfl | rfl | rfl
  all_goals exact⟨_,rfl,.inr (.inr (.inr (.inr (.inl ⟨rfl,by grind⟩))))⟩
 ·rcases qv with rfl | rfl | rfl | rfl | rfl
  all_goals exact⟨_,rfl,.inr (.inr (.inr (.inr (.inr ⟨.inl rfl,rfl,rfl⟩))))⟩
 rcases qv with rfl | rfl | rfl | rfl | rfl
 ·simp_all[absurd,lq,tm]
 ·simp_all[absurd,lq,tm]
 ·simp_all[absurd,lq,tm]
 ·exact⟨_,rfl,.inr (.inr (.inr (.inr (.inr ⟨.inr rfl,rfl,rfl⟩))))⟩
 simp_all[absurd,lq,tm]
structure y1 (A B:Int) (x r:az) (j:Nat):Prop where
 ba:r.bl.ba=x.bl.ba
 dc:0<=r.bl.dc/\r.bl.dc<=6
 aEE:(j:Int)<=r.bl.dc+(if r.op=4 then 1 else 0)
 val:r.val=x.val+B*j
 key:r.key=(x.key+A*(r.bl.dc+(if r.op=3\/r.op=4 then 1 else 0))) % 100
def Form(A B:Int)(xs:List az)(r:az):Prop:=∃x∈xs,∃j,y1 A B x r j
def n'(op dc:Int):Nat:=
 if op=0 then 7 else if op=1 then 1 else if op=2 then (if dc<6 then 16 else 10) else if op=3 then (if dc<6 then 7 else 4) else if op=4 then (if dc<6 then 4 else 1) else 1
def wt(r:az):Nat:=n' r.op r.bl.dc
def vm(t:Int):Nat:=if t<6 then 21 else 15
theorem Pz{x:Node}{r:az}(aW:aU x=true)(aC:eO r=true)(U:x.kind≠2)(aA:x.kind≠3)(aJ:x.kind≠4):cK x r.key r.val=(r.key,r.val,x.kind != 8):=by
 simp_all[cK,Dz,Bool.and_self,gy,bD]
theorem aai{B:Int}{j:Nat}(qm:0<=B/\B<4)(bf:j<=7):0<=B*j/\B*j<=21:=by
 have h:B=0\/B=1\/B=2\/B=3:=by omega
 grind
theorem aaj{g:bX}{k a b c:Int}{v:Nat}(hk:k=5\/k=6)(aw:0<=b/\b<4)(ah:0<=a/\a<3)(bF:v<=4)(aW:g.nodes=lq k a b c v)(ay:ej g=true){x r:az}{j:Nat}(ag:Input x)(bI:y1 (1+a) b x r j)
  (aC:kl g r=false) (cs:List Cell):
  da (fun q=>wt q+2) (du g cs r).2.1+1<=wt r+(if r.op=1/\(cB k cs (cellOf r)).2=true then vm r.bl.dc else 0)/\∀q∈(du g cs r).2.1,∃i,y1 (1+a) b x q i:=by
 simp only[kl,fC,jC,kK]at aC;obtain⟨bY,bR⟩:=aC;have bJ:0<=r.op:=by
  simp_all[eO,ax,cu,cj]
 obtain⟨f1,f2,f3,f4,f5⟩:=bI;obtain⟨y,bu,ai⟩:=aah bF aW bJ (by omega);have nk:=aag ay bu;rw[ayj ay bY bu];rcases ai with⟨a8,kV,lJ⟩ | ⟨a8,kV,lJ⟩ | ⟨a8,kV,Cl,lJ⟩ | ⟨a8,kV,lJ⟩ | ⟨a8,kV⟩ | ⟨a8,kV,lJ⟩
 ·
  rw[Pz nk bY (by omega) (by omega) (by omega),xO (by omega) (by omega) (by omega),kV];simp[a8]at f3 f5;rcases lJ with lJ | lJ
  ·refine⟨by grind[fu,da,wt,n'],fun q aH=>?_⟩;simp[fu,lJ]at aH;subst aH;exact⟨j,f1,f2,by grind,f4,by grind⟩
  refine⟨by grind[fu,da,wt,n'],fun q aH=>?_⟩;simp[fu,lJ]at aH;rcases aH with rfl | rfl
  ·exact⟨j,f1,f2,by grind,f4,by grind⟩
  exact⟨j,f1,f2,by grind,f4,by grind⟩
 ·
  rw[Pz nk bY (by omega) (by omega) (by omega),kV];simp[a8]at f3 f5;have Su:(k != 8)=true:=by grind
  have St:k≠7:=by omega
  cases aF3:(cB k cs (cellOf r)).2 with
  | false=>grind[da,wt,n']
  | true=>
   refine⟨?_,fun q aH=>?_⟩
   ·simp only[Su,hy,Bool.false_and,oc,mh,St,fu,lJ,a8,and_self,gy,reduceCtorEq];simp only[mg,List.map_nil,da,w4,List.sum_nil,wt,n',vm];grind
   simp[Su,St,fu,lJ]at aH;rcases aH with rfl | rfl
   ·exact⟨j,f1,f2,by grind,f4,by grind⟩
   exact⟨j,f1,f2,by grind,f4,by grind⟩
 ·
  have tZ:cK y r.key r.val=((r.key+y.a).tmod 100,r.val,true):=by
   grind[cK,Dz]
  rw[tZ,xO (by omega) (by omega) (by omega),kV];simp[a8]at f3 f5;have aeb:(r.key+y.a).tmod 100=(x.key+(1+a)*(r.bl.dc+1)) % 100:=by
   grind
  rw[aeb];have eK:∃i,y1 (1+a) b x ⟨3,r.bl,(x.key+(1+a)*(r.bl.dc+1)) % 100,r.val⟩ i:=⟨j,f1,f2,by grind,f4,by simp⟩
  have pD:∃i,y1 (1+a) b x ⟨4,r.bl,(x.key+(1+a)*(r.bl.dc+1)) % 100,r.val⟩ i:=⟨j,f1,f2,by grind,f4,by simp⟩
  rcases lJ with lJ | lJ
  ·grind[fu,da,wt,n']
  grind[fu,da,wt,n']
 ·
  simp[a8]at f3 f5;have hm:=aai aw (j:=j) (by omega);have sJ:=aai aw (j:=j+1) (by omega);obtain⟨_,_,_,_,ug⟩:=ag;rcases kV with⟨kV,Cl⟩ | kV
  ·have tZ:cK y r.key r.val=(r.key,r.val+b,true):=by
    unfold cK;rw[nk,Dz bY,kV];simp only[Bool.and_self,gy,Cl];rw[show less (r.val+b) 999=r.val+b by unfold less;grind]
   rw[tZ,xO (by omega) (by omega) (by omega),kV];refine⟨?_,fun q aH=>?_⟩
   ·grind[fu,da,wt,n']
   simp[fu,lJ]at aH;subst aH;refine⟨j+1,f1,f2,by grind,?_,by grind⟩;grind
  have tZ:∃z,cK y r.key r.val=(r.key,r.val,z):=by
   unfold cK;rw[nk,Dz bY,kV];grind
  obtain⟨z,tZ⟩:=tZ;rw[tZ,xO (by omega) (by omega) (by omega),kV];cases z with
  | false=>
   grind[da,wt,n']
  | true=>
   refine⟨?_,fun q aH=>?_⟩
   ·grind[fu,da,wt,n']
   simp[fu,lJ]at aH;subst aH;exact⟨j,f1,f2,by grind,f4,by grind⟩
 ·
  simp[a8]at f3 f5;rcases kV with⟨kV,lJ⟩ | ⟨kV,lJ⟩
  ·rw[Pz nk bY (by omega) (by omega) (by omega),xO (by omega) (by omega) (by omega),kV];unfold fg;by_cases bw:r.bl.dc<6
   ·have fr:(ig r.bl&&decide (r.bl.dc<6))=true:=by
     simp_all[eO,cu,k']
    rw[bq fr];refine⟨?_,fun q aH=>?_⟩
    ·grind[fu,da,wt,n']
    simp[fu,lJ]at aH;subst aH;exact⟨j,f1,⟨by grind,by grind⟩,by grind,f4,by grind⟩
   rw[bD (by simp[bw])];grind[da,wt,n']
  have bb:∀s ck k9,fu y s ck k9=[]:=fun s ck k9=>by grind[fu]
  simp only[bb,ite_self];grind[da,wt,n']
 -- out
 have bb:∀s ck k9,fu y s ck k9=[]:=fun s ck k9=>by grind[fu]
 simp only[bb,ite_self];grind[da,wt,n']
end Go.Proofs.YthfnndblgbjniaaGreat
namespace Go.Proofs.YthfnndblgbjniaaGreat
open Go.Sx Go.RowKit Go.Proofs.Tryz
theorem HN{α:Type}{f g:α->Nat}:∀{xs:List α},(∀u∈xs,f u<=g u)->da f xs<=da g xs
 | [],_=>fi _
 | x::xs,h=>by
  have h1:=h x (h2 ..);have U:=HN (f:=f) (g:=g) (xs:=xs) fun u hu=>h u (gE _ hu)
  grind[da]
theorem aak{α:Type}{f g:α->Nat}{m:Nat}{u:α}:∀{xs:List α},(∀u∈xs,f u<=g u)->u∈xs->f u+m<=g u->da f xs+m<=da g xs
 | [],_,h,_=>by cases h
 | x::xs,h,hu,hm=>by
  have h1:=h x (h2 ..);have U:∀u∈xs,f u<=g u:=fun u hu=>h u (gE _ hu)
  simp only[da,mg,w4];rcases ev.1 hu with rfl | hu
  ·have:=HN U;grind[da]
  have:=aak U hu hm;grind[da]
theorem DA{α:Type}{f:α->Nat}{xs ys:List α}:da f (xs++ys)=da f xs+da f ys:=by
 simp[da]
theorem nv{α:Type}{f:α->Nat}{x:α}{xs:List α}:da f (x::xs)=f x+da f xs:=by simp[da]
theorem xP{α:Type}{f:α->Nat}:da f []=0:=rfl
def JF(A B:Int)(x:az)(t j:Nat):Cell:=⟨1,x.bl.ba,(x.key+A*t) % 100,x.val+B*j⟩
def univ(A B:Int)(xs:List az):List (Nat×Cell):=xs.flatMap fun x=>(List.range 7).flatMap fun t=>(List.range (t+1)).map fun j=>(t,JF A B x t j)
def tc(k n:Int)(kR:List (List Cell))(u:Cell):Bool:=match kR[(eZ u.key n).toNat]? with | some cs=>(cB k cs u).2 | none=>false
def Bx(k n:Int)(kR:List (List Cell))(u:Nat×Cell):Nat:=if tc k n kR u.2=true then vm u.1 else 0
def zH(k n:Int)(kR:List (List Cell))(bc:List (Nat×Cell)):Nat:=da (Bx k n kR) bc
theorem aal(A B:Int):∀xs:List az,da (fun u=>vm u.1) (univ A B xs)=xs.length*546
 | []=>rfl
 | x::xs=>by
  have eA:=aal A B xs;unfold univ at eA ⊢;rw[List.flatMap_cons,DA,eA,gT];have:da (fun u:Nat×Cell=>vm u.1) ((List.range 7).flatMap fun t=>(List.range (t+1)).map fun j=>(t,JF A B x t j))=546:=by
   simp[da,List.range_succ,vm]
  omega
theorem ayk(k n A B:Int)(kR:List (List Cell))(xs:List az):zH k n kR (univ A B xs)<=xs.length*546:=by
 rw[<-aal A B xs];refine HN fun u _=>?_
 unfold Bx;grind
theorem ayl{A B:Int}{xs:List az}{x r:az}{j:Nat}(ag:x∈xs)(h:y1 A B x r j)(a8:r.op=1):(r.bl.dc.toNat,cellOf r)∈univ A B xs:=by
 obtain⟨f1,f2,f3,f4,f5⟩:=h;simp[a8]at f3 f5;unfold univ;refine lA.2 ⟨x,ag,lA.2 ⟨r.bl.dc.toNat,List.mem_range.2 (by omega),kr.2 ⟨j,List.mem_range.2 (by omega),?_⟩⟩⟩;grind[JF,cellOf,Int.toNat_of_nonneg]
variable{k:Int}{kR:List (List Cell)}{i:Nat}{cs sy:List Cell}
theorem aam{n:Int}(hi:kR[i]?=some cs){u:Cell}(h:(cB k sy u).2=true->(cB k cs u).2=true):tc k n (kR.set i sy) u=true->tc k n kR u=true:=by
 unfold tc;grind
theorem aym{n:Int}(hi:kR[i]?=some cs){bc:List (Nat×Cell)}(h:∀u∈bc,(cB k sy u.2).2=true->(cB k cs u.2).2=true):zH k n (kR.set i sy) bc<=zH k n kR bc:=by
 refine HN fun u hu=>?_
 unfold Bx;by_cases ay:tc k n (kR.set i sy) u.2=true
 ·rw[bq ay,bq (aam hi (h u hu) ay)];grind
 grind
theorem ayn{n:Int}(hi:kR[i]?=some cs){bc:List (Nat×Cell)}(h:∀u∈bc,(cB k sy u.2).2=true->(cB k cs u.2).2=true)
  {u:Nat×Cell} (hu:u∈bc) (a8:(eZ u.2.key n).toNat=i) (h1:(cB k cs u.2).2=true) (U:(cB k sy u.2).2=false):zH k n (kR.set i sy) bc+vm u.1<=zH k n kR bc:=by
 refine aak (fun u hu=>?_) hu ?_
 ·unfold Bx;by_cases ay:tc k n (kR.set i sy) u.2=true
  ·rw[bq ay,bq (aam hi (h u hu) ay)];grind
  grind
 have g1:tc k n kR u.2=true:=by grind[tc]
 have g2:tc k n (kR.set i sy) u.2=false:=by grind[tc,we]
 simp_all[Bx,bq,bD,decide]
def ix(x:aK):Nat:=da wt x.queue+da (fun r=>wt r+2) x.b9+da (fun r=>wt r+1) x.bM
def ux(l:bj):Nat:=da (fun r=>wt r+1) l.queue+l.back.toNat
structure kM where
 k:Int
 a:Int
 b:Int
 c:Int
 v:Nat
 xs:List az
def kM.bc(P:kM):List (Nat×Cell):=univ (1+P.a) P.b P.xs
def fW(P:kM)(c:aO):Nat:=da ix c.aq+da ux c.bn+zH P.k c.au.aq (c.aq.map aK.cells) P.bc
structure kM.Bi (P:kM) (c:aO):Prop where
 k:P.k=5\/P.k=6
 a:0<=P.a/\P.a<3
 b:0<=P.b/\P.b<4
 v:P.v<=4
 nodes:c.au.nodes=lq P.k P.a P.b P.c P.v
 bM:∀r∈P.xs,Input r
 aax:lC (Form (1+P.a) P.b P.xs) (fun r=>r∈P.xs) c
variable{P:kM}{c:aO}
theorem kM.Bi.step{d:aO}{p:b7}(h:P.Bi c)(bY:cx c=true)(st:Step c p d)(ay:d.au=c.au):P.Bi d:=by
 refine⟨h.k,h.a,h.b,h.v,by rw[ay];exact h.nodes,h.bM,h.aax.step (fun r aC=>?_) (fun r cs bI aw q aH=>?_) bY st⟩
 ·obtain⟨i1,i2,i3,i4,i5⟩:=h.bM r aC;refine⟨r,aC,0,rfl,by omega,by grind,by omega,?_⟩;grind
 obtain⟨x,ag,j,bI⟩:=bI;obtain⟨i,hi⟩:=(aaj h.k h.b h.a h.v h.nodes (fp.1 bY).1 (h.bM x ag) bI aw cs).2 q aH;exact⟨x,ag,i,hi⟩
theorem xQ{P:kM}{c:aO}{i:Int}{x y:aK}(ag:cd c i=some x)(ai:y.cells=x.cells):fW P (setW c i y)+ix x=fW P c+ix y:=by
 obtain⟨_,_,U⟩:=eR ag;have h:=H7 (f:=ix) y U;have e:(c.aq.set i.toNat y).map aK.cells=c.aq.map aK.cells:=by
  grind[hL,Dw]
 grind[fW,setW]
theorem PA{P:kM}{i:Int}{l m:bj}(al:eF c i=some l):fW P (dd c i m)+ux l=fW P c+ux m:=by
 have h:=H7 (f:=ux) m (iK al).2.2;grind[fW,dd]
theorem ayo{e:Int}{t:bQ}{x:aK}(ag:cd c t.place=some x):fW P (dF c e t x).1=fW P c:=by
 have hw:∀u:bQ,fW P (setW (cL c e u) t.place (eB x e))=fW P c:=fun u=>by
  have:=xQ (P:=P) (c:=cL c e u) (y:=eB x e) ag rfl;grind[fW,cL,ix,eB]
 rcases pZ c e t x with⟨_,k⟩ | ⟨_,_,⟨_,k⟩ | ⟨_,_,k⟩ | ⟨_,bJ,_,k⟩ | ⟨_,_,_,k⟩⟩
 ·rw[k]
 ·grind
 ·grind
 ·rw[k];have bb:t.place=0:=by have:=(eR ag).1;omega
  rw[bb]at ag;have:=xQ (P:=P) (c:=cL c e ⟨false,t.place,t.sum,t.bN,t.cr⟩) (y:=told x e (t.cr||x.bk.getD e.toNat false)) ag rfl;have e1:fW P (cL c e ⟨false,t.place,t.sum,t.bN,t.cr⟩)=fW P c:=rfl;have e2:ix (told x e (t.cr||x.bk.getD e.toNat false))=ix x:=rfl;change fW P (setW (cL c e ⟨false,t.place,t.sum,t.bN,t.cr⟩) 0 (told x e (t.cr||x.bk.getD e.toNat false)))=_;omega
 rw[k];rfl
theorem aan{d:aO}{p:b7}(h:P.Bi c)(oL:j1 c)(bY:cx c=true)(st:Step c p d):fW P d+(if p.kind<=5/\p.kind≠4 then 1 else 0)<=fW P c:=by
 have ay:=(fp.1 bY).1;cases st with
 | work x r q hk ag ao aH=>
  rw[bq (show p.kind<=5/\p.kind≠4 by omega)];obtain⟨cE,gY,gN⟩:=eR ag;have aX:=jU bY ag;have aw:=(iB.1 aX).1;rw[aH,qI]at aw;obtain⟨aEb,zC,j,bI⟩:=(h.aax.at ag).1 r (.inl (by grind));obtain⟨Se,_⟩:=aaj h.k h.b h.a h.v h.nodes ay (h.bM aEb zC) bI aw.1 x.cells;have aC:=aw.1;simp only[kl,fC,jC,kK]at aC;have rD:0<=r.op:=by
   simp_all[eO,ax,cu,cj]
  obtain⟨y,bu,aGe⟩:=aah h.v h.nodes rD (by omega);have fA:=ayi (cs:=x.cells) ay aC.1 bu;have oz:(c.aq.map aK.cells)[p.a.toNat]?=some x.cells:=by grind
  have lK:(eZ (cellOf r).key c.au.aq).toNat=p.a.toNat:=by
   have:=(oL.at ag).1 r (by grind);change (eZ r.key c.au.aq).toNat=_;omega
  have mono:∀u∈P.bc,(cB P.k (du c.au x.cells r).1 u.2).2=true->(cB P.k x.cells u.2).2=true:=by
   intro u hu h1;have hd:u.2.op=1:=by
    unfold kM.bc univ at hu;obtain⟨hl,_,hu⟩:=lA.1 hu;obtain⟨t,_,hu⟩:=lA.1 hu;obtain⟨kZ,_,rfl⟩:=kr.1 hu;rfl
   have ad9:P.k=5\/P.k=6\/P.k=8:=by have:=h.k;omega
   cases U:(cB P.k x.cells u.2).2 with
   | true=>rfl
   | false=>
    grind[ayf,cellOf,Py]
  have hw:=H7 (f:=ix) (⟨q,(du c.au x.cells r).2.1,x.bM,(du c.au x.cells r).1,x.bB,x.bN,(if cr c.au r then x.bk.set r.bl.ba.toNat true else x.bk),x.b0⟩:aK) gN;have KH:ix x=wt r+da wt q+da (fun r=>wt r+1) x.bM:=by
   grind[ix,nv,xP]
  have aF2:ix ⟨q,(du c.au x.cells r).2.1,x.bM,(du c.au x.cells r).1,x.bB,x.bN,(if cr c.au r then x.bk.set r.bl.ba.toNat true else x.bk),x.b0⟩=da wt q+da (fun r=>wt r+2) (du c.au x.cells r).2.1+da (fun r=>wt r+1) x.bM:=rfl;unfold fW;simp only[setW,hL];by_cases hp:r.op=1/\(cB P.k x.cells (cellOf r)).2=true
  ·rw[bq hp]at Se;have ht:y.kind=P.k:=by
    grind
   have al:=ayn (n:=c.au.aq) oz mono (ayl zC bI hp.1) lK hp.2 (by
    rw[fA,ht];have ad9:P.k=5\/P.k=6\/P.k=8:=by have:=h.k;omega
    grind[Py,ayg])
   grind[vm,Nat,Int.toNat_of_nonneg]
  rw[bD hp]at Se;grind[aym]
 | input x r t hk ag ao aH hi=>
  rw[bq (show p.kind<=5/\p.kind≠4 by omega)];have:=xQ (P:=P) (y:=⟨[r],[],t,x.cells,x.bB,x.bN,x.bk,x.b0⟩) ag rfl;grind[ix,nv,xP]
 | e9 x r t hk ag ao a8=>
  rw[bq (show p.kind<=5/\p.kind≠4 by omega)];have:=xQ (P:=P) (y:=kept (hX x t) r) ag rfl;have e1:ix x=da wt x.queue+(wt r+2+da (fun r=>wt r+2) t)+da (fun r=>wt r+1) x.bM:=by grind[ix,nv]
  have e2:ix (kept (hX x t) r)=da wt x.queue+(wt r+0)+da (fun r=>wt r+2) t+da (fun r=>wt r+1) x.bM:=by grind[ix,kept,hX,DA,nv,xP]
  omega
 | send x r t l hk ag ao a8 al hsend=>
  rw[bq (show p.kind<=5/\p.kind≠4 by omega)];obtain⟨_,_,_,e1⟩:=DP hsend;have h1:=PA (P:=P) (m:=(eh l r).1) al;have U:=xQ (P:=P) (c:=dd c (d' c.au p.a (eZ r.key c.au.aq)) (eh l r).1) (y:=mF (hX x t) r.bl.ba) ag rfl;have cA:ix x=da wt x.queue+(wt r+2+da (fun r=>wt r+2) t)+da (fun r=>wt r+1) x.bM:=by grind[ix,nv]
  have bm:ix (mF (hX x t) r.bl.ba)=da wt x.queue+da (fun r=>wt r+2) t+da (fun r=>wt r+1) x.bM:=rfl;grind[ux,eh,wt,DA,nv,xP]
 | take l x hk ec al ag bK=>
  rw[bD (show ¬(p.kind<=5/\p.kind≠4) by omega)];obtain⟨jn,r,q,aH,e2,e1⟩:=yb bK;have aw:=(n4.1 jn).2.2.1;simp only[ax,cj]at aw;have h1:=PA (P:=P) (m:=(dH l).1) al;have U:=xQ (P:=P) (c:=dd c (d' c.au p.a p.b) (dH l).1) (y:=ii x (dH l).2.1) ag rfl;have bm:ix (ii x (dH l).2.1)=ix x+wt r:=by
   grind[ix,ii,DA,nv,xP]
  grind[ux,dH,wt,nv]
 | qc l hk ec al ai=>
  rw[bq (show p.kind<=5/\p.kind≠4 by omega)];rcases yc l with⟨k,_⟩ | ⟨_,jn,iw,e1⟩
  ·grind
  have aw:=(n4.1 jn).2.2.1;simp only[ax,cj]at aw;have h1:=PA (P:=P) (m:=(fQ l).1) al;grind[ux]
 | token t x cE hk iU bJ aE bK ag rq=>
  simp_all[bD,ayo,fi]
 | qo k n x hk aW aE ag=>
  rw[bD (show ¬(p.kind<=5/\p.kind≠4) by omega)];have:fW P (setW c p.a (eg x n))+ix x=fW P c+ix (eg x n):=xQ ag (by unfold eg;split<;>rfl);have e:ix (eg x n)=ix x:=by unfold eg;split<;>rfl
  change fW P (setW c p.a (eg x n))+0<=_;omega
theorem PB{α:Type}{f g:α->Nat}:∀xs:List α,da (fun x=>f x+g x) xs=da f xs+da g xs
 | []=>rfl
 | x::xs=>by rw[nv,nv,nv,PB xs];omega
theorem DB{α:Type}:∀xs:List α,da (fun _=>0) xs=0
 | []=>rfl
 | x::xs=>by rw[nv,DB xs]
theorem xR{α:Type}{f g:α->Nat}:∀{xs:List α},(∀u∈xs,f u=g u)->da f xs=da g xs
 | [],_=>rfl
 | x::xs,h=>by rw[nv,nv,h x (h2 ..),xR fun u hu=>h u (gE _ hu)]
theorem PC(o:Int)(m:Nat):∀n:Nat,da (fun w:Nat=>if o=(w:Int) then m else 0) (List.range n)=if 0<=o/\o<n then m else 0
 | 0=>by
  simp_all[yZ,xP,bD]
 | n+1=>by
  rw[List.range_succ,DA,PC o m n,nv,xP];grind
def Cn(g:bX)(w e:Int)(r:az):Bool:=r.bl.ba==e&&eZ r.key g.aq==w
theorem PD(g:bX)(xs:List az)(w:Int):(own g xs w).length=da (fun e:Nat=>xs.countP (Cn g w e)) (List.range 4):=by
 unfold own pL;rw[List.length_flatMap];unfold da
 congr 1
 refine lX fun e _=>?_
 rw[List.countP_eq_length_filter];rfl
theorem ayp(g:bX)(x:az)(xs:List az)(w:Int):(own g (x::xs) w).length=(own g xs w).length+(if eZ x.key g.aq=w then (if 0<=x.bl.ba/\x.bl.ba<4 then 1 else 0) else 0):=by
 rw[PD,PD];have h:∀e:Nat,(x::xs).countP (Cn g w e)=xs.countP (Cn g w e)+(if eZ x.key g.aq=w then (if x.bl.ba=(e:Int) then 1 else 0) else 0):=fun e=>by
  rw[List.countP_cons]
  congr 1
  grind[Cn,eZ,Int]
 rw[xR (g:=fun e:Nat=>xs.countP (Cn g w e)+(if eZ x.key g.aq=w then (if x.bl.ba=(e:Int) then 1 else 0) else 0)) fun e _=>h e,PB]
 congr 1
 by_cases h1:eZ x.key g.aq=w
 ·simp_all[bq,PC]
 simp_all[bD,DB]
theorem aao{g:bX}(aW:1<=g.aq):∀xs:List az,(∀r∈xs,0<=r.bl.ba/\r.bl.ba<4)->da (fun w:Nat=>(own g xs w).length) (List.range g.aq.toNat)=xs.length
 | [],_=>by
  grind[xR,PD,DB]
 | x::xs,h=>by
  have ag:=h x (h2 ..);have a8:=DK x.key aW;simp only[ax,cj]at a8;rw[xR (g:=fun w:Nat=>(own g xs w).length+(if eZ x.key g.aq=(w:Int) then 1 else 0)) fun w _=>by rw[ayp,bq ag],PB,aao aW xs fun r aC=>h r (gE _ aC),PC,bq (by omega)];rfl
theorem aap{g:bX}(h:l9 g P.xs=true)(hi:∀r∈P.xs,Input r):fW P (eL g P.xs)<=P.xs.length*554:=by
 have aW:=iz (AW.1 h).1;have h1:da ix (eL g P.xs).aq=P.xs.length*8:=by
  have e:da ix (eL g P.xs).aq=da (fun w:Nat=>8*(own g P.xs w).length) (List.range g.aq.toNat):=by
   unfold eL p0 da;rw[List.map_map]
   congr 1
   refine lX fun w _=>?_
   change 0+0+da (fun r=>wt r+1) (own g P.xs w)=_;have:da (fun r=>wt r+1) (own g P.xs w)=da (fun _=>8) (own g P.xs w):=xR fun r aC=>by
    have:=(hi r (HK aC).1).1;simp_all[wt,n',bq]
   rw[this];simp only[da,List.map_const',List.sum_replicate_nat];omega
  have e2:∀ws:List Nat,da (fun w:Nat=>8*(own g P.xs w).length) ws=8*da (fun w:Nat=>(own g P.xs w).length) ws:=fun ws=>by
   induction ws with
   | nil=>rfl
   | cons w ws eA=>grind[nv]
  rw[e,e2,aao aW.1 P.xs fun r aC=>by have:=(hi r aC).2.2.1;omega];omega
 have U:da ux (eL g P.xs).bn=0:=by
  have:da ux (eL g P.xs).bn=da (fun _=>0) (eL g P.xs).bn:=xR fun l al=>by
   rw[List.eq_of_mem_replicate al];rfl
  rw[this,DB]
 have aA:=ayk P.k (eL g P.xs).au.aq (1+P.a) P.b ((eL g P.xs).aq.map aK.cells) P.xs;grind[fW,kM.bc]
