import Derived.Test.YtdchjefneblpgaaGreatP56
import Derived.Test.YtdchjefneblpgaaGreatGJ
set_option linter.unusedVariables false
set_option linter.unusedSimpArgs false
namespace Go.Proofs.YtdchjefneblpgaaGreat
open Go.Sx Go.RowKit Go.Proofs.Tryz
theorem Uc{α:Type}{sz:α->Nat}{xs:List α}{i:Nat}{x y:α}(h:xs[i]?=some y):fp sz (xs.set i x)<=fp sz xs+sz x:=by
 have:=wT (sz:=sz) x h;omega
theorem KZ(b:List Int)(c:dz)(ad:c.ok b):∃(d:dz) (x:aU),d.ok b/\(xm x/\x.sz<=8400)/\bU prog 185 [.cur (c.e b) (d.e b)] (.vals [.agg x.e]):=by
 obtain⟨d1,x,cd,oW,bB⟩:=aiL b c ad;have aR:=oW.sz;have HC:=aR;simp only[aU.sz]at HC;have arJ:=oW.aF.size;have XG:=oW.aF.ap;have pa:=oW.uW;have G6:=oW.BN.Ak;have zZ:=oW.BN.tok;have eY:=oW.BN.cap;have vA:=oW.dO;have nums:∀l∈x.bQ,bf .i64 l.cap/\l.dO<=9223372036854775807:=fun l af=>⟨⟨by have:=eY l af;omega,by have:=eY l af;omega⟩,vA l af⟩
 have vi:bf .i64 x.aF.ap:=⟨by omega,by omega⟩
 have X7:((x.ap.map aP.e).length:Int)=x.ap.length:=by simp
 have iB:((x.bQ.map bC.e).length:Int)=x.bQ.length:=by simp
 have bq:((x.tokens.map b'.e).length:Int)=4:=by simp[zZ]
 have arQ:x.bQ.length<=8000:=by have:=PZ (sz:=bC.sz) (xs:=x.bQ) (m:=8000) (by omega);exact this
 obtain⟨d2,k,bY,hk,bV⟩:=dQ b d1 (x.ap.length:Int) cd (by omega);rw[<-X7]at bV;obtain⟨d3,m,cr,hm,cb⟩:=dQ b d2 20 bY (by omega);by_cases bE:m=0
 ·obtain⟨d4,w,fl,hw,et⟩:=aiT b d3 x.aF (by omega) cr;obtain⟨y,a1⟩:=dv (xs:=x.ap) (i:=k.toNat) (by omega);have nE:(x.ap.map aP.e)[k.toNat]?=some y.e:=by rw[c9,a1];rfl
  have:=ahk ⟨bB,bV,cb,by simp[bE],ahj ⟨et,hk.1,by omega,nE,aj⟩,aj⟩;refine⟨d4,⟨x.aF,x.ap.set k.toNat w,x.bQ,x.tokens,x.news⟩,fl,⟨⟨vi,nums⟩,?_⟩,?_⟩
  ·have:=Uc (sz:=aP.sz) (x:=w) a1;simp only[aU.sz];omega
  unfold aU.e;dsimp only;rw[jj];exact this
 by_cases e1:m=1
 ·obtain⟨d4,i,fl,hi,et⟩:=dQ b d3 (x.bQ.length:Int) cr (by omega);rw[<-iB]at et;obtain⟨d5,l,sN,af,j2⟩:=aiN b d4 fl;obtain⟨y,a1⟩:=dv (xs:=x.bQ) (i:=i.toNat) (by omega);have nE:(x.bQ.map bC.e)[i.toNat]?=some y.e:=by rw[c9,a1];rfl
  have:=ahm ⟨bB,bV,cb,by simp[bE],by simp[e1],ahl ⟨et,j2,hi.1,by omega,nE,aj⟩,aj⟩;refine⟨d5,⟨x.aF,x.ap,x.bQ.set i.toNat l,x.tokens,x.news⟩,sN,⟨⟨vi,fun z aR=>?_⟩,?_⟩,?_⟩
  ·rcases hn aR with aR | rfl
   ·exact nums z aR
   exact⟨⟨by have:=af.cap;omega,by have:=af.cap;omega⟩,af.dO⟩
  ·have:=Uc (sz:=bC.sz) (x:=l) a1;have:=af.sz;simp only[aU.sz];omega
  unfold aU.e;dsimp only;rw[jj];exact this
 by_cases e2:m=2
 ·obtain⟨d4,i,fl,hi,et⟩:=dQ b d3 4 cr (by omega);obtain⟨d5,v,sN,bj,j2⟩:=dQ b d4 6 fl (by omega);obtain⟨y,a1⟩:=dv (xs:=x.tokens) (i:=i.toNat) (by omega);have nE:(x.tokens.map b'.e)[i.toNat]?=some y.e:=by rw[c9,a1];rfl
  have:=aho ⟨bB,bV,cb,by simp[bE],by simp[e1],by simp[e2],ahn ⟨et,j2,⟨by omega,by omega⟩,hi.1,by omega,nE,aj⟩,aj⟩;refine⟨d5,⟨x.aF,x.ap,x.bQ,x.tokens.set i.toNat ⟨y.going,v-1,y.sum,y.bL,y.ct⟩,x.news⟩,sN,⟨⟨vi,nums⟩,?_⟩,?_⟩
  ·simp only[aU.sz,eQ];omega
  unfold aU.e;dsimp only;rw[jj];exact this
 by_cases b2:m=3
 ·obtain⟨d4,v,fl,bj,et⟩:=l8 b d3 [1000000,1000001,-1000001,3] cr (by simp);obtain⟨y,a1⟩:=dv (xs:=x.tokens) (i:=0) (by omega);have nE:(x.tokens.map b'.e)[0]?=some y.e:=by rw[c9,a1];rfl
  have:=ahq ⟨bB,bV,cb,by simp[bE],by simp[e1],by simp[e2],by simp[b2],ahp ⟨et,by decide,by omega,nE,aj⟩,aj⟩;refine⟨d4,⟨x.aF,x.ap,x.bQ,x.tokens.set 0 ⟨y.going,y.place,v,y.bL,y.ct⟩,x.news⟩,fl,⟨⟨vi,nums⟩,?_⟩,?_⟩
  ·simp only[aU.sz,eQ];omega
  unfold aU.e;dsimp only;rw[jj];exact this
 by_cases dB:m=4
 ·obtain⟨d4,u,fl,hu,et⟩:=dQ b d3 6 cr (by omega);obtain⟨d5,v,sN,bj,j2⟩:=dQ b d4 6 fl (by omega);have G7:x.news.length<=8000:=by omega
  have:=ahs ⟨bB,bV,cb,by simp[bE],by simp[e1],by simp[e2],by simp[b2],by simp[dB],ahr ⟨et,⟨by omega,by omega⟩,j2,⟨by omega,by omega⟩,by simp;omega,by simp;omega,dk (cA.flat ⟨u-1,v-1,false⟩),aj⟩,aj⟩;refine⟨d5,⟨x.aF,x.ap,x.bQ,x.tokens,x.news++[⟨u-1,v-1,false⟩]⟩,sN,⟨⟨vi,nums⟩,?_⟩,?_⟩
  ·simp only[aU.sz,eK,List.length_singleton];omega
  unfold aU.e;dsimp only;rw[e3];exact this
 by_cases gD:m=5
 ·obtain⟨d4,g,fl,ao,et⟩:=ajs b d3 cr;have:=aht ⟨bB,bV,cb,by simp[bE],by simp[e1],by simp[e2],by simp[b2],by simp[dB],by simp[gD],et,aj⟩;refine⟨d4,⟨g,x.ap,x.bQ,x.tokens,x.news⟩,fl,⟨⟨⟨by dsimp only;omega,by dsimp only;omega⟩,nums⟩,?_⟩,this⟩;simp only[aU.sz];omega
 by_cases j9:m=6
 ·have:=ahu ⟨bB,bV,cb,by simp[bE],by simp[e1],by simp[e2],by simp[b2],by simp[dB],by simp[gD],by simp[j9],by decide,by change (0:Int)<=3;decide,by change (3:Int)<=_;omega,aj⟩;refine⟨d3,⟨x.aF,x.ap,x.bQ,x.tokens.take 3,x.news⟩,cr,⟨⟨vi,nums⟩,?_⟩,?_⟩
  ·simp only[aU.sz,lJ];omega
  unfold aU.e;dsimp only;rw[lO];exact this
 exact⟨d3,x,cr,⟨⟨vi,nums⟩,by omega⟩,ahv ⟨bB,bV,cb,by simp[bE],by simp[e1],by simp[e2],by simp[b2],by simp[dB],by simp[gD],by simp[j9],aj⟩⟩
end Go.Proofs.YtdchjefneblpgaaGreat
namespace Go.Proofs.YtdchjefneblpgaaGreat
open Go.Sx Go.RowKit Go.Proofs.Tryz
end Go.Proofs.YtdchjefneblpgaaGreat
namespace Go.Proofs.YtdchjefneblpgaaGreat
open Go.Sx Go.RowKit Go.Proofs.Tryz
theorem ai6(c:aU)(rm:Int):(mW c rm).1.sz<=c.sz+1200000:=by
 obtain⟨m,hm,ah⟩:=T3 rm;unfold mW;rw[hm,jh];have:=Ls m c 0;omega
end Go.Proofs.YtdchjefneblpgaaGreat
namespace Go.Proofs.YtdchjefneblpgaaGreat
open Go.Sx Go.RowKit Go.Proofs.Tryz
theorem xm.dO{c:aU}(h:xm c):iV c:=fun l af=>(h.l l af).2
theorem ai7(b:List Int)(ah:Bytes b):∃(x:aU) (e:Int),x.sz<=8400/\aK 53 [.one (.J 1 (b.map hq))] [.agg x.e,.one (I e)]:=by
 obtain⟨c,ad,jI⟩:=J7 b ah;obtain⟨d1,x,cd,⟨aL,aR⟩,bB⟩:=KZ b c ad;obtain⟨d3,v,cr,bj,cb⟩:=dQ b d1 6 cd (by omega);exact⟨x,v-1,aR,ahx ⟨jI,bB,cb,⟨by omega,by omega⟩,aj⟩⟩
