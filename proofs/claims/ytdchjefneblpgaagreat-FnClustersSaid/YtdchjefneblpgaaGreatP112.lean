import Derived.Test.YtdchjefneblpgaaGreatP56
import Derived.Test.YtdchjefneblpgaaGreatGJ
set_option linter.unusedVariables false
set_option linter.unusedSimpArgs false
namespace Go.Proofs.YtdchjefneblpgaaGreat
open Go.Sx Go.RowKit Go.Proofs.Tryz
theorem WS{α:Type}{sz:α->Nat}{xs:List α}{i:Nat}{x y:α}(h:xs[i]?=some y):eZ sz (xs.set i x)<=eZ sz xs+sz x:=by
 have:=xp (sz:=sz) x h;omega
theorem Fw(b:List Int)(c:dH)(ak:c.ok b):∃(d:dH) (x:a8),d.ok b/\(xZ x/\x.sz<=8400)/\bZ prog 185 [.cur (c.e b) (d.e b)] (.vals [.agg x.e]):=by
 obtain⟨d1,x,cv,oW,bI⟩:=arh b c ak;have a6:=oW.sz;have Ji:=a6;simp only[a8.sz]at Ji;have azk:=oW.aC.size;have aa5:=oW.aC.ap;have qk:=oW.vr;have Ij:=oW.Cq.AV;have IF:=oW.Cq.tok;have gd:=oW.Cq.cap;have tZ:=oW.dv;have nums:∀l∈x.bR,aG .i64 l.cap/\l.dv<=9223372036854775807:=fun l ag=>⟨⟨by have:=gd l ag;omega,by have:=gd l ag;omega⟩,tZ l ag⟩
 have vO:aG .i64 x.aC.ap:=⟨by omega,by omega⟩
 have abw:((x.ap.map aQ.e).length:Int)=x.ap.length:=by simp
 have kK:((x.bR.map bD.e).length:Int)=x.bR.length:=by simp
 have bL:((x.tokens.map bT.e).length:Int)=4:=by simp[IF]
 have azo:x.bR.length<=8000:=by have:=qw (sz:=bD.sz) (xs:=x.bR) (m:=8000) (by omega);exact this
 obtain⟨d2,k,ca,hk,b2⟩:=dW b d1 (x.ap.length:Int) cv (by omega);rw[<-abw]at b2;obtain⟨d3,m,cD,hm,cj⟩:=dW b d2 20 ca (by omega);by_cases bM:m=0
 ·obtain⟨d4,w,ff,hw,dS⟩:=arp b d3 x.aC (by omega) cD;obtain⟨y,bu⟩:=db (xs:=x.ap) (i:=k.toNat) (by omega);have nG:(x.ap.map aQ.e)[k.toNat]?=some y.e:=by rw[du,bu];rfl
  have:=an4 ⟨bI,b2,cj,by simp[bM],an3 ⟨dS,hk.1,by omega,nG,ad⟩,ad⟩;refine⟨d4,⟨x.aC,x.ap.set k.toNat w,x.bR,x.tokens,x.news⟩,ff,⟨⟨vO,nums⟩,?_⟩,?_⟩
  ·have:=WS (sz:=aQ.sz) (x:=w) bu;simp only[a8.sz];omega
  unfold a8.e;dsimp only;rw[jV];exact this
 by_cases e1:m=1
 ·obtain⟨d4,i,ff,hi,dS⟩:=dW b d3 (x.bR.length:Int) cD (by omega);rw[<-kK]at dS;obtain⟨d5,l,oC,ag,kd⟩:=arj b d4 ff;obtain⟨y,bu⟩:=db (xs:=x.bR) (i:=i.toNat) (by omega);have nG:(x.bR.map bD.e)[i.toNat]?=some y.e:=by rw[du,bu];rfl
  have:=an6 ⟨bI,b2,cj,by simp[bM],by simp[e1],an5 ⟨dS,kd,hi.1,by omega,nG,ad⟩,ad⟩;refine⟨d5,⟨x.aC,x.ap,x.bR.set i.toNat l,x.tokens,x.news⟩,oC,⟨⟨vO,fun z a6=>?_⟩,?_⟩,?_⟩
  ·rcases hb a6 with a6 | rfl
   ·exact nums z a6
   exact⟨⟨by have:=ag.cap;omega,by have:=ag.cap;omega⟩,ag.dv⟩
  ·have:=WS (sz:=bD.sz) (x:=l) bu;have:=ag.sz;simp only[a8.sz];omega
  unfold a8.e;dsimp only;rw[jV];exact this
 by_cases e2:m=2
 ·obtain⟨d4,i,ff,hi,dS⟩:=dW b d3 4 cD (by omega);obtain⟨d5,v,oC,bF,kd⟩:=dW b d4 6 ff (by omega);obtain⟨y,bu⟩:=db (xs:=x.tokens) (i:=i.toNat) (by omega);have nG:(x.tokens.map bT.e)[i.toNat]?=some y.e:=by rw[du,bu];rfl
  have:=apz ⟨bI,b2,cj,by simp[bM],by simp[e1],by simp[e2],apy ⟨dS,kd,⟨by omega,by omega⟩,hi.1,by omega,nG,ad⟩,ad⟩;refine⟨d5,⟨x.aC,x.ap,x.bR,x.tokens.set i.toNat ⟨y.going,v-1,y.sum,y.bN,y.cw⟩,x.news⟩,oC,⟨⟨vO,nums⟩,?_⟩,?_⟩
  ·simp only[a8.sz,e8];omega
  unfold a8.e;dsimp only;rw[jV];exact this
 by_cases ck:m=3
 ·obtain⟨d4,v,ff,bF,dS⟩:=mf b d3 [1000000,1000001,-1000001,3] cD (by simp);obtain⟨y,bu⟩:=db (xs:=x.tokens) (i:=0) (by omega);have nG:(x.tokens.map bT.e)[0]?=some y.e:=by rw[du,bu];rfl
  have:=apB ⟨bI,b2,cj,by simp[bM],by simp[e1],by simp[e2],by simp[ck],apA ⟨dS,by decide,by omega,nG,ad⟩,ad⟩;refine⟨d4,⟨x.aC,x.ap,x.bR,x.tokens.set 0 ⟨y.going,y.place,v,y.bN,y.cw⟩,x.news⟩,ff,⟨⟨vO,nums⟩,?_⟩,?_⟩
  ·simp only[a8.sz,e8];omega
  unfold a8.e;dsimp only;rw[jV];exact this
 by_cases dX:m=4
 ·obtain⟨d4,u,ff,hu,dS⟩:=dW b d3 6 cD (by omega);obtain⟨d5,v,oC,bF,kd⟩:=dW b d4 6 ff (by omega);have Ik:x.news.length<=8000:=by omega
  have:=apD ⟨bI,b2,cj,by simp[bM],by simp[e1],by simp[e2],by simp[ck],by simp[dX],apC ⟨dS,⟨by omega,by omega⟩,kd,⟨by omega,by omega⟩,by simp;omega,by simp;omega,dU (cb.flat ⟨u-1,v-1,false⟩),ad⟩,ad⟩;refine⟨d5,⟨x.aC,x.ap,x.bR,x.tokens,x.news++[⟨u-1,v-1,false⟩]⟩,oC,⟨⟨vO,nums⟩,?_⟩,?_⟩
  ·simp only[a8.sz,jy,List.length_singleton];omega
  unfold a8.e;dsimp only;rw[gW];exact this
 by_cases gB:m=5
 ·obtain⟨d4,g,ff,av,dS⟩:=Ng b d3 cD;have:=apE ⟨bI,b2,cj,by simp[bM],by simp[e1],by simp[e2],by simp[ck],by simp[dX],by simp[gB],dS,ad⟩;refine⟨d4,⟨g,x.ap,x.bR,x.tokens,x.news⟩,ff,⟨⟨⟨by dsimp only;omega,by dsimp only;omega⟩,nums⟩,?_⟩,this⟩;simp only[a8.sz];omega
 by_cases kl:m=6
 ·have:=apF ⟨bI,b2,cj,by simp[bM],by simp[e1],by simp[e2],by simp[ck],by simp[dX],by simp[gB],by simp[kl],by decide,by change (0:Int)<=3;decide,by change (3:Int)<=_;omega,ad⟩;refine⟨d3,⟨x.aC,x.ap,x.bR,x.tokens.take 3,x.news⟩,cD,⟨⟨vO,nums⟩,?_⟩,?_⟩
  ·simp only[a8.sz,qW];omega
  unfold a8.e;dsimp only;rw[qX];exact this
 exact⟨d3,x,cD,⟨⟨vO,nums⟩,by omega⟩,apG ⟨bI,b2,cj,by simp[bM],by simp[e1],by simp[e2],by simp[ck],by simp[dX],by simp[gB],by simp[kl],ad⟩⟩
end Go.Proofs.YtdchjefneblpgaaGreat
namespace Go.Proofs.YtdchjefneblpgaaGreat
open Go.Sx Go.RowKit Go.Proofs.Tryz
end Go.Proofs.YtdchjefneblpgaaGreat
namespace Go.Proofs.YtdchjefneblpgaaGreat
open Go.Sx Go.RowKit Go.Proofs.Tryz
end Go.Proofs.YtdchjefneblpgaaGreat
namespace Go.Proofs.YtdchjefneblpgaaGreat
open Go.Sx Go.RowKit Go.Proofs.Tryz
theorem xZ.dv{c:a8}(h:xZ c):hS c:=fun l ag=>(h.l l ag).2
theorem ap4(b:List Int)(aj:Bytes b):∃(x:a8) (e:Int),x.sz<=8400/\aw 53 [.one (.J 1 (b.map gm))] [.agg x.e,.one (I e)]:=by
 obtain⟨c,ak,gL⟩:=BM b aj;obtain⟨d1,x,cv,⟨aR,a6⟩,bI⟩:=Fw b c ak;obtain⟨d3,v,cD,bF,cj⟩:=dW b d1 6 cv (by omega);exact⟨x,v-1,a6,apV ⟨gL,bI,cj,⟨by omega,by omega⟩,ad⟩⟩
