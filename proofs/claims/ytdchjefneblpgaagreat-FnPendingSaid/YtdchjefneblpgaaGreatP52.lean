import Derived.Test.YtdchjefneblpgaaGreatP72
set_option linter.unusedVariables false
set_option linter.unusedSimpArgs false
namespace Go.Proofs.YtdchjefneblpgaaGreat
open Go.Sx Go.RowKit Go.Proofs.Tryz
theorem aib(c:aU)(l:List cE)(ad:c.sz+4*l.length<=8388608):
  dd prog (az f15 0) (yY (l.map cE.e) 0 [] (c.aF.nodes.map Node.e) c.aF.ap c.aF.cap (c.ap.map aP.e) (c.bQ.map bC.e) (c.tokens.map b'.e) (c.news.map cA.e) (cF c) 0 0) (.exit 0)
   (Lj ((cZ c l).2.map c6) ((cZ c l).1.aF.nodes.map Node.e) (cZ c l).1.aF.ap (cZ c l).1.aF.cap ((cZ c l).1.ap.map aP.e) ((cZ c l).1.bQ.map bC.e) ((cZ c l).1.tokens.map b'.e) ((cZ c l).1.news.map cA.e) (cF (cZ c l).1) 0 0):=by
 have af:l.length<=8388608:=by omega
 have k:=ef (P:=prog) (c:=(az f15 0)) (cL 0) l.length (fun i:Nat=>yY (l.map cE.e) i ((cZ c (l.take i)).2.map c6) ((cZ c (l.take i)).1.aF.nodes.map Node.e) (cZ c (l.take i)).1.aF.ap (cZ c (l.take i)).1.aF.cap ((cZ c (l.take i)).1.ap.map aP.e) ((cZ c (l.take i)).1.bQ.map bC.e) ((cZ c (l.take i)).1.tokens.map b'.e) ((cZ c (l.take i)).1.news.map cA.e) (cF (cZ c (l.take i)).1) 0 0) (fun i hi=>by
  obtain⟨p,hp⟩:=dv hi;have aL:=J0 (l.take i) c;have ae:=SQ c l i;rw[SP c hp];dsimp only;rw[JZ];generalize cZ c (l.take i)=o at*;exact agW ⟨cg hi,bG,bJ hi,bF cE.e hp,T0 o.1 p (by omega),by simp[aL];omega,by simp[aL];omega,Gm [(de o.1 p).2],cY hi af,aj⟩) (agX ⟨dH,aj⟩)
 rw[hP]at k;exact k
theorem aic(c:aU)(l:List cE)(ad:c.sz+4*l.length<=8388608)(hw:iV c):aK 15 [.agg c.e,.one (.J 3 (l.map cE.e))] [.agg (cZ c l).1.e,.one (.J 1 ((cZ c l).2.map c6))]:=
 agY ⟨LC c (by omega) hw,aib c l ad,aj⟩
def iu(c:aU):aU×Nat:=((cZ c (gb c)).1,mx (cZ c (gb c)).2)
theorem ahD{c d:aU}(h:d.aF=c.aF):gb d=gb c:=by unfold gb;rw[h]
theorem E7(c:aU):n3 c (iu c).1:=J1 _ _
theorem T1(c:aU):(iu c).1.sz<=c.sz+400:=by
 have:=D5 (gb c) c;have:=S5 c;unfold iu;dsimp only;omega
theorem ahE(c:aU)(l:List cE)(ad:c.sz+4*l.length<=8388608):bU prog 131 [.ref (fA c) (fA (cZ c l).1),.ro (.one (.J 3 (l.map cE.e)))] (.vals [.one (I (mx (cZ c l).2))]):=by
 have af:l.length<=8388608:=by omega
 have k:=ef (P:=prog) (c:=(az f131 0)) (cL 0) l.length (fun i:Nat=>w3 (l.map cE.e) i (mx (cZ c (l.take i)).2) ((cZ c (l.take i)).1.aF.nodes.map Node.e) (cZ c (l.take i)).1.aF.ap (cZ c (l.take i)).1.aF.cap ((cZ c (l.take i)).1.ap.map aP.e) ((cZ c (l.take i)).1.bQ.map bC.e) ((cZ c (l.take i)).1.tokens.map b'.e) ((cZ c (l.take i)).1.news.map cA.e) (cF (cZ c (l.take i)).1)) (fun i hi=>by
  obtain⟨p,hp⟩:=dv hi;have aL:=J0 (l.take i) c;have ax:=adN (cZ c (l.take i)).2;have ae:=SQ c l i;have bt:=J2 i l;rw[SP c hp];dsimp only;rw[adO];generalize cZ c (l.take i)=o at*;have st:=T0 o.1 p (by omega);cases ah:(de o.1 p).2 with
  | true=>
   rw[ah]at st;exact ait ⟨cg hi,bG,bJ hi,bF cE.e hp,st,rfl,⟨by omega,by omega⟩,cY hi af,aj⟩
  | false=>
   rw[ah]at st;exact aiu ⟨cg hi,bG,bJ hi,bF cE.e hp,st,rfl,cY hi af,aj⟩) (aiv ⟨dH,aj⟩)
 rw[hP]at k;exact aiw ⟨k,aj⟩
def gK:Nat->aU->Nat->aU×Nat
 | 0,c,k=>(c,k)
 | n+1,c,k=>if (iu c).2=0 then ((iu c).1,k+1) else gK n (iu c).1 (k+1)
def mW(c:aU)(rm:Int):aU×Nat:=gK (hf rm 0 3000).toNat c 0
theorem Ls:∀(n:Nat) (c:aU) (k:Nat),(gK n c k).1.sz<=c.sz+n*400
 | 0,c,k=>dm _
 | n+1,c,k=>by
  have h1:=T1 c;have U:=Ls n (iu c).1 (k+1);unfold gK;split
  ·dsimp only;omega
  omega
theorem T2:∀(n:Nat) (c:aU) (k:Nat),n3 c (gK n c k).1
 | 0,c,k=>.rfl
 | n+1,c,k=>by
  unfold gK;split
  ·exact E7 c
  exact (E7 c).trans (T2 n _ _)
theorem ahF{n:Nat}{c:aU}{k:Nat}(bm:¬(iu c).2=0):gK (n+1) c k=gK n (iu c).1 (k+1):=by
 conv=>lhs;unfold gK
 rw[aX bm]
theorem T3(n:Int):∃k:Nat,hf n 0 3000=k/\k<=3000:=by
 refine⟨(hf n 0 3000).toNat,?_,?_⟩<;>(unfold hf;simp only[show ¬(3000:Int)<0 by omega,j4];split<;>(try split)<;>omega)
theorem HS(n:Nat):((n:Int)==0)=decide (n=0):=by
 rw[Bool.eq_iff_iff];simp only[eu,ci];omega
theorem T4(m:Nat)(hm:m<=3000)(l:List cE):∀(n:Nat) (c:aU) (k:Nat),k+n=m->gb c=l->c.sz+n*400<=8388608->
  dd prog (az f16 0) (uN (l.map cE.e) m ((k:Int)+1) (c.aF.nodes.map Node.e) c.aF.ap c.aF.cap (c.ap.map aP.e) (c.bQ.map bC.e) (c.tokens.map b'.e) (c.news.map cA.e) (cF c) 0 0) .ret
    (Lh (gK n c k).2 ((gK n c k).1.aF.nodes.map Node.e) (gK n c k).1.aF.ap (gK n c k).1.aF.cap ((gK n c k).1.ap.map aP.e) ((gK n c k).1.bQ.map bC.e) ((gK n c k).1.tokens.map b'.e) ((gK n c k).1.news.map cA.e))\/
  (gK n c k).2=m/\dd prog (az f16 0) (uN (l.map cE.e) m ((k:Int)+1) (c.aF.nodes.map Node.e) c.aF.ap c.aF.cap (c.ap.map aP.e) (c.bQ.map bC.e) (c.tokens.map b'.e) (c.news.map cA.e) (cF c) 0 0) (.exit 0)
    (Li m ((gK n c k).1.aF.nodes.map Node.e) (gK n c k).1.aF.ap (gK n c k).1.aF.cap ((gK n c k).1.ap.map aP.e) ((gK n c k).1.bQ.map bC.e) ((gK n c k).1.tokens.map b'.e) ((gK n c k).1.news.map cA.e) (cF (gK n c k).1) 0 0)
 | 0,c,k,hk,_,_=>.inr ⟨by unfold gK;omega,.last (cL 0) (agS ⟨eX (by omega),aj⟩)⟩
 | n+1,c,k,hk,af,ad=>by
  have r:=ahE c l (by have:=S5 c;rw[af]at this;omega);have ae:=T1 c;have ao:=(E7 c).aF;have e1:iu c=((cZ c l).1,mx (cZ c l).2):=by unfold iu;rw[af]
  by_cases bm:(iu c).2=0
  ·rw[show gK (n+1) c k=((iu c).1,k+1) by unfold gK;rw[a6 bm]];rw[e1]at bm ⊢;exact .inl (.last hd (agR ⟨dU (by omega),r,by rw[HS];exact ji bm,aj⟩))
  rw[ahF bm];have dt:=T4 m hm l n (iu c).1 (k+1) (by omega) ((ahD ao).trans af) (by omega);rw[e1]at bm dt ⊢;rcases dt with dt | ⟨Y7,dt⟩
  ·exact .inl (.more (Uw ⟨dU (by omega),r,by rw[HS];exact mu bm,⟨by omega,by omega⟩,aj⟩) dt)
  exact .inr ⟨Y7,.more (Uw ⟨dU (by omega),r,by rw[HS];exact mu bm,⟨by omega,by omega⟩,aj⟩) dt⟩
theorem T5(c:aU)(rm:Int)(ad:c.sz+1200000<=8388608)(hw:iV c):aK 16 [.agg c.e,.one (I rm)] [.agg (mW c rm).1.e,.one (I (mW c rm).2)]:=by
 have b:=EX rm 0 3000;obtain⟨m,hm,ah⟩:=T3 rm;unfold mW;rw[hm]at b ⊢;rw[jh];rcases T4 m (by omega) (gb c) m c 0 (by omega) rfl (by omega) with k | ⟨cC,k⟩
 ·exact agT ⟨LC c (by omega) hw,S6 c,b,k,aj⟩
 rw[cC];exact agU ⟨LC c (by omega) hw,S6 c,b,k,aj⟩
end Go.Proofs.YtdchjefneblpgaaGreat
namespace Go.Proofs.YtdchjefneblpgaaGreat
open Go.Sx Go.RowKit Go.Proofs.Tryz
structure ky (F I:aA->Prop) (c:aU):Prop where
 w:∀x∈c.ap,∀r,r∈x.queue\/r∈x.ck->F r
 l:∀l∈c.bQ,∀r∈l.queue,F r
 i:∀x∈c.ap,∀r∈x.bT,I r
variable{F I:aA->Prop}
theorem ky.setW{c:aU}{i:Int}{y:aP}(h:ky F I c)(h1:∀r,r∈y.queue\/r∈y.ck->F r)(U:∀r∈y.bT,I r):ky F I (setW c i y):=
 ⟨fun x aa=>by
  rcases hn aa with aa | rfl
  ·exact h.w x aa
  ·exact h1,h.l,fun x aa=>by
  rcases hn aa with aa | rfl
  ·exact h.i x aa
  exact U⟩
theorem ky.c0{c:aU}{i:Int}{m:bC}(h:ky F I c)(h1:∀r∈m.queue,F r):ky F I (c0 c i m):=
 ⟨h.w,fun l af=>by
  rcases hn af with af | rfl
  ·exact h.l l af
  exact h1,h.i⟩
variable{c:aU}
theorem ky.at{i:Int}{x:aP}(h:ky F I c)(aa:b9 c i=some x):(∀r,r∈x.queue\/r∈x.ck->F r)/\∀r∈x.bT,I r:=
 ⟨h.w x (c8 (er aa).2.2),h.i x (c8 (er aa).2.2)⟩
theorem ky.cP{i:Int}{u:b'}(h:ky F I c):ky F I (cP c i u):=⟨h.w,h.l,h.i⟩
theorem ky.d'{e:Int}{t:b'}{x:aP}(h:ky F I c)(aa:b9 c t.place=some x):ky F I (d' c e t x).1:=by
 obtain⟨h1,U⟩:=h.at aa;rcases oS c e t x with⟨_,k⟩ | ⟨_,_,⟨_,k⟩ | ⟨_,_,k⟩ | ⟨_,bm,_,k⟩ | ⟨_,_,_,k⟩⟩
 ·rw[k];exact h
 ·rw[k];exact h.cP.setW h1 U
 ·rw[k];exact h.cP.setW h1 U
 ·rw[k];have b6:=(h.cP (i:=e) (u:=⟨false,t.place,t.sum,t.bL,t.ct⟩)).setW (i:=0) (y:=told x e (t.ct||x.bA.getD e.toNat false)) h1 U;exact⟨b6.w,b6.l,b6.i⟩
 rw[k];exact⟨h.w,h.l,h.i⟩
theorem ky.step{d:aU}{p:cE}(h:ky F I c)(WU:∀r,I r->F r)(WT:∀r cs,F r->km c.aF r=false->∀q∈(dL c.aF cs r).2.1,F q)(bH:cF c=true)(st:Step c p d):ky F I d:=by
 cases st with
 | work x r q hk aa ae av=>
  obtain⟨h1,U⟩:=h.at aa;have ah:=(h6.1 (jH bH aa)).1;rw[av,qj]at ah;refine h.setW (fun a ag=>?_) U;rcases ag with ag | ag
  ·exact h1 a (.inl (by rw[av];exact fc _ ag))
  exact WT r _ (h1 r (.inl (by rw[av];exact eF ..))) ah.1 a ag
 | input x r t hk aa ae av hi=>
  obtain⟨h1,U⟩:=h.at aa;rw[hi]at U;refine h.setW (fun a ag=>?_) (fun a ag=>U a (fc _ ag));rcases ag with ag | ag
  ·obtain rfl:a=r:=by simpa using ag
   exact WU a (U a (eF ..))
  cases ag
 | ey x r t hk aa ae aN=>
  obtain⟨h1,U⟩:=h.at aa;rw[ae]at h1;refine h.setW (fun a ag=>?_) U;rcases ag with ag | ag
  ·rcases gY.1 ag with ag | ag
   ·exact h1 a (.inl ag)
   obtain rfl:a=r:=by simpa using ag
   exact h1 a (.inr (eF ..))
  exact h1 a (.inr (fc _ ag))
 | send x r t l hk aa ae aN af hsend=>
  obtain⟨_,_,_,e1⟩:=By hsend;obtain⟨h1,U⟩:=h.at aa;rw[ae]at h1;refine (h.c0 (i:=dF c.aF p.a (eE r.key c.aF.ap)) (m:=(eI l r).1) fun a ag=>?_).setW (c:=Go.Proofs.YtdchjefneblpgaaGreat.c0 c _ _) (fun a ag=>h1 a (ag.imp id (fc _))) U;rw[e1]at ag;rcases gY.1 ag with ag | ag
  ·exact h.l l (c8 (iq af).2.2) a ag
  obtain rfl:a=r:=by simpa using ag
  exact h1 a (.inr (eF ..))
 | take l x hk dW af aa bt=>
  obtain⟨_,r,q,av,e2,e1⟩:=wU bt;obtain⟨h1,U⟩:=h.at aa;have au:=h.l l (c8 (iq af).2.2);rw[av]at au;refine (h.c0 (i:=dF c.aF p.a p.b) (m:=(dJ l).1) fun a ag=>?_).setW (c:=Go.Proofs.YtdchjefneblpgaaGreat.c0 c _ _) (fun a ag=>?_) U
  ·rw[e1]at ag;exact au a (fc _ ag)
  rcases ag with ag | ag
  ·rcases gY.1 ag with ag | ag
   ·exact h1 a (.inl ag)
   obtain rfl:a=_:=by simpa using ag
   rw[e2];exact au r (eF ..)
  exact h1 a (.inr ag)
 | o3 l hk dW af ad=>
  rcases wV l with⟨k,_⟩ | ⟨_,_,_,e1⟩
  ·rw[ad]at k;cases k
  refine h.c0 fun a ag=>?_
  rw[e1]at ag;exact h.l l (c8 (iq af).2.2) a ag
 | token t x cJ hk ig bm ax bt aa o5=>exact h.d' aa
 | o6 k n x hk aL ax aa=>
  have:ky F I (Go.Proofs.YtdchjefneblpgaaGreat.setW c p.a (dZ x n)):=by
   obtain⟨h1,U⟩:=h.at aa;unfold dZ;split
   ·exact h.setW h1 U
   exact h.setW h1 U
  exact⟨this.w,this.l,this.i⟩
theorem T6{g:bW}{k a b c:Int}{v:Nat}(bj:v<=4)(aL:g.nodes=kl k a b c v){op:Int}(bm:0<=op)(h1:op<g.nodes.length):
  ∃y,fY g op=some y/\((op=0/\y.kind=1/\(y.outs=[1]\/y.outs=[1,6]))\/(op=1/\y.kind=k/\y.outs=[2,5])\/(op=2/\y.kind=4/\y.a=1+a/\(y.outs=[3]\/y.outs=[3,4]))\/
   (op=3/\((y.kind=2/\y.a=b)\/y.kind=3)/\y.outs=[4])\/(op=4/\((y.kind=7/\y.outs=[1])\/(y.kind=8/\y.outs=[])))\/((op=5\/op=6)/\y.kind=8/\y.outs=[])):=by
 unfold fY;rw[a6 bm];rw[aL]at h1 ⊢;have e:op=0\/op=1\/op=2\/op=3\/op=4\/op=5\/op=6:=by
  have:(kl k a b c v).length<=7:=by
   have mK:v=0\/v=1\/v=2\/v=3\/v=4:=by omega
   rcases mK with rfl | rfl | rfl | rfl | rfl<;>exact Nat.le_of_ble_eq_true rfl
  omega
 have mK:v=0\/v=1\/v=2\/v=3\/v=4:=by omega
 rcases e with rfl | rfl | rfl | rfl | rfl | rfl | rfl
 ·rcases mK with rfl | rfl | rfl | rfl | rfl
  all_goals exact⟨_,rfl,.inl ⟨rfl,rfl,by first | exact .inl rfl | exact .inr rfl⟩⟩
 ·rcases mK with rfl | rfl | rfl | rfl | rfl
  all_goals exact⟨_,rfl,.inr (.inl ⟨rfl,rfl,rfl⟩)⟩
 ·rcases mK with rfl | rfl | rfl | rfl | rfl
  all_goals exact⟨_,rfl,.inr (.inr (.inl ⟨rfl,rfl,rfl,by first | exact .inl rfl | exact .inr rfl⟩))⟩
 ·rcases mK with rfl | rfl | rfl | rfl | rfl
  all_goals exact⟨_,rfl,.inr (.inr (.inr (.inl ⟨rfl,by first | exact .inr rfl | exact .inl ⟨rfl,rfl⟩,rfl⟩)))⟩
 ·rcases mK with rfl | rfl | rfl | rfl | rfl
  all_goals exact⟨_,rfl,.inr (.inr (.inr (.inr (.inl ⟨rfl,by first | exact .inl ⟨rfl,rfl⟩ | exact .inr ⟨rfl,rfl⟩⟩))))⟩
 ·rcases mK with rfl | rfl | rfl | rfl | rfl
  all_goals exact⟨_,rfl,.inr (.inr (.inr (.inr (.inr ⟨.inl rfl,rfl,rfl⟩))))⟩
 rcases mK with rfl | rfl | rfl | rfl | rfl
 ·exact absurd h1 (by simp[kl,rC])
 ·exact absurd h1 (by simp[kl,rC])
 ·exact absurd h1 (by simp[kl,rC])
 ·exact⟨_,rfl,.inr (.inr (.inr (.inr (.inr ⟨.inr rfl,rfl,rfl⟩))))⟩
 exact absurd h1 (by simp[kl,rC])
structure xl (A B:Int) (x r:aA) (j:Nat):Prop where
 a8:r.bc.a8=x.bc.a8
 cD:0<=r.bc.cD/\r.bc.cD<=6
 aqV:(j:Int)<=r.bc.cD+(if r.op=4 then 1 else 0)
 val:r.val=x.val+B*j
 key:r.key=(x.key+A*(r.bc.cD+(if r.op=3\/r.op=4 then 1 else 0))) % 100
def Form(A B:Int)(xs:List aA)(r:aA):Prop:=∃x∈xs,∃j,xl A B x r j
def nc(op cD:Int):Nat:=
 if op=0 then 7 else if op=1 then 1 else if op=2 then (if cD<6 then 16 else 10) else if op=3 then (if cD<6 then 7 else 4) else if op=4 then (if cD<6 then 4 else 1) else 1
def wt(r:aA):Nat:=nc r.op r.bc.cD
def si(t:Int):Nat:=if t<6 then 21 else 15
theorem KU{x:Node}{r:aA}(aL:bM x=true)(ar:fZ r=true)(U:x.kind≠2)(au:x.kind≠3)(aH:x.kind≠4):dc x r.key r.val=(r.key,r.val,x.kind != 8):=by
 unfold dc;rw[aL,BF ar];simp only[Bool.and_self,fO,aX U,aX au,aX aH]
theorem T7{B:Int}{j:Nat}(od:0<=B/\B<4)(aM:j<=7):0<=B*j/\B*j<=21:=by
 have h:B=0\/B=1\/B=2\/B=3:=by omega
 rcases h with rfl | rfl | rfl | rfl<;>omega
theorem T8{g:bW}{k a b c:Int}{v:Nat}(hk:k=5\/k=6)(ah:0<=b/\b<4)(ag:0<=a/\a<3)(bj:v<=4)(aL:g.nodes=kl k a b c v)(ao:fa g=true){x r:aA}{j:Nat}(aa:Input x)(bl:xl (1+a) b x r j)
  (ar:km g r=false) (cs:List Cell):
  cW (fun q=>wt q+2) (dL g cs r).2.1+1<=wt r+(if r.op=1/\(cR k cs (cellOf r)).2=true then si r.bc.cD else 0)/\∀q∈(dL g cs r).2.1,∃i,xl (1+a) b x q i:=by
 simp only[km,gz,lf,jO]at ar;obtain⟨bH,bq⟩:=ar;have bm:0<=r.op:=by
  simp only[fZ,aW,ca,ci]at bH;omega
 obtain⟨f1,f2,f3,f4,f5⟩:=bl;obtain⟨y,a1,ad⟩:=T6 bj aL bm (by omega);have nk:=SJ ao a1;rw[aeH ao bH a1];rcases ad with⟨aN,jA,hs⟩ | ⟨aN,jA,hs⟩ | ⟨aN,jA,Hy,hs⟩ | ⟨aN,jA,hs⟩ | ⟨aN,jA⟩ | ⟨aN,jA,hs⟩
 ·
  rw[KU nk bH (by omega) (by omega) (by omega),w2 (by omega) (by omega) (by omega),jA];simp[aN]at f3 f5;rcases hs with hs | hs
  ·refine⟨by simp[fo,hs,cW,wt,nc,aN],fun q av=>?_⟩;simp[fo,hs]at av;subst av;exact⟨j,f1,f2,by simpa using f3,f4,by simpa using f5⟩
  refine⟨by simp[fo,hs,cW,wt,nc,aN],fun q av=>?_⟩;simp[fo,hs]at av;rcases av with rfl | rfl
  ·exact⟨j,f1,f2,by simpa using f3,f4,by simpa using f5⟩
  exact⟨j,f1,f2,by simpa using f3,f4,by simpa using f5⟩
 ·
  rw[KU nk bH (by omega) (by omega) (by omega),jA];simp[aN]at f3 f5;have CZ:(k != 8)=true:=by rcases hk with rfl | rfl<;>rfl
  have Ny:k≠7:=by omega
  cases arX:(cR k cs (cellOf r)).2 with
  | false=>exact⟨by simp[CZ,cW,wt,nc,aN],fun q av=>by simp[CZ]at av⟩
  | true=>
   refine⟨?_,fun q av=>?_⟩
   ·simp only[CZ,ks,Bool.false_and,mm,j4,Ny,fo,hs,aN,and_self,fO,reduceCtorEq];simp only[iT,List.map_nil,cW,oY,List.sum_nil,wt,nc,si];by_cases br:r.bc.cD<6
    ·simp[br,aN]
    simp[br,aN]
   simp[CZ,Ny,fo,hs]at av;rcases av with rfl | rfl
   ·exact⟨j,f1,f2,by simpa using f3,f4,by simpa using f5⟩
   exact⟨j,f1,f2,by simpa using f3,f4,by simpa using f5⟩
 ·
  have so:dc y r.key r.val=((r.key+y.a).tmod 100,r.val,true):=by
   unfold dc;rw[nk,BF bH,jA];rfl
  rw[so,w2 (by omega) (by omega) (by omega),jA];simp[aN]at f3 f5;have XW:(r.key+y.a).tmod 100=(x.key+(1+a)*(r.bc.cD+1)) % 100:=by
   rw[Int.mul_add,Int.mul_one,f5,Hy,Int.tmod_eq_emod_of_nonneg (by omega)];generalize (1+a)*r.bc.cD=m;omega
  rw[XW];have eH:∃i,xl (1+a) b x ⟨3,r.bc,(x.key+(1+a)*(r.bc.cD+1)) % 100,r.val⟩ i:=⟨j,f1,f2,by simpa using f3,f4,by simp⟩
  have l1:∃i,xl (1+a) b x ⟨4,r.bc,(x.key+(1+a)*(r.bc.cD+1)) % 100,r.val⟩ i:=⟨j,f1,f2,by dsimp only;rw[a6 rfl];omega,f4,by simp⟩
  rcases hs with hs | hs
  ·refine⟨?_,fun q av=>?_⟩
   ·simp only[fo,hs];by_cases br:r.bc.cD<6<;>simp[cW,wt,nc,aN,br]
   simp[fo,hs]at av;subst av;exact eH
  refine⟨?_,fun q av=>?_⟩
  ·simp only[fo,hs];by_cases br:r.bc.cD<6<;>simp[cW,wt,nc,aN,br]
  simp[fo,hs]at av;rcases av with rfl | rfl
  ·exact eH
  exact l1
 ·
  simp[aN]at f3 f5;have hm:=T7 ah (j:=j) (by omega);have o8:=T7 ah (j:=j+1) (by omega);obtain⟨_,_,_,_,sF⟩:=aa;rcases jA with⟨jA,Hy⟩ | jA
  ·have so:dc y r.key r.val=(r.key,r.val+b,true):=by
    unfold dc;rw[nk,BF bH,jA];simp only[Bool.and_self,fO,Hy];rw[show less (r.val+b) 999=r.val+b by unfold less;rw[aX (by omega)]]
   rw[so,w2 (by omega) (by omega) (by omega),jA];refine⟨?_,fun q av=>?_⟩
   ·simp only[fo,hs];by_cases br:r.bc.cD<6<;>simp[cW,wt,nc,aN,br]
   simp[fo,hs]at av;subst av;refine⟨j+1,f1,f2,by dsimp only;rw[a6 rfl];omega,?_,by simpa using f5⟩;dsimp only;rw[f4,Int.natCast_add,Int.mul_add];omega
  have so:∃z,dc y r.key r.val=(r.key,r.val,z):=by
   unfold dc;rw[nk,BF bH,jA];exact⟨_,rfl⟩
  obtain⟨z,so⟩:=so;rw[so,w2 (by omega) (by omega) (by omega),jA];cases z with
  | false=>
   refine⟨?_,fun q av=>by simp at av⟩;by_cases br:r.bc.cD<6<;>simp[cW,wt,nc,aN,br]
  | true=>
   refine⟨?_,fun q av=>?_⟩
   ·simp only[fo,hs];by_cases br:r.bc.cD<6<;>simp[cW,wt,nc,aN,br]
   simp[fo,hs]at av;subst av;exact⟨j,f1,f2,by dsimp only;rw[a6 rfl];omega,f4,by simpa using f5⟩
 ·
  simp[aN]at f3 f5;rcases jA with⟨jA,hs⟩ | ⟨jA,hs⟩
  ·rw[KU nk bH (by omega) (by omega) (by omega),w2 (by omega) (by omega) (by omega),jA];unfold gI;by_cases br:r.bc.cD<6
   ·have ew:(k6 r.bc&&decide (r.bc.cD<6))=true:=by
     simp only[fZ,ca]at bH;rw[bH.1.2,ji br];rfl
    rw[a6 ew];refine⟨?_,fun q av=>?_⟩
    ·simp[fo,hs,cW,wt,nc,aN,br]
    simp[fo,hs]at av;subst av;exact⟨j,f1,⟨by dsimp only;omega,by dsimp only;omega⟩,by simpa using f3,f4,by simpa using f5⟩
   rw[aX (by simp[br])];refine⟨?_,fun q av=>by simp[br]at av⟩;simp[cW,wt,nc,aN,br]
  have aR:∀s b8 la,fo y s b8 la=[]:=fun s b8 la=>by simp[fo,hs]
  simp only[aR,ite_self];refine⟨?_,fun q av=>by cases av⟩;by_cases br:r.bc.cD<6<;>simp[cW,wt,nc,aN,br]
 -- out
 have aR:∀s b8 la,fo y s b8 la=[]:=fun s b8 la=>by simp[fo,hs]
 simp only[aR,ite_self];refine⟨?_,fun q av=>by cases av⟩;rcases aN with aN | aN<;>simp[cW,wt,nc,aN]
end Go.Proofs.YtdchjefneblpgaaGreat
namespace Go.Proofs.YtdchjefneblpgaaGreat
open Go.Sx Go.RowKit Go.Proofs.Tryz
theorem E8{α:Type}{f g:α->Nat}:∀{xs:List α},(∀u∈xs,f u<=g u)->cW f xs<=cW g xs
 | [],_=>dm _
 | x::xs,h=>by
  have h1:=h x (eF ..);have U:=E8 (f:=f) (g:=g) (xs:=xs) fun u hu=>h u (fc _ hu)
  simp only[cW,iT,oY]at U ⊢;omega
theorem T9{α:Type}{f g:α->Nat}{m:Nat}{u:α}:∀{xs:List α},(∀u∈xs,f u<=g u)->u∈xs->f u+m<=g u->cW f xs+m<=cW g xs
 | [],_,h,_=>by cases h
 | x::xs,h,hu,hm=>by
  have h1:=h x (eF ..);have U:∀u∈xs,f u<=g u:=fun u hu=>h u (fc _ hu)
  simp only[cW,iT,oY];rcases dG.1 hu with rfl | hu
  ·have:=E8 U;unfold cW at this;omega
  have:=T9 U hu hm;unfold cW at this;omega
theorem BJ{α:Type}{f:α->Nat}{xs ys:List α}:cW f (xs++ys)=cW f xs+cW f ys:=by
 simp[cW]
theorem lI{α:Type}{f:α->Nat}{x:α}{xs:List α}:cW f (x::xs)=f x+cW f xs:=by simp[cW]
theorem w4{α:Type}{f:α->Nat}:cW f []=0:=rfl
def F'(A B:Int)(x:aA)(t j:Nat):Cell:=⟨1,x.bc.a8,(x.key+A*t) % 100,x.val+B*j⟩
def univ(A B:Int)(xs:List aA):List (Nat×Cell):=xs.flatMap fun x=>(List.range 7).flatMap fun t=>(List.range (t+1)).map fun j=>(t,F' A B x t j)
def rQ(k n:Int)(jV:List (List Cell))(u:Cell):Bool:=match jV[(eE u.key n).toNat]? with | some cs=>(cR k cs u).2 | none=>false
def zw(k n:Int)(jV:List (List Cell))(u:Nat×Cell):Nat:=if rQ k n jV u.2=true then si u.1 else 0
def xX(k n:Int)(jV:List (List Cell))(bO:List (Nat×Cell)):Nat:=cW (zw k n jV) bO
theorem T'(A B:Int):∀xs:List aA,cW (fun u=>si u.1) (univ A B xs)=xs.length*546
 | []=>rfl
 | x::xs=>by
  have dt:=T' A B xs;unfold univ at dt ⊢;rw[List.flatMap_cons,BJ,dt,dn];have:cW (fun u:Nat×Cell=>si u.1) ((List.range 7).flatMap fun t=>(List.range (t+1)).map fun j=>(t,F' A B x t j))=546:=by
   simp[cW,List.range_succ,si]
  omega
theorem ahG(k n A B:Int)(jV:List (List Cell))(xs:List aA):xX k n jV (univ A B xs)<=xs.length*546:=by
 rw[<-T' A B xs];refine E8 fun u _=>?_
 unfold zw;split
 ·exact dm _
 exact Nat.zero_le _
theorem ahH{A B:Int}{xs:List aA}{x r:aA}{j:Nat}(aa:x∈xs)(h:xl A B x r j)(aN:r.op=1):(r.bc.cD.toNat,cellOf r)∈univ A B xs:=by
 obtain⟨f1,f2,f3,f4,f5⟩:=h;simp[aN]at f3 f5;unfold univ;refine jN.2 ⟨x,aa,jN.2 ⟨r.bc.cD.toNat,List.mem_range.2 (by omega),h'.2 ⟨j,List.mem_range.2 (by omega),?_⟩⟩⟩;unfold F' cellOf;rw[Int.toNat_of_nonneg f2.1,<-f5,<-f4,f1,aN]
variable{k:Int}{jV:List (List Cell)}{i:Nat}{cs qU:List Cell}
theorem Ua{n:Int}(hi:jV[i]?=some cs){u:Cell}(h:(cR k qU u).2=true->(cR k cs u).2=true):rQ k n (jV.set i qU) u=true->rQ k n jV u=true:=by
 unfold rQ;rw[iS];by_cases G2:i=(eE u.key n).toNat
 ·rw[a6 G2,a6 (bh hi),<-G2,hi];exact h
 rw[aX G2];exact id
theorem ahI{n:Int}(hi:jV[i]?=some cs){bO:List (Nat×Cell)}(h:∀u∈bO,(cR k qU u.2).2=true->(cR k cs u.2).2=true):xX k n (jV.set i qU) bO<=xX k n jV bO:=by
 refine E8 fun u hu=>?_
 unfold zw;by_cases ao:rQ k n (jV.set i qU) u.2=true
 ·rw[a6 ao,a6 (Ua hi (h u hu) ao)];exact dm _
 rw[aX ao];exact Nat.zero_le _
theorem ahJ{n:Int}(hi:jV[i]?=some cs){bO:List (Nat×Cell)}(h:∀u∈bO,(cR k qU u.2).2=true->(cR k cs u.2).2=true)
  {u:Nat×Cell} (hu:u∈bO) (aN:(eE u.2.key n).toNat=i) (h1:(cR k cs u.2).2=true) (U:(cR k qU u.2).2=false):xX k n (jV.set i qU) bO+si u.1<=xX k n jV bO:=by
 refine T9 (fun u hu=>?_) hu ?_
 ·unfold zw;by_cases ao:rQ k n (jV.set i qU) u.2=true
  ·rw[a6 ao,a6 (Ua hi (h u hu) ao)];exact dm _
  rw[aX ao];exact Nat.zero_le _
 have g1:rQ k n jV u.2=true:=by unfold rQ;rw[aN,hi];exact h1
 have g2:rQ k n (jV.set i qU) u.2=false:=by unfold rQ;rw[aN,oO hi];exact U
 unfold zw;rw[a6 g1,aX (by rw[g2];decide)];omega
def hJ(x:aP):Nat:=cW wt x.queue+cW (fun r=>wt r+2) x.ck+cW (fun r=>wt r+1) x.bT
def oD(l:bC):Nat:=cW (fun r=>wt r+1) l.queue+l.back.toNat
structure kx where
 k:Int
 a:Int
 b:Int
 c:Int
 v:Nat
 xs:List aA
def kx.bO(P:kx):List (Nat×Cell):=univ (1+P.a) P.b P.xs
def gl(P:kx)(c:aU):Nat:=cW hJ c.ap+cW oD c.bQ+xX P.k c.aF.ap (c.ap.map aP.cells) P.bO
structure kx.zj (P:kx) (c:aU):Prop where
 k:P.k=5\/P.k=6
 a:0<=P.a/\P.a<3
 b:0<=P.b/\P.b<4
 v:P.v<=4
 nodes:c.aF.nodes=kl P.k P.a P.b P.c P.v
 bT:∀r∈P.xs,Input r
 U0:ky (Form (1+P.a) P.b P.xs) (fun r=>r∈P.xs) c
variable{P:kx}{c:aU}
theorem kx.zj.step{d:aU}{p:cE}(h:P.zj c)(bH:cF c=true)(st:Step c p d)(ao:d.aF=c.aF):P.zj d:=by
 refine⟨h.k,h.a,h.b,h.v,by rw[ao];exact h.nodes,h.bT,h.U0.step (fun r ar=>?_) (fun r cs bl ah q av=>?_) bH st⟩
 ·obtain⟨i1,i2,i3,i4,i5⟩:=h.bT r ar;refine⟨r,ar,0,rfl,by omega,by rw[i2,i1];decide,by omega,?_⟩;rw[i2,i1];simp only[show ¬((0:Int)=3\/(0:Int)=4) by decide,j4,Int.add_zero,Int.mul_zero];omega
 obtain⟨x,aa,j,bl⟩:=bl;obtain⟨i,hi⟩:=(T8 h.k h.b h.a h.v h.nodes (fU.1 bH).1 (h.bT x aa) bl ah cs).2 q av;exact⟨x,aa,i,hi⟩
theorem w5{P:kx}{c:aU}{i:Int}{x y:aP}(aa:b9 c i=some x)(ad:y.cells=x.cells):gl P (setW c i y)+hJ x=gl P c+hJ y:=by
 obtain⟨_,_,U⟩:=er aa;have h:=D6 (f:=hJ) y U;have e:(c.ap.set i.toNat y).map aP.cells=c.ap.map aP.cells:=by
  rw[jj,ad];exact AG (by rw[c9,U];rfl)
 unfold gl;simp only[setW,e];omega
theorem KV{P:kx}{i:Int}{l m:bC}(af:ee c i=some l):gl P (c0 c i m)+oD l=gl P c+oD m:=by
 have h:=D6 (f:=oD) m (iq af).2.2;unfold gl;simp only[c0];omega
theorem ahK{e:Int}{t:b'}{x:aP}(aa:b9 c t.place=some x):gl P (d' c e t x).1=gl P c:=by
 have hw:∀u:b',gl P (setW (cP c e u) t.place (eg x e))=gl P c:=fun u=>by
  have:=w5 (P:=P) (c:=cP c e u) (y:=eg x e) aa rfl;have e1:gl P (cP c e u)=gl P c:=rfl;have e2:hJ (eg x e)=hJ x:=rfl;omega
 rcases oS c e t x with⟨_,k⟩ | ⟨_,_,⟨_,k⟩ | ⟨_,_,k⟩ | ⟨_,bm,_,k⟩ | ⟨_,_,_,k⟩⟩
 ·rw[k]
 ·rw[k];exact hw _
 ·rw[k];exact hw _
 ·rw[k];have aR:t.place=0:=by have:=(er aa).1;omega
  rw[aR]at aa;have:=w5 (P:=P) (c:=cP c e ⟨false,t.place,t.sum,t.bL,t.ct⟩) (y:=told x e (t.ct||x.bA.getD e.toNat false)) aa rfl;have e1:gl P (cP c e ⟨false,t.place,t.sum,t.bL,t.ct⟩)=gl P c:=rfl;have e2:hJ (told x e (t.ct||x.bA.getD e.toNat false))=hJ x:=rfl;change gl P (setW (cP c e ⟨false,t.place,t.sum,t.bL,t.ct⟩) 0 (told x e (t.ct||x.bA.getD e.toNat false)))=_;omega
 rw[k];rfl
theorem ahL{d:aU}{p:cE}(h:P.zj c)(sO:jk c)(bH:cF c=true)(st:Step c p d):gl P d+(if p.kind<=5/\p.kind≠4 then 1 else 0)<=gl P c:=by
 have ao:=(fU.1 bH).1;cases st with
 | work x r q hk aa ae av=>
  rw[a6 (show p.kind<=5/\p.kind≠4 by omega)];obtain⟨cJ,kp,gM⟩:=er aa;have bz:=jH bH aa;have ah:=(h6.1 bz).1;rw[av,qj]at ah;obtain⟨aqL,De,j,bl⟩:=(h.U0.at aa).1 r (.inl (by rw[av];exact eF ..));obtain⟨Ng,_⟩:=T8 h.k h.b h.a h.v h.nodes ao (h.bT aqL De) bl ah.1 x.cells;have ar:=ah.1;simp only[km,gz,lf,jO]at ar;have p7:0<=r.op:=by
   have:=ar.1;simp only[fZ,aW,ca,ci]at this;omega
  obtain⟨y,a1,xQ⟩:=T6 h.v h.nodes p7 (by omega);have eU:=aeG (cs:=x.cells) ao ar.1 a1;have mC:(c.ap.map aP.cells)[p.a.toNat]?=some x.cells:=by rw[c9,gM];rfl
  have jC:(eE (cellOf r).key c.aF.ap).toNat=p.a.toNat:=by
   have:=(sO.at aa).1 r (by rw[av];exact eF ..);change (eE r.key c.aF.ap).toNat=_;omega
  have mono:∀u∈P.bO,(cR P.k (dL c.aF x.cells r).1 u.2).2=true->(cR P.k x.cells u.2).2=true:=by
   intro u hu h1;have fJ:u.2.op=1:=by
    unfold kx.bO univ at hu;obtain⟨gy,_,hu⟩:=jN.1 hu;obtain⟨t,_,hu⟩:=jN.1 hu;obtain⟨ke,_,rfl⟩:=h'.1 hu;rfl
   have xG:P.k=5\/P.k=6\/P.k=8:=by have:=h.k;omega
   cases U:(cR P.k x.cells u.2).2 with
   | true=>rfl
   | false=>
    have xB:=aeD (k:=P.k) (b8:=y.kind) xG (y:=cellOf r) (u:=u.2) (fun e=>by
     rw[fJ]at e;change r.op=1 at e;rcases xQ with⟨aN,_⟩ | ⟨_,xQ,_⟩ | ⟨aN,_⟩ | ⟨aN,_⟩ | ⟨aN,_⟩ | ⟨aN,_⟩
     ·omega
     ·exact xQ
     ·omega
     ·omega
     ·omega
     omega) ((E0 xG _ _).1 U)
    rw[<-eU]at xB;rw[(E0 xG _ _).2 xB]at h1;cases h1
  have hw:=D6 (f:=hJ) (⟨q,(dL c.aF x.cells r).2.1,x.bT,(dL c.aF x.cells r).1,x.bK,x.bL,(if ct c.aF r then x.bA.set r.bc.a8.toNat true else x.bA),x.cu⟩:aP) gM;have Hf:hJ x=wt r+cW wt q+cW (fun r=>wt r+1) x.bT:=by
   unfold hJ;rw[av,ae,lI,w4];omega
  have arW:hJ ⟨q,(dL c.aF x.cells r).2.1,x.bT,(dL c.aF x.cells r).1,x.bK,x.bL,(if ct c.aF r then x.bA.set r.bc.a8.toNat true else x.bA),x.cu⟩=cW wt q+cW (fun r=>wt r+2) (dL c.aF x.cells r).2.1+cW (fun r=>wt r+1) x.bT:=rfl;unfold gl;simp only[setW,jj];by_cases hp:r.op=1/\(cR P.k x.cells (cellOf r)).2=true
  ·rw[a6 hp]at Ng;have gu:y.kind=P.k:=by
    rcases xQ with⟨aN,_⟩ | ⟨_,xQ,_⟩ | ⟨aN,_⟩ | ⟨aN,_⟩ | ⟨aN,_⟩ | ⟨aN,_⟩
    ·omega
    ·exact xQ
    ·omega
    ·omega
    ·omega
    omega
   have af:=ahJ (n:=c.aF.ap) mC mono (ahH De bl hp.1) jC hp.2 (by
    rw[eU,gu];have xG:P.k=5\/P.k=6\/P.k=8:=by have:=h.k;omega
    exact (E0 xG _ _).2 (aeE xG hp.2))
   have bt:si (r.bc.cD.toNat:Nat)=si r.bc.cD:=by rw[Int.toNat_of_nonneg bl.cD.1]
   rw[bt]at af;omega
  rw[aX hp]at Ng;have af:=ahI (n:=c.aF.ap) mC mono;omega
 | input x r t hk aa ae av hi=>
  rw[a6 (show p.kind<=5/\p.kind≠4 by omega)];have:=w5 (P:=P) (y:=⟨[r],[],t,x.cells,x.bK,x.bL,x.bA,x.cu⟩) aa rfl;simp only[hJ,ae,av,hi,lI,w4]at this;omega
 | ey x r t hk aa ae aN=>
  rw[a6 (show p.kind<=5/\p.kind≠4 by omega)];have:=w5 (P:=P) (y:=kept (iP x t) r) aa rfl;have e1:hJ x=cW wt x.queue+(wt r+2+cW (fun r=>wt r+2) t)+cW (fun r=>wt r+1) x.bT:=by simp only[hJ,ae,lI]
  have e2:hJ (kept (iP x t) r)=cW wt x.queue+(wt r+0)+cW (fun r=>wt r+2) t+cW (fun r=>wt r+1) x.bT:=by simp only[hJ,kept,iP,BJ,lI,w4]
  omega
 | send x r t l hk aa ae aN af hsend=>
  rw[a6 (show p.kind<=5/\p.kind≠4 by omega)];obtain⟨_,_,_,e1⟩:=By hsend;have h1:=KV (P:=P) (m:=(eI l r).1) af;have U:=w5 (P:=P) (c:=c0 c (dF c.aF p.a (eE r.key c.aF.ap)) (eI l r).1) (y:=ma (iP x t) r.bc.a8) aa rfl;have cC:hJ x=cW wt x.queue+(wt r+2+cW (fun r=>wt r+2) t)+cW (fun r=>wt r+1) x.bT:=by simp only[hJ,ae,lI]
  have b6:hJ (ma (iP x t) r.bc.a8)=cW wt x.queue+cW (fun r=>wt r+2) t+cW (fun r=>wt r+1) x.bT:=rfl;have eH:oD (eI l r).1=oD l+(wt r+1):=by
   rw[e1];simp only[oD,BJ,lI,w4];omega
  omega
 | take l x hk dW af aa bt=>
  rw[aX (show ¬(p.kind<=5/\p.kind≠4) by omega)];obtain⟨iB,r,q,av,e2,e1⟩:=wU bt;have ah:=(oR.1 iB).2.2.1;simp only[aW,ci]at ah;have h1:=KV (P:=P) (m:=(dJ l).1) af;have U:=w5 (P:=P) (c:=c0 c (dF c.aF p.a p.b) (dJ l).1) (y:=hV x (dJ l).2.1) aa rfl;have b6:hJ (hV x (dJ l).2.1)=hJ x+wt r:=by
   rw[e2];simp only[hJ,hV,BJ,lI,w4];omega
  have eH:oD (dJ l).1+wt r=oD l:=by
   rw[e1];simp only[oD,av,lI];omega
  omega
 | o3 l hk dW af ad=>
  rw[a6 (show p.kind<=5/\p.kind≠4 by omega)];rcases wV l with⟨k,_⟩ | ⟨_,iB,hS,e1⟩
  ·rw[ad]at k;cases k
  have ah:=(oR.1 iB).2.2.1;simp only[aW,ci]at ah;have h1:=KV (P:=P) (m:=(gw l).1) af;rw[e1]at h1 ⊢;simp only[oD]at h1;omega
 | token t x cJ hk ig bm ax bt aa o5=>
  rw[aX (show ¬(p.kind<=5/\p.kind≠4) by omega),ahK aa];exact dm _
 | o6 k n x hk aL ax aa=>
  rw[aX (show ¬(p.kind<=5/\p.kind≠4) by omega)];have:gl P (setW c p.a (dZ x n))+hJ x=gl P c+hJ (dZ x n):=w5 aa (by unfold dZ;split<;>rfl);have e:hJ (dZ x n)=hJ x:=by unfold dZ;split<;>rfl
  change gl P (setW c p.a (dZ x n))+0<=_;omega
theorem KW{α:Type}{f g:α->Nat}:∀xs:List α,cW (fun x=>f x+g x) xs=cW f xs+cW g xs
 | []=>rfl
 | x::xs=>by rw[lI,lI,lI,KW xs];omega
theorem yZ{α:Type}:∀xs:List α,cW (fun _=>0) xs=0
 | []=>rfl
 | x::xs=>by rw[lI,yZ xs]
theorem w6{α:Type}{f g:α->Nat}:∀{xs:List α},(∀u∈xs,f u=g u)->cW f xs=cW g xs
 | [],_=>rfl
 | x::xs,h=>by rw[lI,lI,h x (eF ..),w6 fun u hu=>h u (fc _ hu)]
theorem KX(o:Int)(m:Nat):∀n:Nat,cW (fun w:Nat=>if o=(w:Int) then m else 0) (List.range n)=if 0<=o/\o<n then m else 0
 | 0=>by
  rw[FQ,w4,aX (by omega)]
 | n+1=>by
  rw[List.range_succ,BJ,KX o m n,lI,w4];by_cases h:o=(n:Int)
  ·rw[aX (by omega),a6 h,a6 (by omega)];omega
  rw[aX h];by_cases U:0<=o/\o<n
  ·rw[a6 U,a6 (by omega)];rfl
  rw[aX U,aX (by omega)]
def Ag(g:bW)(w e:Int)(r:aA):Bool:=r.bc.a8==e&&eE r.key g.ap==w
theorem KY(g:bW)(xs:List aA)(w:Int):(own g xs w).length=cW (fun e:Nat=>xs.countP (Ag g w e)) (List.range 4):=by
 unfold own oC;rw[List.length_flatMap];unfold cW
 congr 1
 refine kr fun e _=>?_
 rw[List.countP_eq_length_filter];rfl
theorem ahM(g:bW)(x:aA)(xs:List aA)(w:Int):(own g (x::xs) w).length=(own g xs w).length+(if eE x.key g.ap=w then (if 0<=x.bc.a8/\x.bc.a8<4 then 1 else 0) else 0):=by
 rw[KY,KY];have h:∀e:Nat,(x::xs).countP (Ag g w e)=xs.countP (Ag g w e)+(if eE x.key g.ap=w then (if x.bc.a8=(e:Int) then 1 else 0) else 0):=fun e=>by
  rw[List.countP_cons]
  congr 1
  unfold Ag;by_cases h1:eE x.key g.ap=w
  ·by_cases U:x.bc.a8=(e:Int)
   ·simp[h1,U]
   simp[h1,U]
  simp[h1]
 rw[w6 (g:=fun e:Nat=>xs.countP (Ag g w e)+(if eE x.key g.ap=w then (if x.bc.a8=(e:Int) then 1 else 0) else 0)) fun e _=>h e,KW]
 congr 1
 by_cases h1:eE x.key g.ap=w
 ·simp only[a6 h1];exact KX x.bc.a8 1 4
 simp only[aX h1];exact yZ _
theorem Ub{g:bW}(aL:1<=g.ap):∀xs:List aA,(∀r∈xs,0<=r.bc.a8/\r.bc.a8<4)->cW (fun w:Nat=>(own g xs w).length) (List.range g.ap.toNat)=xs.length
 | [],_=>by
  rw[w6 (g:=fun _=>0) fun w _=>by rw[KY];exact yZ _,yZ];rfl
 | x::xs,h=>by
  have aa:=h x (eF ..);have aN:=D2 x.key aL;simp only[aW,ci]at aN;rw[w6 (g:=fun w:Nat=>(own g xs w).length+(if eE x.key g.ap=(w:Int) then 1 else 0)) fun w _=>by rw[ahM,a6 aa],KW,Ub aL xs fun r ar=>h r (fc _ ar),KX,a6 (by omega)];rfl
theorem ai5{g:bW}(h:lx g P.xs=true)(hi:∀r∈P.xs,Input r):gl P (eO g P.xs)<=P.xs.length*554:=by
 have aL:=jZ (yW.1 h).1;have h1:cW hJ (eO g P.xs).ap=P.xs.length*8:=by
  have e:cW hJ (eO g P.xs).ap=cW (fun w:Nat=>8*(own g P.xs w).length) (List.range g.ap.toNat):=by
   unfold eO oT cW;rw[List.map_map]
   congr 1
   refine kr fun w _=>?_
   change 0+0+cW (fun r=>wt r+1) (own g P.xs w)=_;have:cW (fun r=>wt r+1) (own g P.xs w)=cW (fun _=>8) (own g P.xs w):=w6 fun r ar=>by
    have:=(hi r (E3 ar).1).1;unfold wt nc;rw[a6 this]
   rw[this];simp only[cW,List.map_const',List.sum_replicate_nat];omega
  have e2:∀ws:List Nat,cW (fun w:Nat=>8*(own g P.xs w).length) ws=8*cW (fun w:Nat=>(own g P.xs w).length) ws:=fun ws=>by
   induction ws with
   | nil=>rfl
   | cons w ws dt=>rw[lI,lI,dt];omega
  rw[e,e2,Ub aL.1 P.xs fun r ar=>by have:=(hi r ar).2.2.1;omega];omega
 have U:cW oD (eO g P.xs).bQ=0:=by
  have:cW oD (eO g P.xs).bQ=cW (fun _=>0) (eO g P.xs).bQ:=w6 fun l af=>by
   rw[List.eq_of_mem_replicate af];rfl
  rw[this,yZ]
 have au:=ahG P.k (eO g P.xs).aF.ap (1+P.a) P.b ((eO g P.xs).ap.map aP.cells) P.xs;unfold gl kx.bO;omega
